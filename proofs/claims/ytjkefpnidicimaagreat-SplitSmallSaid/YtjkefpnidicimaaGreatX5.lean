/- Part 5 of a proof: Z1, Z2, J2, LibFd, LibFe, LibFf, LibGf, LibGh, K9, LibAr, LibAs, LibGi, LibGj, K10, K11, K12, K14. -/
import Derived.Test.YtjkefpnidicimaaGreatX4
set_option maxHeartbeats 4000000
set_option maxRecDepth 100000
namespace An.S
open Go Go.Proofs An Tryz
instance ti283:TyI Tryz.prog 283 1 false:=⟨by kernel_rfl,by kernel_rfl⟩
instance ti291:TyI Tryz.prog 291 1 false:=⟨by kernel_rfl,by kernel_rfl⟩
instance ti293:TyI Tryz.prog 293 1 false:=⟨by kernel_rfl,by kernel_rfl⟩
instance ti296:TyI Tryz.prog 296 1 false:=⟨by kernel_rfl,by kernel_rfl⟩
instance ti297:TyI Tryz.prog 297 1 false:=⟨by kernel_rfl,by kernel_rfl⟩
instance ti302:TyI Tryz.prog 302 1 false:=⟨by kernel_rfl,by kernel_rfl⟩
instance ti307:TyI Tryz.prog 307 1 false:=⟨by kernel_rfl,by kernel_rfl⟩
instance ti312:TyI Tryz.prog 312 1 false:=⟨by kernel_rfl,by kernel_rfl⟩
instance ti317:TyI Tryz.prog 317 1 false:=⟨by kernel_rfl,by kernel_rfl⟩
instance ti322:TyI Tryz.prog 322 1 false:=⟨by kernel_rfl,by kernel_rfl⟩
instance ti326:TyI Tryz.prog 326 1 false:=⟨by kernel_rfl,by kernel_rfl⟩
instance ti331:TyI Tryz.prog 331 1 false:=⟨by kernel_rfl,by kernel_rfl⟩
instance ti335:TyI Tryz.prog 335 1 false:=⟨by kernel_rfl,by kernel_rfl⟩
instance ti339:TyI Tryz.prog 339 1 false:=⟨by kernel_rfl,by kernel_rfl⟩
instance ti344:TyI Tryz.prog 344 1 false:=⟨by kernel_rfl,by kernel_rfl⟩
instance ti348:TyI Tryz.prog 348 1 false:=⟨by kernel_rfl,by kernel_rfl⟩
instance ti353:TyI Tryz.prog 353 1 false:=⟨by kernel_rfl,by kernel_rfl⟩
instance ti358:TyI Tryz.prog 358 1 false:=⟨by kernel_rfl,by kernel_rfl⟩
theorem el37:ElI Tryz.prog 37 1 24 false (.slice none 0 0):=⟨ti37,by kernel_rfl,by kernel_rfl⟩
theorem el71:ElI Tryz.prog 71 1 24 false (.slice none 0 0):=⟨ti71,by kernel_rfl,by kernel_rfl⟩
theorem el113:ElI Tryz.prog 113 1 24 false (.slice none 0 0):=⟨ti113,by kernel_rfl,by kernel_rfl⟩
theorem el283:ElI Tryz.prog 283 1 24 false (.slice none 0 0):=⟨ti283,by kernel_rfl,by kernel_rfl⟩
theorem el291:ElI Tryz.prog 291 1 24 false (.slice none 0 0):=⟨ti291,by kernel_rfl,by kernel_rfl⟩
theorem el293:ElI Tryz.prog 293 1 24 false (.slice none 0 0):=⟨ti293,by kernel_rfl,by kernel_rfl⟩
theorem el296:ElI Tryz.prog 296 1 24 false (.slice none 0 0):=⟨ti296,by kernel_rfl,by kernel_rfl⟩
theorem el297:ElI Tryz.prog 297 1 24 false (.slice none 0 0):=⟨ti297,by kernel_rfl,by kernel_rfl⟩
theorem el302:ElI Tryz.prog 302 1 24 false (.slice none 0 0):=⟨ti302,by kernel_rfl,by kernel_rfl⟩
theorem el307:ElI Tryz.prog 307 1 24 false (.slice none 0 0):=⟨ti307,by kernel_rfl,by kernel_rfl⟩
theorem el312:ElI Tryz.prog 312 1 24 false (.slice none 0 0):=⟨ti312,by kernel_rfl,by kernel_rfl⟩
theorem el317:ElI Tryz.prog 317 1 24 false (.slice none 0 0):=⟨ti317,by kernel_rfl,by kernel_rfl⟩
theorem el322:ElI Tryz.prog 322 1 24 false (.slice none 0 0):=⟨ti322,by kernel_rfl,by kernel_rfl⟩
theorem el326:ElI Tryz.prog 326 1 24 false (.slice none 0 0):=⟨ti326,by kernel_rfl,by kernel_rfl⟩
theorem el331:ElI Tryz.prog 331 1 24 false (.slice none 0 0):=⟨ti331,by kernel_rfl,by kernel_rfl⟩
theorem el335:ElI Tryz.prog 335 1 24 false (.slice none 0 0):=⟨ti335,by kernel_rfl,by kernel_rfl⟩
theorem el339:ElI Tryz.prog 339 1 24 false (.slice none 0 0):=⟨ti339,by kernel_rfl,by kernel_rfl⟩
theorem el344:ElI Tryz.prog 344 1 24 false (.slice none 0 0):=⟨ti344,by kernel_rfl,by kernel_rfl⟩
theorem el348:ElI Tryz.prog 348 1 24 false (.slice none 0 0):=⟨ti348,by kernel_rfl,by kernel_rfl⟩
theorem el353:ElI Tryz.prog 353 1 24 false (.slice none 0 0):=⟨ti353,by kernel_rfl,by kernel_rfl⟩
theorem el358:ElI Tryz.prog 358 1 24 false (.slice none 0 0):=⟨ti358,by kernel_rfl,by kernel_rfl⟩
instance un93:UnI Tryz.prog 93 (.slice 71):=⟨zhi⟩
instance un122:UnI Tryz.prog 122 (.slice 113):=⟨underlying122⟩
instance un166:UnI Tryz.prog 166 (.slice 37):=⟨zhj⟩
instance un167:UnI Tryz.prog 167 (.slice 291):=⟨underlying167⟩
instance un168:UnI Tryz.prog 168 (.slice 293):=⟨underlying168⟩
instance un169:UnI Tryz.prog 169 (.slice 283):=⟨underlying169⟩
instance un170:UnI Tryz.prog 170 (.slice 296):=⟨underlying170⟩
instance un171:UnI Tryz.prog 171 (.slice 297):=⟨underlying171⟩
instance un172:UnI Tryz.prog 172 (.slice 302):=⟨underlying172⟩
instance un173:UnI Tryz.prog 173 (.slice 307):=⟨underlying173⟩
instance un174:UnI Tryz.prog 174 (.slice 312):=⟨underlying174⟩
instance un175:UnI Tryz.prog 175 (.slice 317):=⟨underlying175⟩
instance un176:UnI Tryz.prog 176 (.slice 322):=⟨underlying176⟩
instance un177:UnI Tryz.prog 177 (.slice 326):=⟨underlying177⟩
instance un178:UnI Tryz.prog 178 (.slice 331):=⟨underlying178⟩
instance un179:UnI Tryz.prog 179 (.slice 335):=⟨underlying179⟩
instance un180:UnI Tryz.prog 180 (.slice 339):=⟨underlying180⟩
instance un181:UnI Tryz.prog 181 (.slice 344):=⟨underlying181⟩
instance un182:UnI Tryz.prog 182 (.slice 348):=⟨underlying182⟩
instance un183:UnI Tryz.prog 183 (.slice 353):=⟨underlying183⟩
instance un184:UnI Tryz.prog 184 (.slice 358):=⟨underlying184⟩
abbrev F0 (f:FuncId):Prop:=Ct Tryz.prog f [(tL 1 false (fun _:Nat=>tI 0) [])] (tB true)
abbrev F0i (f T E:Nat):Prop:=Tryz.prog.underlying T=some (.slice E)->ElI Tryz.prog E 1 24 false (.slice none 0 0)->F0 f
theorem f0s:F0i 230 166 37/\F0i 231 77 23/\F0i 232 167 291/\F0i 233 168 293/\F0i 234 169 283/\F0i 235 93 71/\F0i 236 170 296/\F0i 237 122 113/\F0i 238 133 51/\F0i 239 171 297/\F0i 240 172 302/\F0i 241 173 307/\F0i 242 174 312/\F0i 243 175 317/\F0i 244 176 322/\F0i 245 177 326/\F0i 246 178 331/\F0i 247 179 335/\F0i 248 180 339/\F0i 249 181 344/\F0i 250 182 348/\F0i 251 183 353/\F0i 252 184 358:=by
 refine ⟨fun hu he=>Ct.intro func230 rfl ntmps230 rfl ?_,fun hu he=>Ct.intro func231 rfl ntmps231 rfl ?_,fun hu he=>Ct.intro func232 rfl ntmps232 rfl ?_,fun hu he=>Ct.intro func233 rfl ntmps233 rfl ?_,fun hu he=>Ct.intro func234 rfl ntmps234 rfl ?_,fun hu he=>Ct.intro func235 rfl ntmps235 rfl ?_,fun hu he=>Ct.intro func236 rfl ntmps236 rfl ?_,fun hu he=>Ct.intro func237 rfl ntmps237 rfl ?_,fun hu he=>Ct.intro func238 rfl ntmps238 rfl ?_,fun hu he=>Ct.intro func239 rfl ntmps239 rfl ?_,fun hu he=>Ct.intro func240 rfl ntmps240 rfl ?_,fun hu he=>Ct.intro func241 rfl ntmps241 rfl ?_,fun hu he=>Ct.intro func242 rfl ntmps242 rfl ?_,fun hu he=>Ct.intro func243 rfl ntmps243 rfl ?_,fun hu he=>Ct.intro func244 rfl ntmps244 rfl ?_,fun hu he=>Ct.intro func245 rfl ntmps245 rfl ?_,fun hu he=>Ct.intro func246 rfl ntmps246 rfl ?_,fun hu he=>Ct.intro func247 rfl ntmps247 rfl ?_,fun hu he=>Ct.intro func248 rfl ntmps248 rfl ?_,fun hu he=>Ct.intro func249 rfl ntmps249 rfl ?_,fun hu he=>Ct.intro func250 rfl ntmps250 rfl ?_,fun hu he=>Ct.intro func251 rfl ntmps251 rfl ?_,fun hu he=>Ct.intro func252 rfl ntmps252 rfl ?_⟩ <;> (intro w F;refine A9 ?_;refine A3 ?_;refine yq4 ?_;refine A9 ?_;refine xi9 rfl (zbf (by decide)) ?_;refine A9 ?_;refine R2 (yk1 (f:=fun _:Nat=>(tL 1 false (fun _:Nat=>tI 0) [])) (y0:=0) 0 0 hu he (fun _ _=>⟨none,0,rfl,zbm _,by decide,.inl rfl⟩) inferInstance rfl rfl rfl (zbm _) (by decide) (by decide) rfl) rfl rfl ?_;refine A9 ?_;refine A1 ?_;refine yq4 ?_;refine A9 ?_;refine xi9 rfl (zbf (by decide)) ?_;refine A9 ?_;refine A3 ?_;refine yq4 ?_;refine A9 ?_;refine xi9 rfl (zbf (by decide)) ?_;refine A9 ?_;refine A3 ?_;refine yq4 ?_;refine A9 ?_;refine xi9 rfl (zbf (by decide)) ?_;refine A9 ?_;refine A3 ?_;refine yq4 ?_;refine A9 ?_;refine xi9 rfl (zbf (by decide)) ?_;refine A9 ?_;refine A2 ?_;exact zw8 Plain.mk' rfl rfl zao)
theorem zt7:F0 230:=f0s.1 zhj el37
theorem qb0:F0 231:=f0s.2.1 zhe el23
theorem yr9:F0 232:=f0s.2.2.1 underlying167 el291
theorem ys0:F0 233:=f0s.2.2.2.1 underlying168 el293
theorem yp8:F0 234:=f0s.2.2.2.2.1 underlying169 el283
theorem zv8:F0 235:=f0s.2.2.2.2.2.1 zhi el71
theorem yp3:F0 236:=f0s.2.2.2.2.2.2.1 underlying170 el296
theorem yr0:F0 237:=f0s.2.2.2.2.2.2.2.1 underlying122 el113
theorem yt5:F0 238:=f0s.2.2.2.2.2.2.2.2.1 underlying133 el51
theorem yr2:F0 239:=f0s.2.2.2.2.2.2.2.2.2.1 underlying171 el297
theorem yw0:F0 240:=f0s.2.2.2.2.2.2.2.2.2.2.1 underlying172 el302
theorem yp5:F0 241:=f0s.2.2.2.2.2.2.2.2.2.2.2.1 underlying173 el307
theorem yr7:F0 242:=f0s.2.2.2.2.2.2.2.2.2.2.2.2.1 underlying174 el312
theorem yi9:F0 243:=f0s.2.2.2.2.2.2.2.2.2.2.2.2.2.1 underlying175 el317
theorem yw5:F0 244:=f0s.2.2.2.2.2.2.2.2.2.2.2.2.2.2.1 underlying176 el322
theorem yt2:F0 245:=f0s.2.2.2.2.2.2.2.2.2.2.2.2.2.2.2.1 underlying177 el326
theorem yh6:F0 246:=f0s.2.2.2.2.2.2.2.2.2.2.2.2.2.2.2.2.1 underlying178 el331
theorem yp4:F0 247:=f0s.2.2.2.2.2.2.2.2.2.2.2.2.2.2.2.2.2.1 underlying179 el335
theorem yq1:F0 248:=f0s.2.2.2.2.2.2.2.2.2.2.2.2.2.2.2.2.2.2.1 underlying180 el339
theorem yk3:F0 249:=f0s.2.2.2.2.2.2.2.2.2.2.2.2.2.2.2.2.2.2.2.1 underlying181 el344
theorem ys6:F0 250:=f0s.2.2.2.2.2.2.2.2.2.2.2.2.2.2.2.2.2.2.2.2.1 underlying182 el348
theorem yj1:F0 251:=f0s.2.2.2.2.2.2.2.2.2.2.2.2.2.2.2.2.2.2.2.2.2.1 underlying183 el353
theorem yp6:F0 252:=f0s.2.2.2.2.2.2.2.2.2.2.2.2.2.2.2.2.2.2.2.2.2.2 underlying184 el358
def mSn (k i:Nat):Sn:=⟨1000003*((k:Int)+7)+(i:Int),0⟩
theorem xn2 (k i:Nat) (hk:k < 2000) (hi:i < 10000000):
  Ct Tryz.prog 146 [tI k,tI i] (tI (1000003*((k:Int)+7)+(i:Int))):=by
 refine Ct.intro func146 rfl ntmps146 rfl ?_;intro w F;refine A9 ?_;refine R2 (xj0 zah) rfl rfl ?_;refine A6 ?_;exact E1 rfl rfl zao
theorem yp1 {l:List Nat}: ∀{H:List (Nat×HEnt)},(∀x∈H,memN x.1 l=true/\SupX x.2.ts l)->SupHs H l
 | [],_=>trivial
 | x::r,h=>⟨h x (by simp),yp1 fun y hy=>h y (zet _ hy)⟩
abbrev rS (xs:List Sn):HEnt:=⟨119,2,true,rV tSn xs⟩
abbrev hP (n:Nat) (L M:Nat->List Sn):Keys:=upd (poolK n fun j=>rS (M j)) 20 (some ⟨113,1,false,owns n 2 fun j=>(L j).length⟩)
abbrev tN0:Nat->Ent:=fun _=> .val (tL 2 true tSn ([]:List Sn))
abbrev hB (n:Nat) (L:Nat->List Sn) (κ:Nat->Nat) (k:Nat):Keys:=upd (hP n L (cM L mSn sn0 n 0)) 21 (some ⟨113,1,false,gsR n 2 κ (fun j=>(L j).length+64) tN0 k⟩)
abbrev hQ (n:Nat) (L:Nat->List Sn) (κ:Nat->Nat) (k:Nat):Keys:=pileK κ (fun j=>rS (mkL mSn j ((L j).length+64))) k (hB n L κ k)
section
variable {n k:Nat} {L:Nat->List Sn} {κ:Nat->Nat}
theorem yc0 {v:Nat} (hκ: ∀j,j < k->okN j (κ j)) (hv:v=k+100∨2000+64*k<=v/\v < 2000+64*k+64): ∀j,j < k+1->okN j (setN κ k v j):=fun j hj=>by
 by_cases h:j=k
 ·subst h;rw [xo0];rcases hv with h | h;exact .inl h;exact .inr ⟨h.1,by omega⟩
 ·rw [xk3 h];exact hκ j (by omega)
def okM (n k x:Nat):Prop:=x=k+100∨x=2000+64*n+k
theorem okM.ne {k j x y:Nat} (h:okM n k x) (h':okM n j y) (hk:k<=900) (hj:j<=900) (hne:k≠j):x≠y:=by rcases h with h | h <;> rcases h' with h' | h' <;> omega
abbrev tK (L:Nat->List Sn) (κ:Nat->Nat):Nat->Ent:=fun j=> .own (.sl (κ j) 2 0 ((L j).length+64))
abbrev rM (n:Nat) (L:Nat->List Sn) (j:Nat):HEnt:=rS (mkL mSn j (L j).length++mkL mSn (j+n) 64)
abbrev hC (n:Nat) (L:Nat->List Sn) (κ κ2:Nat->Nat) (k:Nat):Keys:=upd (hP n L (fun j=>mkL mSn j (L j).length)) 21 (some ⟨113,1,false,gsR n 2 κ2 (fun j=>(L j).length+64) (tK L κ) k⟩)
abbrev hR (n:Nat) (L:Nat->List Sn) (κ κ2:Nat->Nat) (k:Nat):Keys:=pileK κ2 (rM n L) k (hC n L κ κ2 k)
variable {κ2:Nat->Nat}
def alM (m:Nat):Names:=fun q=>Nat.beq q 22 || alP true m q
theorem zq8 {m:Nat}:alP true m 22=false:=rfl
theorem zj6 {m:Nat} (h:100<=m):alM m m=false:=by
 have:Nat.beq m 22=false:=by
  cases hb:Nat.beq m 22 with
  | false=>rfl
  | true=>have:=zdk hb;omega
 simp [alM,this,yt7 h]
theorem ya0 {m q:Nat} (h:alP true m q=true):alM m q=true:=by simp [alM,h]
theorem yj7 {m:Nat} {c:Base} (h:LkOk c (alP true m)):LkOk c (alM m):=⟨fun k hk=>ya0 (h.ln k hk),fun k hk=>ya0 (h.yk k hk)⟩
theorem SubK.twice {h:Keys} {v:Nat} {r:Option HEnt} {r':HEnt}:SubK (upd h v (some r')) (upd (upd h v r) v (some r')):= .eq fun t x hx=>by
 by_cases ht:t=v
 ·subst ht;rw [x6] at hx ⊢;exact hx
 ·rw [x4 _ _ _ ht] at hx ⊢;rw [x4 _ _ _ ht];exact hx
theorem yc4 {v:Nat} (hκ: ∀j,j < k->okM n j (κ2 j)) (hv:okM n k v): ∀j,j < k+1->okM n j (setN κ2 k v j):=fun j hj=>by
 by_cases h:j=k
 ·subst h;rw [xo0];exact hv
 ·rw [xk3 h];exact hκ j (by omega)
end
instance sl166:SlI Tryz.prog 166 37 1 false:=⟨zhj,ti37⟩
def mLb (k i:Nat):Nat:=(1000003*(k+7)+i)%65536
abbrev tLb (n:Nat):Ty:=tE (.int .u16 (n:Int))
theorem cutLb {k i:Nat}:IntKind.u16.wrap (1000003*((k:Int)+7)+(i:Int))=((mLb k i:Nat):Int):=by rw [mu16,mLb];omega
theorem y9 {P:Program} {c:Base} {d ty:Nat} {pos:String} {af:Array Edge} {gd:Option (Nat×Bool)} {T yT:TypeId} {x y:Operand} {k:IntKind} {n:Int}:Does P c ⟨some d,.binOp .eql T x y yT,ty,pos,af,gd⟩ ⟨[(x,.val (tE (.int k n))),(y,.val (tE (.int k n)))],[],some (d,some (.val (tB true))),[],[]⟩:=by
 have:=zp6 (P:=P) (c:=c) (d:=d) (t:=ty) (pos:=pos) (af:=af) (gd:=gd) (T:=T) (yT:=yT) (x:=x) (y:=y) (k:=k) (m:=n) (n:=n)
 rwa [zbg rfl] at this
theorem qa9 {n T es:Nat} {len:Nat->Nat} {R:Nat->HEnt} (hRL: ∀k,k < n->(R k).supp=[]):SupHs ((20,⟨T,1,false,owns n es len⟩)::poolL n R) (poolN n):=yp1 fun x hx=>by
 rcases zbt.1 hx with rfl | hx
 ·exact ⟨rfl,fun k hk=>by obtain ⟨j,hj,rfl⟩:=yh3 hk;simp only [poolN,zbt,zcb,zcw];exact .inr ⟨j,hj,rfl⟩⟩
 ·obtain ⟨j,hj,h1,h2⟩:=xn9 (k:=x.1) (x:=x.2) hx;refine ⟨xb5.2 ?_,fun k hk=> ?_⟩
  ·rw [h1];simp only [poolN,zbt,zcb,zcw];exact .inr ⟨j,hj,rfl⟩
  ·have:=hRL j hj;rw [h2] at hk;rw [HEnt.supp] at this;rw [this] at hk;cases hk
abbrev rSL (xs:List Nat):HEnt:=⟨64,1,false,rV tLb xs⟩
abbrev hPL (n:Nat) (L M:Nat->List Nat):Keys:=upd (poolK n fun j=>rSL (M j)) 20 (some ⟨37,1,false,owns n 1 fun j=>(L j).length⟩)
theorem xz2 {xs:List Nat}:(rSL xs).supp=[]:=List.eq_nil_iff_forall_not_mem.2 fun _ hk=>zk1 hk
theorem yd2 {n k:Nat} {L M:Nat->List Nat} (h:k < n):hPL n L M (k+100)=some (rSL (M k)):=by
 rw [hPL,x4 _ _ _ (by omega)];exact xm1 h
theorem jj3 {n k:Nat} {L M M':Nat->List Nat} (h1: ∀j,j≠k->M' j=M j):SubK (hPL n L M') (upd (hPL n L M) (k+100) (some (rSL (M' k)))):=fun q x hx=>by
 by_cases hq:q=k+100
 ·subst hq;rw [hPL,x4 _ _ _ (by omega)] at hx;obtain ⟨j,_,h2,rfl⟩:=xh5 hx;have:j=k:=by omega
  subst this;exact ⟨_,x6 _ _ _,rfl,.refl⟩
 ·rw [x4 _ _ _ hq];by_cases hq2:q=20
  ·subst hq2;rw [hPL,x6] at hx ⊢;exact ⟨_,rfl,by cases hx;rfl,by cases hx;exact .refl⟩
  ·rw [hPL,x4 _ _ _ hq2] at hx ⊢;obtain ⟨j,h1',rfl,rfl⟩:=xh5 hx;refine ⟨_,xm1 h1',rfl,?_⟩;rw [h1 j (by omega)];exact .refl
theorem hP_eqL {n:Nat} {L M M':Nat->List Nat} (h: ∀j,j < n->M' j=M j):SubK (hPL n L M') (hPL n L M):=fun q x hx=>by
 by_cases hq2:q=20
 ·subst hq2;rw [hPL,x6] at hx ⊢;exact ⟨_,rfl,by cases hx;rfl,by cases hx;exact .refl⟩
 ·rw [hPL,x4 _ _ _ hq2] at hx ⊢;obtain ⟨j,h1',rfl,rfl⟩:=xh5 hx;exact ⟨_,xm1 h1',rfl,by rw [h j h1'];exact .refl⟩
theorem yd5 {b:Bool} {n m:Nat} {L M:Nat->List Nat} (h:n+100<=m):SupH (hPL n L M) (alP b m):=supP h fun _ _=>xz2
abbrev tN0L:Nat->Ent:=fun _=> .val (tL 1 false tLb ([]:List Nat))
abbrev hBL (n:Nat) (L:Nat->List Nat) (κ:Nat->Nat) (k:Nat):Keys:=upd (hPL n L (cM L mLb 0 n 0)) 21 (some ⟨37,1,false,gsR n 1 κ (fun j=>(L j).length+64) tN0L k⟩)
abbrev hQL (n:Nat) (L:Nat->List Nat) (κ:Nat->Nat) (k:Nat):Keys:=pileK κ (fun j=>rSL (mkL mLb j ((L j).length+64))) k (hBL n L κ k)
section
variable {n k:Nat} {L:Nat->List Nat} {κ:Nat->Nat}
theorem ys9 (hκ: ∀j,j < k->okN j (κ j)):hQL n L κ k 20=some ⟨37,1,false,owns n 1 fun j=>(L j).length⟩:=by
 rw [hQL,xc0 fun j hj=>by rcases hκ j hj with h | h <;> omega];rfl
theorem za9 (hκ: ∀j,j < k->okN j (κ j)):hQL n L κ k 21=some ⟨37,1,false,gsR n 1 κ (fun j=>(L j).length+64) tN0L k⟩:=by
 rw [hQL,xc0 fun j hj=>by rcases hκ j hj with h | h <;> omega];exact x6 _ _ _
theorem qg2 (hn:n<=900) (hκ: ∀j,j < k->okN j (κ j)) (hk:k < n):hQL n L κ k (k+100)=some (rSL (mkL mLb k (L k).length)):=by
 rw [hQL,xc0 fun j hj=>okN.ne (.inl rfl) (hκ j hj) (by omega) (by omega) (by omega),hBL,x4 _ _ _ (by omega),yd2 hk,yi4 hk]
theorem jo3 (hκ: ∀j,j < k->okN j (κ j)) (hn:n<=900) {q:Nat} (h:2000+64*k<=q):hQL n L κ k q=none:=by
 rw [hQL,xc0 fun j hj=>by rcases hκ j hj with h | h <;> omega,hBL,x4 _ _ _ (by omega),hPL,x4 _ _ _ (by omega)];exact xw5 fun j hj=>by omega
theorem xt3 {m:Nat} (hκ: ∀j,j < k->okN j (κ j)) (hn:n<=900) (hk:k<=n) (hm:2000+64*k<=m):SupH (hQL n L κ k) (alP true m):=fun q x hx=>by
 have hin: ∀j,j < k->alP true m (κ j)=true:=fun j hj=>xh2 ((hκ j hj).lt (m:=m) (by omega) (by omega)).1 ((hκ j hj).lt (by omega) (by omega)).2;rcases xw4 hx with ⟨j,hj,rfl,rfl⟩ | hx
 ·exact ⟨hin j hj,fun i hi=>by rw [xz2] at hi;cases hi⟩
 ·by_cases hq:q=21
  ·subst hq;rw [hBL,x6] at hx;cases hx;refine ⟨rfl,fun i hi=> ?_⟩;rcases xz5 hi with ⟨j,_,hj,rfl⟩ | ⟨j,_,hj⟩
   ·exact hin j hj
   ·cases hj
  ·rw [hBL,x4 _ _ _ hq] at hx;exact yd5 (by omega) q x hx
theorem qi3 {m v:Nat} {r:List Nat} (hκ: ∀j,j < k->okN j (κ j)) (hn:n<=900) (hk:k<=n) (hm:2000+64*k<=m) (hv:100<=v/\v < m):SupH (upd (hQL n L κ k) v (some (rSL r))) (alP true m):=fun q x hx=>by
 by_cases hq:q=v
 ·subst hq;rw [x6] at hx;cases hx;exact ⟨xh2 hv.1 hv.2,fun i hi=>by rw [xz2] at hi;cases hi⟩
 ·rw [x4 _ _ _ hq] at hx;exact xt3 hκ hn hk hm q x hx
theorem jc3 {v:Nat} (hκ: ∀j,j < k->okN j (κ j)) (hv:100<=v):SubK (hQL n L (setN κ k v) (k+1)) (upd (upd (hQL n L κ k) v (some (rSL (mkL mLb k ((L k).length+64))))) 21 (some ⟨37,1,false,gsR n 1 (setN κ k v) (fun j=>(L j).length+64) tN0L (k+1)⟩)):= .eq fun t x hx=>by
 rw [hQL,pileK,xo0,xo3 (κ:=κ) fun j hj=>xk3 (by omega)] at hx;by_cases ht:t=21
 ·subst ht;rw [x4 _ _ _ (by omega),xc0 fun j hj=>by rcases hκ j hj with h | h <;> omega,hBL,x6] at hx;rw [x6];exact hx
 ·rw [x4 _ _ _ ht];by_cases htv:t=v
  ·subst htv;rw [x6] at hx ⊢;exact hx
  ·rw [x4 _ _ _ htv] at hx ⊢;rw [xp3 (h:=hBL n L κ k) (by rw [hBL,hBL,x4 _ _ _ ht,x4 _ _ _ ht])] at hx;exact hx
theorem qn7 {j:Nat} (hn:n<=900) (hk:k<=n) (hκ: ∀j,j < k->okN j (κ j)) (hj:j < k):hQL n L κ k (κ j)=some (rSL (mkL mLb j ((L j).length+64))):=
 xs6 (fun i hi hij=>okN.ne (hκ j hj) (hκ i hi) (by omega) (by omega) (Ne.symm hij)) hj
theorem qp8 {j:Nat} (hn:n<=900) (hk:k<=n) (hκ: ∀j,j < k->okN j (κ j)) (hj:j < k): ∃m,(L j).length<=m/\hQL n L κ k (j+100)=some (rSL (mkL mLb j m)):=by
 rcases hκ j hj with h | h
 ·exact ⟨(L j).length+64,by omega,by rw [<-h];exact qn7 hn hk hκ hj⟩
 ·refine ⟨(L j).length,zbm _,?_⟩;rw [hQL,xc0 fun i hi=>by
   by_cases hij:i=j
   ·subst hij;omega
   ·exact okN.ne (.inl rfl) (hκ i hi) (by omega) (by omega) (Ne.symm hij),hBL,x4 _ _ _ (by omega),yd2 (by omega),yi4 (by omega)]
theorem zi5 {i m j:Nat} (h:i < m):(rV tLb (mkL mLb j m))[i]? =some (.val (tLb (mLb j i))):=by
 rw [rV,zbp,xu0 h];rfl
theorem qe8 {j i i':Nat} (h:i'<=i):ImpK (rSL (mkL mLb j i)) (rSL (mkL mLb j i')):= .ts (by rw [xe0,xe0,xi4,xi4];exact h) fun t e he=>⟨e,by
 simp only [rV,zbp] at he ⊢;obtain ⟨x,hx,rfl⟩:=zdo.1 he;rw [zg8 h t x hx];rfl,.refl⟩
abbrev tKL (L:Nat->List Nat) (κ:Nat->Nat):Nat->Ent:=fun j=> .own (.sl (κ j) 1 0 ((L j).length+64))
abbrev rML (n:Nat) (L:Nat->List Nat) (j:Nat):HEnt:=rSL (mkL mLb j (L j).length++mkL mLb (j+n) 64)
abbrev hCL (n:Nat) (L:Nat->List Nat) (κ κ2:Nat->Nat) (k:Nat):Keys:=upd (hPL n L (fun j=>mkL mLb j (L j).length)) 21 (some ⟨37,1,false,gsR n 1 κ2 (fun j=>(L j).length+64) (tKL L κ) k⟩)
abbrev hRL (n:Nat) (L:Nat->List Nat) (κ κ2:Nat->Nat) (k:Nat):Keys:=pileK κ2 (rML n L) k (hCL n L κ κ2 k)
variable {κ2:Nat->Nat}
theorem zd6 (hκ: ∀j,j < k->okM n j (κ2 j)):hRL n L κ κ2 k 20=some ⟨37,1,false,owns n 1 fun j=>(L j).length⟩:=by
 rw [hRL,xc0 fun j hj=>by rcases hκ j hj with h | h <;> omega];rfl
theorem qu0 (hκ: ∀j,j < k->okM n j (κ2 j)):hRL n L κ κ2 k 21=some ⟨37,1,false,gsR n 1 κ2 (fun j=>(L j).length+64) (tKL L κ) k⟩:=by
 rw [hRL,xc0 fun j hj=>by rcases hκ j hj with h | h <;> omega];exact x6 _ _ _
theorem jj6 (hn:n<=900) (hκ: ∀j,j < k->okM n j (κ2 j)) (hk:k < n):hRL n L κ κ2 k (k+100)=some (rSL (mkL mLb k (L k).length)):=by
 rw [hRL,xc0 fun j hj=>okM.ne (.inl rfl) (hκ j hj) (by omega) (by omega) (by omega),hCL,x4 _ _ _ (by omega),yd2 hk]
theorem xt9 {m:Nat} (hκ0: ∀j,j < n->okN j (κ j)) (hκ: ∀j,j < k->okM n j (κ2 j)) (hn:n<=900) (hk:k<=n) (hm:2000+64*n+k<=m):SupH (hRL n L κ κ2 k) (alP true m):=fun q x hx=>by
 have hin: ∀j,j < k->alP true m (κ2 j)=true:=fun j hj=>by rcases hκ j hj with h | h <;> exact xh2 (by omega) (by omega)
 rcases xw4 hx with ⟨j,hj,rfl,rfl⟩ | hx
 ·exact ⟨hin j hj,fun i hi=>by rw [xz2] at hi;cases hi⟩
 ·by_cases hq:q=21
  ·subst hq;rw [hCL,x6] at hx;cases hx;refine ⟨rfl,fun i hi=> ?_⟩;rcases xz5 hi with ⟨j,_,hj,rfl⟩ | ⟨j,hjn,hj⟩
   ·exact hin j hj
   ·simp only [Ent.supp,VP.supp,zbq] at hj;subst hj;exact xh2 ((hκ0 j hjn).lt (m:=m) (by omega) (by omega)).1 ((hκ0 j hjn).lt (by omega) (by omega)).2
  ·rw [hCL,x4 _ _ _ hq] at hx;exact yd5 (by omega) q x hx
theorem hR_0L {κ3:Nat->Nat} (hn:n<=900) (hκ: ∀j,j < n->okN j (κ j)):SubK (hRL n L κ κ3 0) (hQL n L κ n):=fun q x hx=>by
 by_cases hq:q=21
 ·subst hq;have hx:hCL n L κ κ3 0 21=some x:=hx;rw [hCL,x6] at hx;cases hx;refine ⟨_,za9 hκ,rfl,?_⟩;rw [show gsR n 1 κ (fun j=>(L j).length+64) tN0L n=gsR n 1 κ3 (fun j=>(L j).length+64) (tKL L κ) 0 from by
   apply zfm;intro j hj;rw [zcw] at hj;simp [hj]]
  exact .refl
 ·have hx:hCL n L κ κ3 0 q=some x:=hx;rw [hCL,x4 _ _ _ hq] at hx;by_cases hq2:q=20
  ·subst hq2;rw [hPL,x6] at hx;cases hx;exact ⟨_,ys9 hκ,rfl,.refl⟩
  ·rw [hPL,x4 _ _ _ hq2] at hx;obtain ⟨j,hj,rfl,rfl⟩:=xh5 hx;obtain ⟨m,hm,e⟩:=qp8 (L:=L) hn (zbm n) hκ hj;exact ⟨_,e,rfl,qe8 hm⟩
def fSL (j i:Nat):List Nat:=(List.range 64).map fun t=>if t < i then mLb j t else 0
theorem xr4 {j i:Nat}:(fSL j i).length=64:=by simp [fSL]
theorem fS_0L {j:Nat}:List.replicate 64 (Ent.val (tLb 0))=rV tLb (fSL j 0):=by
 rw [yd8 64 0 rfl];congr 1
theorem jj2 {j i:Nat} (hi:i < 64):(fSL j i).set i (mLb j i)=fSL j (i+1):=by
 apply zes;intro t;rw [zeo];rcases zcs t 64 with h | h
 ·simp only [fSL,zbp,zeh h,zcq,List.length_range,zdv];by_cases hit:i=t
  ·subst hit;simp [h]
  ·rw [if_neg hit];by_cases h1:t < i
   ·simp [h1,show t < i+1 by omega]
   ·simp [h1,show ¬t < i+1 by omega]
 ·rw [if_neg (by omega),zcp (by rw [xr4];exact h),zcp (by rw [xr4];exact h)]
theorem fS_64L {j:Nat}:fSL j 64=mkL mLb j 64:=zfm fun _ ht=>if_pos (zcw.1 ht)
theorem zv0 {m:Nat} {h:Keys} {r:List Nat} (hs:SupH h (alP true m)):SupH (upd h 22 (some (rSL r))) (alM m):=fun q x hx=>by
 by_cases hq:q=22
 ·subst hq;rw [x6] at hx;cases hx;exact ⟨rfl,fun i hi=>by rw [xz2] at hi;cases hi⟩
 ·rw [x4 _ _ _ hq] at hx;exact ⟨ya0 (hs q x hx).1,fun i hi=>ya0 ((hs q x hx).2 i hi)⟩
theorem rM_eqL {j:Nat}:(⟨64,1,false,rV tLb (mkL mLb j (L j).length)++(fSL (j+n) 64).map (fun y=>Ent.val (tLb y))⟩:HEnt)=rML n L j:=by
 rw [rML,rSL,<-fS_64L];simp [rV]
theorem ja2 {v:Nat} {r:HEnt} (hκ: ∀j,j < k->okM n j (κ2 j)) (hv:100<=v):SubK (hRL n L κ (setN κ2 k v) (k+1)) (upd (upd (upd (upd (hRL n L κ κ2 k) 22 (some r)) 22 none) v (some ⟨64,1,false,rV tLb (mkL mLb k (L k).length)++(fSL (k+n) 64).map (fun y=>Ent.val (tLb y))⟩)) 21 (some ⟨37,1,false,gsR n 1 (setN κ2 k v) (fun j=>(L j).length+64) (tKL L κ) (k+1)⟩)):= .eq fun t x hx=>by
 rw [rM_eqL];rw [hRL,pileK,xo0,xo3 (κ:=κ2) fun j hj=>xk3 (by omega)] at hx;by_cases ht:t=21
 ·subst ht;rw [x4 _ _ _ (by omega),xc0 fun j hj=>by rcases hκ j hj with h | h <;> omega,hCL,x6] at hx;rw [x6];exact hx
 ·rw [x4 _ _ _ ht];by_cases htv:t=v
  ·subst htv;rw [x6] at hx ⊢;exact hx
  ·rw [x4 _ _ _ htv] at hx ⊢;rw [xp3 (h:=hCL n L κ κ2 k) (by rw [hCL,hCL,x4 _ _ _ ht,x4 _ _ _ ht])] at hx;by_cases h22:t=22
   ·subst h22;rw [xc0 fun j hj=>by rcases hκ j hj with h | h <;> omega,hCL,x4 _ _ _ (by omega),hPL,x4 _ _ _ (by omega),xw5 fun j _=>by omega] at hx;cases hx
   ·rw [x4 _ _ _ h22,x4 _ _ _ h22];exact hx
theorem jh1 {j:Nat} (_hκ: ∀j,j < k->okM n j (κ2 j)) (hj:j < n): ∃y,hRL n L κ κ2 k (j+100)=some y:=by
 have key: ∀i,∃y,pileK κ2 (rML n L) i (hCL n L κ κ2 k) (j+100)=some y:=fun i=>by
  induction i with
  | zero=>exact ⟨_,by show hCL n L κ κ2 k (j+100)=_;rw [hCL,x4 _ _ _ (by omega)];exact yd2 hj⟩
  | succ i ih=>
   by_cases h:j+100=κ2 i
   ·exact ⟨_,by rw [pileK,h];exact x6 _ _ _⟩
   ·obtain ⟨y,hy⟩:=ih;exact ⟨y,by rw [pileK,x4 _ _ _ h];exact hy⟩
 exact key k
theorem qz9 {N:Nat} {w:World} {F:Dom} {η:Env} {R:Nat->HEnt} {X:HEnt} {r:Option HEnt} {b:Nat} (hκ: ∀j,j < k->okM n j (κ2 j)) (_hk:k<=n) (hb:(Base.lent N w F η (poolN n) ((20,X)::poolL n R)).lb b):
  ∃j y,j∈poolN n/\j≠22/\upd (hRL n L κ κ2 k) 22 r j=some y/\0 < η.c j/\b=η.b j:=by
 obtain ⟨x,hx,hc,e⟩:=hb;rcases zbt.1 hx with rfl | hx
 ·exact ⟨20,_,by simp [poolN],by omega,(x4 _ _ _ (by omega)).trans (zd6 hκ),hc,e⟩
 ·obtain ⟨j,hj,h1,_⟩:=xn9 (k:=x.1) (x:=x.2) hx;obtain ⟨y,hy⟩:=jh1 (L:=L) (κ:=κ) hκ hj;refine ⟨j+100,y,by simp only [poolN,zbt,zcb,zcw];exact .inr ⟨j,hj,rfl⟩,by omega,(x4 _ _ _ (by omega)).trans hy,by rw [<-h1];exact hc,by rw [<-h1];exact e⟩
theorem qq1 {j:Nat} (hn:n<=900) (hκ: ∀j,j < n->okM n j (κ2 j)) (hj:j < n):hRL n L κ κ2 n (κ2 j)=some (rML n L j):=
 xs6 (fun i hi hij=>okM.ne (hκ j hj) (hκ i hi) (by omega) (by omega) (Ne.symm hij)) hj
theorem qh2 {i j:Nat} (h:i < (L j).length):(rV tLb (mkL mLb j (L j).length++mkL mLb (j+n) 64))[i]? =some (.val (tLb (mLb j i))):=by
 rw [rV,zbp,zda (by rw [xi4];exact h),xu0 h];rfl
theorem hR_lsL {j:Nat} (hn:n<=900) (hκ: ∀j,j < n->okM n j (κ2 j)) (hj:j < n): ∃xs,hRL n L κ κ2 n (j+100)=some (rSL xs)/\ ∀i,i < (L j).length->(rV tLb xs)[i]? =some (.val (tLb (mLb j i))):=by
 rcases hκ j hj with h | h
 ·exact ⟨_,(congrArg (hRL n L κ κ2 n) h.symm).trans (qq1 hn hκ hj),fun i hi=>qh2 hi⟩
 ·refine ⟨mkL mLb j (L j).length,?_,fun i hi=>zi5 hi⟩;rw [hRL,xc0 fun i hi=>by
   by_cases hij:i=j
   ·subst hij;omega
   ·exact okM.ne (.inl rfl) (hκ i hi) (by omega) (by omega) (Ne.symm hij),hCL,x4 _ _ _ (by omega),yd2 hj]
theorem jq4 {i:Nat} {j:Nat}:(⟨64,1,false,rV tLb (mkL mLb j i)++[mLb j i].map (fun y=>Ent.val (tLb y))⟩:HEnt)=rSL (mkL mLb j (i+1)):=by
 rw [rSL,<-yz3];simp [rV]
end
theorem zw1 (n:Nat) (L:Nat->List Nat) (hn:n<=900) (hL: ∀j,(L j).length<=1000000):
  CtG Tryz.prog 230 ((20,⟨37,1,false,owns n 1 fun j=>(L j).length⟩)::poolL n fun j=>rSL (L j)) [.own (.sl 20 1 0 n)] (.val (tB true)) [] []:=by
 refine CtG.intro (poolN n) func230 rfl ntmps230 rfl rfl (qa9 fun _ _=>xz2) ?_;intro w F η;refine A12 ?_;refine xf6 (fun k:Nat=>k<=n) (fun k=>uV (uO uN 0 (.sl 20 1 0 n)) 3 (tI k)) (fun k=>hPL n L (cM L mLb 0 k 0)) (alP false (100+n)) (fun k=>n - k) 0 (zbs _) (Sub.int rfl rfl (zan rfl zay)) (by show SubK (hPL n L (cM L mLb 0 0 0)) _;rw [show cM L mLb 0 0 0=L from funext fun j=>cM_0];exact yh9) (zaj (zak rfl zar)) (yd5 (by omega)) (lkP (by omega)) ?_;intro k hk;refine A9 ?_;refine xa6 rfl (fun h1=> ?_) (fun h1=> ?_)
 ·
  have hk':k < n:=by omega
  refine A9 ?_;refine xe4 ?_;refine xf6 (fun i:Nat=>i<=(L k).length) (fun i=>uV (uV (uO uN 0 (.sl 20 1 0 n)) 3 (tI k)) 4 (tI i)) (fun i=>hPL n L (cM L mLb 0 k i)) (alP false (100+n)) (fun i=>(L k).length - i) 0 (zbs _) (Sub.int rfl rfl (zan rfl (zan rfl zay))) SubK.refl (zaj (zaj (zak rfl zar))) (yd5 (by omega)) (lkP (by omega)) ?_;intro i hi;have hLk:=hL k;refine A6 ?_;refine R2 (zag sl166 rfl) rfl rfl (RE (x7 (k) ti37 (xd3 hk') (by omega)) qA qA trivial ?_);refine A3 ?_;refine xa6 rfl (fun h2=> ?_) (fun h2=> ?_)
  ·
   refine A7 ?_;refine R2 (zag sl166 rfl) rfl rfl (RE (x7 (k) ti37 (xd3 hk') (by omega)) qA qA trivial ?_);refine A3 ?_;refine R2 (x3 (xn2 k i (by omega) (by omega)) fi146 rfl) rfl rfl (R1 (x9 zgv (isS zgz) cutLb) rfl (R2 (zag sl37 rfl) rfl rfl (RE (xa8 (e:= .val (tLb (mLb k i))) (i) ti64 (xn4 (f:=tLb) (xs:=cM L mLb 0 k i k) (by rw [yt4];omega)) (by omega) (xm8 (f:=tLb) (m:=mLb k i) rfl)) qB ⟨yd2 (L:=L) hk',trivial⟩ trivial ?_)));refine A8 ?_;exact xg8 (i+1) ⟨by omega,by omega⟩ (Sub.int rfl (by omega) (zan rfl (zan rfl zay))) (by rw [zw5 (by omega)];exact jj3 fun j hj=>zs2 hj) (zaj (zaj (zak rfl zar))) (yd5 (by omega)) (lkP (by omega))
  ·
   refine A11 ?_;have hil:i=(L k).length:=by omega
   subst hil;exact xg8 (k+1) ⟨by omega,by omega⟩ (Sub.int rfl (by omega) (zan rfl zay)) (hP_eqL fun j _=>zj3) (zaj (zak rfl zar)) (yd5 (by omega)) (lkP (by omega))
 ·
  have hkn:k=n:=by omega
  subst hkn;refine A9 ?_;refine RE (xe5 (k:=21) (t:=tL 1 false tLb ([]:List Nat)) (ts:=gsR k 1 (fun _=>0) (fun j=>(L j).length+64) tN0L 0) k k zhj el37 (fun _ _=>⟨none,0,rfl,zbm _,by decide,.inl rfl⟩) rfl (by omega) (by omega) (zbm _) (by omega) (by omega) zh7) qB trivial qA ?_;refine A10 ?_;refine xr0 (ι:=Nat×(Nat->Nat)) (fun x=>x.1<=k/\ ∀j,j < x.1->okN j (x.2 j)) (fun x=>uV (uO (uO uN 0 (.sl 20 1 0 k)) 5 (.sl 21 1 0 k)) 6 (tI x.1)) (fun x=>hQL k L x.2 x.1) (fun x=>alP true (2000+64*x.1)) (fun x=>k - x.1) (0,fun _=>0) ⟨zbs _,fun j h=>by cases h⟩ (Sub.int rfl rfl (zan rfl (zan rfl zay))) SubK.refl (zaj (zak rfl (zak rfl zar))) (xt3 (fun j h=>by cases h) hn (zbs _) (by omega)) (lkP (by omega)) ?_;rintro ⟨q,κ⟩ ⟨hq,hκ⟩;replace hq:q<=k:=hq;replace hκ: ∀j,j < q->okN j (κ j):=hκ;show wc _ _ _ _ (uV (uO (uO uN 0 (.sl 20 1 0 k)) 5 (.sl 21 1 0 k)) 6 (tI q)) (hQL k L κ q) (alP true (2000+64*q));refine A9 ?_;refine xa6 rfl (fun h3=> ?_) (fun h3=> ?_)
  ·
   have hq':q < k:=by omega
   have hLk:=hL q;refine A8 ?_;refine R2 (zag sl166 rfl) rfl rfl (RE (x7 (q) ti37 (xd3 hq') (by omega)) qA ⟨ys9 hκ,trivial⟩ trivial ?_);refine A10 ?_;refine xr0 (ι:=Nat×Nat) (fun x=>x.1<=64/\(x.2=q+100∨2000+64*q<=x.2/\x.2 < 2000+64*q+x.1)) (fun x=>uV (uO (uV (uO (uO uN 0 (.sl 20 1 0 k)) 5 (.sl 21 1 0 k)) 6 (tI q)) 7 (.sl x.2 1 0 ((L q).length+x.1))) 8 (tI x.1)) (fun x=>upd (hQL k L κ q) x.2 (some (rSL (mkL mLb q ((L q).length+x.1))))) (fun x=>alP true (2000+64*q+x.1)) (fun x=>64 - x.1) (0,q+100) ⟨zbs _,.inl rfl⟩ (Sub.int rfl rfl (zan rfl (zan rfl (zan rfl (zan rfl zay))))) (zaq (qg2 hn hκ hq') .refl SubK.refl) (zaj (zak (by show (alP true (2000+64*q+0) (q+100) && true)=true;rw [xh2 (by omega) (by omega)];rfl) (zaj (zak rfl (zak rfl zar))))) (qi3 hκ hn (by omega) (by omega) (by omega)) (lkP (by omega)) ?_;rintro ⟨i,v⟩ ⟨hi,hv⟩;replace hi:i<=64:=hi;replace hv:v=q+100∨2000+64*q<=v/\v < 2000+64*q+i:=hv;have h20:upd (hQL k L κ q) v (some (rSL (mkL mLb q ((L q).length+i)))) 20=some ⟨37,1,false,owns k 1 fun j=>(L j).length⟩:=by
    rw [x4 _ _ _ (by omega)];exact ys9 hκ
   show wc _ _ _ _ (uV (uO (uV (uO (uO uN 0 (.sl 20 1 0 k)) 5 (.sl 21 1 0 k)) 6 (tI q)) 7 (.sl v 1 0 ((L q).length+i))) 8 (tI i)) (upd (hQL k L κ q) v (some (rSL (mkL mLb q ((L q).length+i))))) (alP true (2000+64*q+i));refine A6 ?_;refine xa6 rfl (fun h4=> ?_) (fun h4=> ?_)
   ·
    have hi':i < 64:=by omega
    refine A3 ?_;refine xe4 ?_;refine xe3 ?_;refine xu5 [_,_,_,_,_,_,_,_,_,_,_,_] ?_;refine A4 ?_;refine R2 (zag sl166 rfl) rfl rfl (RE (x7 (q) ti37 (xd3 hq') (by omega)) qA ⟨h20,trivial⟩ trivial ?_);refine A3 ?_;refine R2 (x3 (xn2 q ((L q).length+i) (by omega) (by omega)) fi146 rfl) rfl rfl (R1 (x9 zgv (isS zgz) cutLb) rfl (R1 (xb6 (n:=1) (f:=tLb) [mLb q ((L q).length+i)] zgr el64 zf64 rfl (fun _=>inferInstance) rfl rfl rfl) rfl (yv5 (by kernel_rfl) ?_)));refine yc3 (k':=2000+64*q+i) (f:=tLb) (ys:=[mLb q ((L q).length+i)]) zgr el64 zf64 rfl rfl (fun _=>inferInstance) rfl rfl (x6 _ _ _) (yt7 (by omega)) (xe0.trans xi4) (by simp;omega) (by simp;omega) (by simp) rfl (fun b=> ?_);refine xa5 xb8 qA trivial trivial rfl (xd1 ?_);refine A7 ?_;have hv':cond b v (2000+64*q+i)=v∨cond b v (2000+64*q+i)=2000+64*q+i:=by cases b;exact .inr rfl;exact .inl rfl
    generalize cond b v (2000+64*q+i)=v' at hv' ⊢;exact fun _ _ hs=>xv8 (i+1,v') ⟨⟨by show i+1<=64;omega,by show v'=q+100∨2000+64*q<=v'/\v' < 2000+64*q+(i+1);omega⟩,by show 64 - (i+1) < 64 - i;omega⟩ (Sub.int rfl rfl (zan rfl (zan rfl (zan rfl (zan rfl zay))))) (by
     show SubK (upd (hQL k L κ q) v' (some (rSL (mkL mLb q ((L q).length+i+1))))) _;rw [<-jq4];exact SubK.over fun y hy=>by
      rcases hv with rfl | hv
      ·rw [qg2 hn hκ hq'] at hy;cases hy;exact ⟨rfl,qe8 (by omega)⟩
      ·rw [jo3 hκ hn hv.1] at hy;cases hy) (zaj (zak (by show (alP true (2000+64*q+(i+1)) v' && true)=true;rw [xh2 (by omega) (by omega)];rfl) (zaj (zak rfl (zak rfl zar))))) (qi3 hκ hn (by omega) (by show 2000+64*q<=2000+64*q+(i+1);omega) (by show 100<=v'/\v' < 2000+64*q+(i+1);omega)) (lkP (by omega)) hs
   ·
    have hi64:i=64:=by omega
    subst hi64;have h21:upd (hQL k L κ q) v (some (rSL (mkL mLb q ((L q).length+64)))) 21=some ⟨37,1,false,gsR k 1 κ (fun j=>(L j).length+64) tN0L q⟩:=by
     rw [x4 _ _ _ (by omega)];exact za9 hκ
    refine A9 ?_;refine R2 (zag sl166 rfl) rfl rfl (RE (xa8 (e:= .own (.sl v 1 0 ((L q).length+64))) (q) ti37 (by rw [xt8];simpa using hq') (by omega) (yc1 (len:=fun j=>(L j).length+64) (v:=v) hq')) qB ⟨h21,trivial⟩ trivial ?_);refine A8 ?_;exact fun _ _ hs=>xv8 (q+1,setN κ q v) ⟨⟨by show q+1<=k;omega,yc0 hκ hv⟩,by show k - (q+1) < k - q;omega⟩ (Sub.int rfl rfl (zan rfl (zan rfl zay))) (by exact jc3 hκ (by omega)) (zaj (zak rfl (zak rfl zar))) (by exact xt3 (yc0 hκ hv) hn (by omega) (by omega)) (lkP (by omega)) hs
  ·
   have hqk:q=k:=by omega
   subst hqk;refine A12 ?_;refine xf6 (fun j:Nat=>j<=q) (fun j=>uV (uO (uO uN 0 (.sl 20 1 0 q)) 5 (.sl 21 1 0 q)) 9 (tI j)) (fun _=>hQL q L κ q) (alP true (2000+64*q)) (fun j=>q - j) 0 (zbs _) (Sub.int rfl rfl (zan rfl (zan rfl zay))) SubK.refl (zaj (zak rfl (zak rfl zar))) (xt3 hκ hn (by omega) (by omega)) (lkP (by omega)) ?_;intro j hj;refine A9 ?_;refine xa6 rfl (fun h5=> ?_) (fun h5=> ?_)
   ·
    have hj':j < q:=by omega
    have hLj:=hL j;refine A9 ?_;refine xe4 ?_;refine xf6 (fun i:Nat=>i<=(L j).length+64) (fun i=>uV (uV (uO (uO uN 0 (.sl 20 1 0 q)) 5 (.sl 21 1 0 q)) 9 (tI j)) 10 (tI i)) (fun _=>hQL q L κ q) (alP true (2000+64*q)) (fun i=>(L j).length+64 - i) 0 (zbs _) (Sub.int rfl rfl (zan rfl (zan rfl (zan rfl zay)))) SubK.refl (zaj (zaj (zak rfl (zak rfl zar)))) (xt3 hκ hn (by omega) (by omega)) (lkP (by omega)) ?_;intro i hi;obtain ⟨m,hm,hls⟩:=qp8 (L:=L) hn (zbm q) hκ hj';refine A6 ?_;refine R2 (zag sl166 rfl) rfl rfl (RE (x7 (j) ti37 (xr2 hj' hj') (by omega)) qA ⟨za9 hκ,trivial⟩ trivial ?_);refine A3 ?_;refine xa6 rfl (fun h6=> ?_) (fun h6=> ?_)
    ·
     refine A8 ?_;refine R2 (zag sl166 rfl) rfl rfl (RE (x7 (j) ti37 (xr2 hj' hj') (by omega)) qA ⟨za9 hκ,trivial⟩ trivial ?_);refine A1 ?_;refine R2 (zag sl37 rfl) rfl rfl (RE (x7 (i) ti64 (zi5 (by omega)) (by omega)) qA ⟨qn7 hn (zbm q) hκ hj',trivial⟩ trivial ?_);refine A2 ?_;refine R2 (x3 (xn2 j i (by omega) (by omega)) fi146 rfl) rfl rfl (R1 (x9 zgv (isS zgz) cutLb) rfl (R2 y9 rfl rfl ?_));refine A5 ?_;refine Rg rfl rfl (zag sl166 rfl) rfl qB (RGon rfl rfl (x7 (j) ti37 (xd3 hj') (by omega)) rfl qA ⟨ys9 hκ,trivial⟩ trivial (Rg rfl rfl zd1 rfl qA ?_));refine A2 ?_;refine RGcaseD (t:=111) rfl (fun h7=> ?_) (fun h7=> ?_)
     ·
      refine A2 ?_;refine Rg (zbg h7) rfl (zag sl166 rfl) rfl qB (RGon (zbg h7) rfl (x7 (j) ti37 (xd3 hj') (by omega)) rfl qA ⟨ys9 hκ,trivial⟩ trivial ?_);refine A1 ?_;refine Rg (zbg h7) rfl (zag sl37 rfl) rfl qB (RGon (zbg h7) rfl (x7 (i) ti64 (zi5 (by omega)) (by omega)) rfl qA ⟨hls,trivial⟩ trivial ?_);refine A2 ?_;refine Rg (zbg h7) rfl (x3 (xn2 j i (by omega) (by omega)) fi146 rfl) rfl qB (Rg (zbg h7) rfl (x9 zgv (isS zgz) cutLb) rfl qA (Rg (zbg h7) rfl y9 rfl qB ?_));refine A1 ?_;refine Rg rfl rfl (xm0 (zbg h7)) rfl qB (R2 (xc8 rfl) rfl rfl ?_);refine A1 ?_;refine xi9 rfl rfl ?_;refine A8 ?_;exact xg8 (i+1) ⟨by omega,by omega⟩ (Sub.int rfl (by omega) (zan rfl (zan rfl (zan rfl zay)))) SubK.refl (zaj (zaj (zak rfl (zak rfl zar)))) (xt3 hκ hn (by omega) (by omega)) (lkP (by omega))
     ·
      refine RGoff (zbf h7) rfl rfl (RGoff (zbf h7) rfl rfl (RGoff (zbf h7) rfl rfl (RGoff (zbf h7) rfl rfl (RGoff (zbf h7) rfl rfl (RGoff (zbf h7) rfl rfl (RGoff (zbf h7) rfl rfl (RGoff (zbf h7) rfl rfl (RGoff (zbf h7) rfl rfl (RGoff (zbf h7) rfl rfl (RGoff (zbf h7) rfl rfl (RGoff (zbf h7) rfl rfl (RGoff (zbf h7) rfl rfl (Rg rfl rfl (xc8 (zbf h7)) rfl qB (R2 (xc8 rfl) rfl rfl ?_))))))))))))));refine A1 ?_;refine xi9 rfl rfl ?_;refine A8 ?_;exact xg8 (i+1) ⟨by omega,by omega⟩ (Sub.int rfl (by omega) (zan rfl (zan rfl (zan rfl zay)))) SubK.refl (zaj (zaj (zak rfl (zak rfl zar)))) (xt3 hκ hn (by omega) (by omega)) (lkP (by omega))
    ·
     refine A11 ?_;exact xg8 (j+1) ⟨by omega,by omega⟩ (Sub.int rfl (by omega) (zan rfl (zan rfl zay))) SubK.refl (zaj (zak rfl (zak rfl zar))) (xt3 hκ hn (by omega) (by omega)) (lkP (by omega))
   ·
    clear h5 hj;refine A12 ?_;refine xr0 (ι:=Nat×(Nat->Nat)) (fun x=>x.1<=q/\ ∀j,j < x.1->okM q j (x.2 j)) (fun x=>uV (uO (uO uN 0 (.sl 20 1 0 q)) 5 (.sl 21 1 0 q)) 11 (tI x.1)) (fun x=>hRL q L κ x.2 x.1) (fun x=>alP true (2000+64*q+x.1)) (fun x=>q - x.1) (0,fun _=>0) ⟨zbs _,fun j h=>by cases h⟩ (Sub.int rfl rfl (zan rfl (zan rfl zay))) (hR_0L hn hκ) (zaj (zak rfl (zak rfl zar))) (xt9 hκ (fun j h=>by cases h) hn (zbs _) (by omega)) (lkP (by omega)) ?_;rintro ⟨j,κ2⟩ ⟨hj,hκ2⟩;replace hj:j<=q:=hj;replace hκ2: ∀i,i < j->okM q i (κ2 i):=hκ2;show wc _ _ _ _ (uV (uO (uO uN 0 (.sl 20 1 0 q)) 5 (.sl 21 1 0 q)) 11 (tI j)) (hRL q L κ κ2 j) (alP true (2000+64*q+j));refine A9 ?_;refine xa6 rfl (fun h5=> ?_) (fun h5=> ?_)
    ·
     have hj':j < q:=by omega
     have hLj:=hL j;refine A6 ?_;refine RE (xe5 (k:=22) (t:=tLb 0) (ts:=rV tLb (fSL (j+q) 0)) 64 64 zgr el64 (fun F w=>rfl) rfl rfl rfl (zbm _) (by decide) (by decide) fS_0L) qB trivial ⟨zq8,trivial⟩ ?_;refine A10 ?_;refine xf6 (fun i:Nat=>i<=64) (fun i=>uV (uO (uV (uO (uO uN 0 (.sl 20 1 0 q)) 5 (.sl 21 1 0 q)) 11 (tI j)) 12 (.sl 22 1 0 64)) 13 (tI i)) (fun i=>upd (hRL q L κ κ2 j) 22 (some (rSL (fSL (j+q) i)))) (alM (2000+64*q+j)) (fun i=>64 - i) 0 (zbs _) (Sub.int rfl rfl (zan rfl (zan rfl (zan rfl (zan rfl zay))))) SubK.refl (zaj (zak rfl (zaj (zak rfl (zak rfl zar))))) (zv0 (xt9 hκ hκ2 hn (by omega) (by omega))) (yj7 (lkP (by omega))) ?_;intro i hi;refine A6 ?_;refine xa6 rfl (fun h6=> ?_) (fun h6=> ?_)
     ·
      refine A12 ?_;refine R2 (x3 (xn2 (j+q) i (by omega) (by omega)) fi146 rfl) rfl rfl (R1 (x9 zgv (isS zgz) cutLb) rfl (R2 (zag sl37 rfl) rfl rfl (RE (xa8 (e:= .val (tLb (mLb (j+q) i))) (i) ti64 (xn4 (f:=tLb) (xs:=fSL (j+q) i) (by rw [xr4];omega)) (by omega) (xm8 (f:=tLb) (m:=mLb (j+q) i) rfl)) qB ⟨x6 _ _ _,trivial⟩ trivial ?_)));refine A8 ?_;exact xg8 (i+1) ⟨by omega,by omega⟩ (Sub.int rfl (by omega) (zan rfl (zan rfl (zan rfl (zan rfl zay))))) (by rw [<-jj2 (by omega)];exact SubK.twice) (zaj (zak rfl (zaj (zak rfl (zak rfl zar))))) (zv0 (xt9 hκ hκ2 hn (by omega) (by omega))) (yj7 (lkP (by omega)))
     ·
      have hi64:i=64:=by omega
      subst hi64;refine A5 ?_;have hown: ∀r,upd (upd (hRL q L κ κ2 j) 22 r) 22 none (j+100)=some (rSL (mkL mLb j (L j).length)):=fun r=>by
       rw [x4 _ _ _ (by omega),x4 _ _ _ (by omega)];exact jj6 hn hκ2 hj'
      have hgs: ∀r v r',100<=v->upd (upd (upd (hRL q L κ κ2 j) 22 r) 22 none) v r' 21=some ⟨37,1,false,gsR q 1 κ2 (fun j=>(L j).length+64) (tKL L κ) j⟩:=fun r v r' hv=>by
       rw [x4 _ _ _ (by omega),x4 _ _ _ (by omega),x4 _ _ _ (by omega)];exact qu0 hκ2
      refine zi1 (t:=12) (k:=22) (f:=tLb) (xs:=fSL (j+q) 64) rfl (x6 _ _ _) (fun b hb=>qz9 hκ2 hj hb) (xn8 xr4) xr4 ?_;refine xe3 ?_;refine xu5 [_,_,_,_,_,_,_] ?_;refine A4 ?_;refine R2 (zag sl166 rfl) rfl rfl (RE (x7 (j) ti37 (xd3 hj') (by omega)) qA ⟨(x4 _ _ _ (by omega)).trans ((x4 _ _ _ (by omega)).trans (zd6 hκ2)),trivial⟩ trivial ?_);refine A1 ?_;refine yv5 (by kernel_rfl) ?_;refine yc3 (k':=2000+64*q+j) (f:=tLb) (ys:=fSL (j+q) 64) zgr el64 zf64 rfl rfl (fun _=>inferInstance) rfl rfl (hown _) (zj6 (by omega)) (xe0.trans xi4) (by rw [xr4];omega) (by rw [xr4];omega) (by rw [xr4];omega) rfl (fun b=> ?_);have hv':okM q j (cond b (j+100) (2000+64*q+j)):=by cases b;exact .inr rfl;exact .inl rfl
      generalize cond b (j+100) (2000+64*q+j)=v' at hv' ⊢;rw [xr4];have hvb:100<=v'/\v'<=2000+64*q+j:=by rcases hv' with h | h <;> omega
      refine xa5 (zag sl166 rfl) qB trivial trivial rfl (xa5 (xa8 (e:= .own (.sl v' 1 0 ((L j).length+64))) (j) ti37 (by rw [xt8];simpa using hj') (by omega) (yc1 (len:=fun j=>(L j).length+64) (v:=v') hj')) qB ⟨hgs _ _ _ hvb.1,trivial⟩ trivial rfl (xd1 ?_));refine A7 ?_;exact fun _ _ hs=>xv8 (j+1,setN κ2 j v') ⟨⟨by show j+1<=q;omega,yc4 hκ2 hv'⟩,by show q - (j+1) < q - j;omega⟩ (Sub.int rfl rfl (zan rfl (zan rfl zay))) (by exact ja2 hκ2 hvb.1) (zaj (zak rfl (zak rfl zar))) (by exact xt9 hκ (yc4 hκ2 hv') hn (by omega) (by omega)) (lkP (by omega)) hs
    ·
     have hjq:j=q:=by omega
     subst hjq;clear h5 hj;refine A12 ?_;refine xf6 (fun t:Nat=>t<=j) (fun t=>uV (uO (uO uN 0 (.sl 20 1 0 j)) 5 (.sl 21 1 0 j)) 14 (tI t)) (fun _=>hRL j L κ κ2 j) (alP true (2000+64*j+j)) (fun t=>j - t) 0 (zbs _) (Sub.int rfl rfl (zan rfl (zan rfl zay))) SubK.refl (zaj (zak rfl (zak rfl zar))) (xt9 hκ hκ2 hn (by omega) (by omega)) (lkP (by omega)) ?_;intro t ht;refine A9 ?_;refine xa6 rfl (fun h5=> ?_) (fun h5=> ?_)
     ·
      have ht':t < j:=by omega
      have hLt:=hL t;obtain ⟨xs,hls,hxs⟩:=hR_lsL (L:=L) (κ:=κ) hn hκ2 ht';refine A9 ?_;refine xe4 ?_;refine xf6 (fun i:Nat=>i<=(L t).length) (fun i=>uV (uV (uO (uO uN 0 (.sl 20 1 0 j)) 5 (.sl 21 1 0 j)) 14 (tI t)) 15 (tI i)) (fun _=>hRL j L κ κ2 j) (alP true (2000+64*j+j)) (fun i=>(L t).length - i) 0 (zbs _) (Sub.int rfl rfl (zan rfl (zan rfl (zan rfl zay)))) SubK.refl (zaj (zaj (zak rfl (zak rfl zar)))) (xt9 hκ hκ2 hn (by omega) (by omega)) (lkP (by omega)) ?_;intro i hi;refine A6 ?_;refine R2 (zag sl166 rfl) rfl rfl (RE (x7 (t) ti37 (xd3 ht') (by omega)) qA ⟨zd6 hκ2,trivial⟩ trivial ?_);refine A3 ?_;refine xa6 rfl (fun h6=> ?_) (fun h6=> ?_)
      ·
       have hi':i < (L t).length:=by omega
       refine A8 ?_;refine R2 (zag sl166 rfl) rfl rfl (RE (x7 (t) ti37 (xd3 ht') (by omega)) qA ⟨zd6 hκ2,trivial⟩ trivial ?_);refine A1 ?_;refine R2 (zag sl37 rfl) rfl rfl (RE (x7 (i) ti64 (hxs i hi') (by omega)) qA ⟨hls,trivial⟩ trivial ?_);refine A2 ?_;refine R2 (x3 (xn2 t i (by omega) (by omega)) fi146 rfl) rfl rfl (R1 (x9 zgv (isS zgz) cutLb) rfl (R2 y9 rfl rfl ?_));refine A4 ?_;refine Rg rfl rfl (zag sl166 rfl) rfl qB (RGon rfl rfl (x7 (t) ti37 (xr2 ht' ht') (by omega)) rfl qA ⟨qu0 hκ2,trivial⟩ trivial ?_);refine A1 ?_;refine Rg rfl rfl (zag sl37 rfl) rfl qB (RGon rfl rfl (x7 (i) ti64 (qh2 hi') (by omega)) rfl qA ⟨qq1 hn hκ2 ht',trivial⟩ trivial ?_);refine A2 ?_;refine Rg rfl rfl (x3 (xn2 t i (by omega) (by omega)) fi146 rfl) rfl qB (Rg rfl rfl (x9 zgv (isS zgz) cutLb) rfl qA (Rg rfl rfl y9 rfl qB ?_));refine A1 ?_;refine R2 (xc8 rfl) rfl rfl ?_;refine A1 ?_;refine xi9 rfl rfl ?_;refine A8 ?_;exact xg8 (i+1) ⟨by omega,by omega⟩ (Sub.int rfl (by omega) (zan rfl (zan rfl (zan rfl zay)))) SubK.refl (zaj (zaj (zak rfl (zak rfl zar)))) (xt9 hκ hκ2 hn (by omega) (by omega)) (lkP (by omega))
      ·
       refine A11 ?_;exact xg8 (t+1) ⟨by omega,by omega⟩ (Sub.int rfl (by omega) (zan rfl (zan rfl zay))) SubK.refl (zaj (zak rfl (zak rfl zar))) (xt9 hκ hκ2 hn (by omega) (by omega)) (lkP (by omega))
     ·
      refine A11 ?_;exact xg3 LentC.mk' rfl rfl Imp.refl trivial rfl trivial rfl
structure Ze where
  lo:Int
  hi:Int
  k:Nat
  ns:Bool
  n:Hd
  ds:Bool
  d:Hd
  i:Int
section
variable {n k:Nat} {L:Nat->List Ze} {κ:Nat->Nat}
variable {κ2:Nat->Nat}
end
end An.S
namespace An
open Go
theorem Kr.split {h:Keys}: ∀{l1 l2:List (Nat×HEnt)},Kr h (l1++l2)->Kr h l1/\Kr h l2
 | [],_,hh=>⟨trivial,hh⟩
 | _::r,_,hh=>⟨⟨hh.1,(Kr.split (l1:=r) hh.2).1⟩,(Kr.split (l1:=r) hh.2).2⟩
theorem Kr.memR {h:Keys} {ρ:Nat->Nat}: ∀{H:List (Nat×HEnt)},Kr h (H.map fun x=>(ρ x.1,x.2))-> ∀x∈H,h (ρ x.1)=some x.2
 | y::r,hr,x,hx=>by
  rcases zbt.1 hx with rfl | hx
  ·exact hr.1
  ·exact Kr.memR (H:=r) hr.2 x hx
section
variable {P:Program} {c:Base} {d ty:Nat} {pos:String} {af:Array Edge} {gd:Option (Nat×Bool)}
theorem yn0 {f:FuncId} {xs:List Operand} {aT:Array TypeId} {H H' h1 h2 K:List (Nat×HEnt)} {ps:List Ent} {re:Ent} {nn:List Nat} (ρ:Nat->Nat) (hc:CtG P f H ps re H' nn) (hf:FnI P f) (hl:xs.length=ps.length) (e1:H.map (fun x=>(ρ x.1,x.2.ren ρ))=h1) (e2:H'.map (fun x=>(ρ x.1,x.2.ren ρ))=h2)
  (ln:List Nat) (hsH:SupHs H' (nn++(suppE ps++(H.map (·.1)++(K.map (·.1)++ln))))) (hln:(ln.all fun k=>memN (ρ k) c.ln)=true) (hok:gB ρ H H' re ps nn c.yk=true):
  Does P c ⟨some d,.call {callee:= .value (.func f),args:=xs.toArray,argTypes:=aT},ty,pos,af,gd⟩ ⟨xs.zip (ps.map (Ent.ren ρ)),h1++K.map (fun x=>(ρ x.1,x.2)),some (d,some (re.ren ρ)),H.map (fun x=>(ρ x.1,none))++h2.map (fun x=>(x.1,some x.2)),nn.map ρ⟩:=by
 rw [<-yj6 e2,<-e1];intro g h al a w hp ⟨η,s⟩;obtain ⟨fn,f1,f2,f3⟩:=hf;obtain ⟨hsat,hal⟩:=SatL.of s xs ps hp.rd hl;have hrun:(execOp a.eval ⟨some d,.call {callee:= .value (.func f),args:=xs.toArray,argTypes:=aT},ty,pos,af,gd⟩).run P w= .ok (.enter f (xs.map a.eval).toArray) w:=by
  simp only [execOp,resolve,Act.eval,Deferred.ofValue,zbu,zbv,zbo,invoke];simp only [zeu,zef,zdn];exact xe7 f1 f2 f3 _ w
 obtain ⟨hk1,hk2⟩:=Kr.split hp.kr;have hH':=Kr.ren hk1;have hK':=Kr.memR hk2;have hnn:=Nk.ren hp.nk;simp only [gB,zcf] at hok;have hps: ∀k∈suppE ps,al (ρ k)=true:=fun k hk=>hal _ (xk9 hk);have hall:AllK (c.dom h η) w (η.pre ρ) H:=fun x hx=>HEnt.sat_ren.1 (s.key _ _ (hH' x hx)).2.2.1;refine xh4 hrun (zfc (hc (c.dom h η) w (η.pre ρ) (xs.map a.eval) hsat hall (fun x hx y hy hne hcx hcy=> ?_) (fun b hb ho=> ?_)) ?_)
 ·exact s.inj (ρ x.1) (ρ y.1) _ _ (hH' x hx) (hH' y hy) (xm6 hok.1.1.2 x.1 y.1 (zcr hx) (zcr hy) hne) hcx hcy
 ·obtain ⟨x,hx,hcx,rfl⟩:=ho;exact hb.2.1 ⟨ρ x.1,_,hH' x hx,hcx,rfl⟩
 ·rintro e w' ⟨v,η',rfl,hout⟩;obtain ⟨s',hres⟩:=s.back ρ hH' hout hnn hok.1.1.1 (fun k hk=>by
   have hm:k∈nn++(suppE ps++(H.map (·.1)++(K.map (·.1)++ln))):=by
    rcases zbj.1 hk with hk | hk
    ·have:=xf7 hok.1.2 k hk;simp only [zbj] at this ⊢;rcases this with h1 | h1 | h1
     ·exact .inl h1
     ·exact .inr (.inl h1)
     ·exact .inr (.inr (.inl h1))
    ·exact hsH.spec k hk
   simp only [zbj] at hm;rcases hm with hm | hm | hm | hm | hm
   ·exact .inl hm
   ·exact .inr (hps k hm)
   ·right;obtain ⟨x,hx,rfl⟩:=zcb.1 hm;exact (s.key _ _ (hH' x hx)).1
   ·right;obtain ⟨x,hx,rfl⟩:=zcb.1 hm;exact (s.key _ _ (hK' x hx)).1
   ·exact .inr (s.lk _ (xb5.1 (zez.1 hln k hm))).1) hok.2
  refine ⟨v,rfl,zd7 ⟨_,s'.put (hp.d _ rfl) hres fun k hk=> ?_⟩⟩;cases re with
  | val t=>cases hk
  | own p=>
   obtain ⟨j,hj,rfl⟩:=VP.ren_supp1 p k hk;have hm:=xf7 hok.1.2 j hj;rw [zbj,zbj] at hm;rcases hm with hm | hm | hm
   ·rw [xb5.2 (zcr hm)];rfl
   ·rw [hps j hm,Bool.or_true]
   ·obtain ⟨x,hx,rfl⟩:=zcb.1 hm;rw [(s.key _ _ (hH' x hx)).1,Bool.or_true]
end
theorem C_renK {P:Program} {c:Base} {g:Slots} {h:Keys} {al:Names} {Q:Exit->Act->World->Prop} {x:Code} {k q T es es0 off len:Nat} {agg:Bool} {ts:List Ent} {y:HEnt} (k' i0:Nat) (hq:h q=some ⟨T,es,agg,ts⟩) (hi:ts[i0]? =some (.own (.sl k es0 off len))) (hk:h k=some y) (hne:q≠k) (hk':al k'=false)
  (H:wc P c x Q g (upd (upd (upd h k none) k' (some y)) q (some ⟨T,es,agg,ts.set i0 (.own (.sl k' es0 off len))⟩)) (fun j=>Nat.beq j k' || al j)):wc P c x Q g h al:=fun a w hst=>by
 obtain ⟨η,s⟩:=hst;have s2:=s.rename hk hk';have hk1:k≠k':=fun e=>by have:=(s.key k _ hk).1;rw [e,hk'] at this;cases this
 have hq1:q≠k':=fun e=>by have:=(s.key q _ hq).1;rw [e,hk'] at this;cases this
 obtain ⟨hb,hc⟩:=η.set_other (k:=k') (j:=k) (η.b k) (η.c k) hk1;have hq2:upd (upd h k none) k' (some y) q=some ⟨T,es,agg,ts⟩:=by rw [x4 _ _ _ hq1,x4 _ _ _ hne];exact hq
 have hilt:i0 < ts.length:=(zbi.1 hi).1;refine H a w ⟨_,s2.rekey hq2 (by simp) (fun j hj=> ?_) fun cs i e' _ hi'=> ?_⟩
 ·obtain ⟨e,he,hj⟩:=zbw.1 hj;rcases zgj he with he | rfl
  ·exact (s2.key q _ hq2).2.1 j (zbw.2 ⟨e,he,hj⟩)
  ·simp only [Ent.supp,VP.supp,zbq] at hj;subst hj;simp
 ·rw [zeo] at hi';by_cases hii:i0=i
  ·subst hii;rw [if_pos rfl,if_pos hilt] at hi';cases hi';refine ⟨_,hi,fun ⟨A,e1,e2,e3⟩=>⟨A,?_,?_,?_⟩⟩
   ·rw [hc] at e1;rw [Env.set_c];exact e1
   ·rw [hc] at e2;rw [Env.set_c];exact e2
   ·rw [hb,hc] at e3;rw [Env.set_c,Env.set_b];exact e3
  ·rw [if_neg hii] at hi';exact ⟨e',hi',id⟩
section
variable {P:Program} {c:Base} {g:Slots} {h:Keys} {al:Names} {Q:Exit->Act->World->Prop} {A:Array Oper} {rest:List Oper} {d ty:Nat} {pos:String} {af:Array Edge} {gd:Option (Nat×Bool)}
end
def tLX {α:Type} (T es:Nat) (agg:Bool) (f:α->Ty) (u:Hd) (xs ms:List α):Ty:=
  ⟨fun F w v=>v=u.v/\u.n=xs.length/\xs.length+ms.length<=u.c/\u.c<=9223372036854775807/\0 < es/\(agg=false->es=1)/\(0 < u.c-> ∃b cs,u.A=some ⟨b,0,none⟩/\F b/\w.heap[b]? =some (.cells cs T (0,0))/\cs.size=u.c*es/\ ∀i x,(xs++ms)[i]? =some x->(f x).p F w (pick agg es cs (i*es))),
   fun ⟨h1,h2,h3,h4,h5,h6,h7⟩ hk=>⟨h1,h2,h3,h4,h5,h6,fun hc=>by
     obtain ⟨b,cs,e1,e2,e3,e4,e5⟩:=h7 hc;obtain ⟨k1,k2⟩:=hk b _ e2 e3 rfl;exact ⟨b,cs,e1,k1,k2,e4,fun i x hi=>(f x).mono (e5 i x hi) hk⟩⟩⟩
section
variable {α:Type} {T es:Nat} {agg:Bool} {f g:α->Ty} {u:Hd} {xs ms:List α}
theorem lx_K:Le (tLX T es agg f u xs ms) (tLK es agg f xs ms):=fun F w v ⟨h1,h2,h3,h4,h5,h6,h7⟩=>by
 refine ⟨u.A,u.c,by rw [h1,<-h2],u.A,u.c,by rw [zck],by rw [zck];exact h3,h4,?_⟩;rcases zcg u.c with h0 | h0
 ·refine .inl (zea ?_);rw [zck];omega
 ·obtain ⟨b,cs,e1,e2,e3,e4,e5⟩:=h7 h0;refine .inr ⟨b,0,e1,e2,fun i x hi=>⟨_,⟨cs,T,(0,0),e3,?_,h5,h6,rfl⟩,?_⟩⟩
  ·have h8:(i+1)*es<=u.c*es:=zbr _ (by
    have:=(zbi.1 hi).1;rw [zck] at this;omega)
   rw [zch,zfi] at h8;omega
  ·rw [zcj];exact e5 i x hi
theorem zb9:Le (tLX T es agg f u xs ms) (tL es agg f xs):=zav lx_K tLK_le
theorem lx_nil (he:0 < es) (ha:agg=false->es=1):Le (tE (.slice none 0 0)) (tLX T es agg f ⟨none,0,0⟩ ([]:List α) []):=fun _ _ _ h=>⟨h,rfl,zbm _,by decide,he,ha,fun hc=>by simp at hc⟩
theorem yn5:Le (tLX T es agg f u xs ms) (tH u):=fun _ _ _ h=>h.1
instance:Shape (tLX T es agg f u xs ms) 1 false:=⟨fun ⟨h,_⟩=>by rw [h];exact xd6 rfl⟩
theorem qk2 {F:Dom} {w:World} {v:Value} (h:(tLX T es agg f u xs ms).p F w v) {b:Nat} (hb:u.b=some b):F b/\ ∃cs,w.heap[b]? =some (.cells cs T (0,0)):=by
 obtain ⟨_,_,_,_,_,_,h7⟩:=h;by_cases hc:0 < u.c
 ·obtain ⟨b',cs,e1,e2,e3,_⟩:=h7 hc;simp only [Hd.b,e1,if_pos hc,zca] at hb;subst hb;exact ⟨e2,cs,e3⟩
 ·cases hA:u.A <;> simp [Hd.b,hA,hc] at hb
end
def WitT (t:Ty) (us:List Hd):Prop:= ∀F w v,t.p F w v-> ∀u∈us,∀b,u.b=some b->F b/\b < w.heap.size
theorem WitT.lx {α:Type} {T es:Nat} {agg:Bool} {f:α->Ty} {u:Hd} {xs ms:List α}:WitT (tLX T es agg f u xs ms) [u]:=fun F w v h u' hu b hb=>by
 cases zbq.1 hu;obtain ⟨h1,cs,h2⟩:=qk2 h hb;exact ⟨h1,xb0 h2⟩
theorem WitT.app {t:Ty} {us us':List Hd} (h:WitT t us) (h':WitT t us'):WitT t (us++us'):=fun F w v hp u hu=>by
 rcases zbj.1 hu with hu | hu
 ·exact h F w v hp u hu
 ·exact h' F w v hp u hu
theorem WitT.fd {fs:List Fd} {us:List Hd} (i:Nat) {f:Fd} (hi:fs[i]? =some f) (h:WitT f.t us):WitT (tS fs) us:=fun F w v ⟨cs,_,_,h3⟩ u hu=>by
 obtain ⟨v',hv⟩:=Fd.all_at hi h3;exact h F w v' hv u hu
def HdOk (w:World) (u:Hd) (R:HEnt):Prop:=u.n=R.ts.length/\u.n<=u.c/\u.c<=9223372036854775807/\0 < R.es/\(R.agg=false->R.es=1)/\(∀e∈R.ts,∃t,e= .val t/\Free t)/\
 (0 < u.c-> ∃b cs,u.A=some ⟨b,0,none⟩/\w.heap[b]? =some (.cells cs R.T (0,0))/\cs.size=u.c*R.es/\ ∀(i:Nat) (t:Ty),R.ts[i]? =some (.val t)->t.p (fun _=>False) w (pick R.agg R.es cs (i*R.es)))
theorem HdOk.same {w w':World} {u:Hd} {R:HEnt} (h:HdOk w u R) (hs: ∀b,u.b=some b->b < w.heap.size->w'.heap[b]? =w.heap[b]?):HdOk w' u R:=by
 obtain ⟨h1,h2,h3,h4,h5,h6,h7⟩:=h;refine ⟨h1,h2,h3,h4,h5,h6,fun hc=> ?_⟩;obtain ⟨b,cs,e1,e2,e3,e4⟩:=h7 hc;refine ⟨b,cs,e1,(hs b (by simp [Hd.b,e1,hc]) (xb0 e2)).trans e2,e3,fun i t hi=> ?_⟩;obtain ⟨t',k1,k2⟩:=h6 _ (zdc hi);cases k1;exact k2 _ _ _ _ _ (e4 i t hi)
theorem HdOk.T {w:World} {u:Hd} {R:HEnt} (h:HdOk w u R) {b:Nat} (hb:u.b=some b): ∃cs,w.heap[b]? =some (.cells cs R.T (0,0)):=by
 obtain ⟨_,_,_,_,_,_,h7⟩:=h;by_cases hc:0 < u.c
 ·obtain ⟨b',cs,e1,e2,_⟩:=h7 hc;simp only [Hd.b,e1,if_pos hc,zca] at hb;subst hb;exact ⟨cs,e2⟩
 ·cases hA:u.A <;> simp [Hd.b,hA,hc] at hb
theorem HdOk.lx {α:Type} {T es:Nat} {agg:Bool} {f f':α->Ty} {u:Hd} {xs ms:List α} {F:Dom} {w:World} {v:Value} (hf: ∀x,Le (f x) (f' x)) (hF: ∀x,Free (f' x)) (h:(tLX T es agg f u xs ms).p F w v):HdOk w u ⟨T,es,agg,rV f' xs⟩:=by
 obtain ⟨_,h2,h3,h4,h5,h6,h7⟩:=h;refine ⟨by rw [h2];simp [rV],by omega,h4,h5,h6,fun e he=> ?_,fun hc=> ?_⟩
 ·obtain ⟨x,_,rfl⟩:=zcb.1 he;exact ⟨_,rfl,hF x⟩
 ·obtain ⟨b,cs,e1,_,e3,e4,e5⟩:=h7 hc;refine ⟨b,cs,e1,e3,e4,fun i t hi=> ?_⟩;simp only [rV,zbp] at hi;obtain ⟨x,hx,e⟩:=zdo.1 hi;cases e;exact hF x _ _ _ _ _ (hf x _ _ _ (e5 i x (by rw [zda (zbi.1 hx).1];exact hx)))
theorem HdOk.lm {T:Nat} {u:Hd} {l:List Nat} {F:Dom} {w:World} {v:Value} (h:(tLmX T u l).p F w v):HdOk w u ⟨T,1,false,rW .u16 l⟩:=by
 obtain ⟨_,h2,h3,h4,h7⟩:=h;refine ⟨by rw [h2];simp [rW],h3,h4,Nat.one_pos,fun _=>rfl,fun e he=> ?_,fun hc=> ?_⟩
 ·obtain ⟨x,_,rfl⟩:=zcb.1 he;exact ⟨_,rfl,Free.E⟩
 ·obtain ⟨b,cs,e1,_,e3,e4,e5⟩:=h7 hc;refine ⟨b,cs,e1,e3,by rw [e4,zfr],fun i t hi=> ?_⟩;simp only [rW,zbp] at hi;obtain ⟨x,hx,e⟩:=zdo.1 hi;cases e;have:=e5 i x hx;show pick false 1 cs (i*1)=_;simpa [pick] using this
structure Takes (X:OvJ) (n m:Nat) (ps:List (Hd×HEnt)):Prop where
  ok: ∀w,X.J n w-> ∀p∈ps,HdOk w p.1 p.2
  D: ∀p∈ps,∀b,p.1.b=some b->X.D b
  next: ∀w w',X.J n w->w.heap.size<=w'.heap.size->(∀b,X.D b->b < w.heap.size->(∀p∈ps,p.1.b≠some b)->w'.heap[b]? =w.heap[b]?)->X.J m w'
  sep:SepH (ps.map (·.1))
def p00:Hd×HEnt:=(⟨none,0,0⟩,⟨0,1,false,[]⟩)
section
variable {P:Program} {c:Base} {d ty:Nat} {pos:String} {af:Array Edge} {gd:Option (Nat×Bool)} {X:OvJ}
theorem z8 {T' K q n m es:Nat} {ps:List (Hd×HEnt)} {R:Nat->HEnt} {len:Nat->Nat} {N:Nat} {f:FuncId} {x:Operand} {aT:Array TypeId} {w0:World} {η0:Env} {H0:List (Nat×HEnt)} (hp:OvC c w0 η0 H0 K X) (ht:Takes X n m ps) (hN:ps.length=N) (hRR: ∀j,j < N-> ∃p,ps[j]? =some p/\p.2=R j/\(R j).ts.length=len j/\(R j).es=es)
  (hc:CtG P f ((20,⟨T',1,false,owns N es len⟩)::poolL N R) [.own (.sl 20 1 0 N)] (.val (tB true)) [] []) (hf:FnI P f):
  Does P c ⟨some d,.call {callee:= .value (.func f),args:=[x].toArray,argTypes:=aT},ty,pos,af,gd⟩ ⟨[(x,.own (.sl q 1 0 N))],[(K,⟨n,1,false,[]⟩),(q,⟨T',1,false,rV tH (ps.map (·.1))⟩)],some (d,some (.val (tB true))),[(q,none),(K,some ⟨m,1,false,[]⟩)],[]⟩:=by
 subst hN;intro g h al a w hpre ⟨η,s⟩;obtain ⟨fn,f1,f2,f3⟩:=hf;have hrun:(execOp a.eval ⟨some d,.call {callee:= .value (.func f),args:=[x].toArray,argTypes:=aT},ty,pos,af,gd⟩).run P w= .ok (.enter f ([x].map a.eval).toArray) w:=by
  simp only [execOp,resolve,Act.eval,Deferred.ofValue,zbu,zbv,zbo,invoke];simp only [zeu,zef,zdn];exact xe7 f1 f2 f3 _ w
 have hKk:h K=some ⟨n,1,false,[]⟩:=hpre.kr.1;have hq:h q=some ⟨T',1,false,rV tH (ps.map (·.1))⟩:=hpre.kr.2.1;have hj:=s.jj K _ hp.yk hKk;have hj:c.J n _ _ w:=hj;rw [hp.J] at hj;have hJ0:=ht.ok w hj.1;have hDv: ∀b,(∃p∈ps,p.1.b=some b)->η.vo b:=fun b ⟨p,h1,h2⟩=>(hj.2 b (ht.D p h1 b h2)).1;obtain ⟨_,_,⟨p1,p2,p3,p4,p5⟩,p6⟩:=s.key q _ hq;have p1:ps.length<=η.c q:=by simpa [rV] using p1
 obtain ⟨A,a1,a2,a3⟩:=(xa7 s hpre.rd.1).1;have hat: ∀j,j < ps.length-> ∃p,ps[j]? =some p/\ps.getD j p00=p/\p∈ps/\p.2=R j/\(R j).ts.length=len j/\(R j).es=es:=fun j hj=>by
  obtain ⟨p,h1,h2⟩:=hRR j hj;exact ⟨p,h1,by rw [zbh,h1];rfl,zdc h1,h2⟩
 obtain ⟨η2,hη⟩: ∃η2:Env,η2=⟨fun k=>if k=20 then η.b q else ((ps.getD (k - 100) p00).1.b).getD 0,fun k=>if k=20 then η.c q else (ps.getD (k - 100) p00).1.c,fun _=>False⟩:=⟨_,rfl⟩
 have b20:η2.b 20=η.b q:=by rw [hη];simp
 have c20:η2.c 20=η.c q:=by rw [hη];simp
 have bj: ∀j,η2.b (j+100)=((ps.getD j p00).1.b).getD 0:=fun j=>by rw [hη];simp
 have cj: ∀j,η2.c (j+100)=(ps.getD j p00).1.c:=fun j=>by rw [hη];simp
 have hpt: ∀j,j < ps.length->0 < (ps.getD j p00).1.c->(ps.getD j p00).1.b=some (η2.b (j+100))/\(ps.getD j p00).1.A=some ⟨η2.b (j+100),0,none⟩/\ ∃cs,w.heap[η2.b (j+100)]? =some (.cells cs (R j).T (0,0))/\cs.size=(ps.getD j p00).1.c*es/\ ∀(i:Nat) (t:Ty),(R j).ts[i]? =some (.val t)->t.p (fun _=>False) w (pick (R j).agg (R j).es cs (i*(R j).es)):=fun j hj hcj=>by
  obtain ⟨p,_,h2,h3,h4,_,h6⟩:=hat j hj;rw [bj,h2];rw [h2] at hcj;obtain ⟨_,_,_,_,_,_,e5⟩:=hJ0 p h3;obtain ⟨b,cs,e1,e2,e3,e4⟩:=e5 hcj;have hb:p.1.b=some b:=by simp [Hd.b,e1,hcj]
  rw [hb];rw [h4] at e2 e3 e4;exact ⟨rfl,e1,cs,e2,by rw [<-h6];exact e3,e4⟩
 have hmem: ∀y,y∈((20,⟨T',1,false,owns ps.length es len⟩)::poolL ps.length R:List (Nat×HEnt))->y=(20,⟨T',1,false,owns ps.length es len⟩)∨ ∃j,j < ps.length/\y=(j+100,R j):=fun y hy=>by
  rcases zbt.1 hy with h1 | h1
  ·exact .inl h1
  ·obtain ⟨j,hj,rfl⟩:=zcb.1 h1;exact .inr ⟨j,zcw.1 hj,rfl⟩
 have hown20:0 < η.c q-> ¬η.vo (η.b q):=fun hc0=>(p6 hc0).2.1;have hsp: ∀i j,i < ps.length->j < ps.length->i≠j->0 < (ps.getD i p00).1.c->0 < (ps.getD j p00).1.c->η2.b (i+100)≠η2.b (j+100):=by
  have key: ∀i j,i < j->j < ps.length->0 < (ps.getD i p00).1.c->0 < (ps.getD j p00).1.c->η2.b (i+100)≠η2.b (j+100):=fun i j hij hj hi hjc e=>by
   have h1:=zfj.1 ht.sep i j (by simpa using Nat.lt_trans hij hj) (by simpa using hj) hij;simp only [List.getElem_map] at h1;have g1:ps.getD i p00=ps[i]:=by rw [zbh,zbk (Nat.lt_trans hij hj)];rfl
   have g2:ps.getD j p00=ps[j]:=by rw [zbh,zbk hj];rfl
   refine h1 (η2.b (i+100)) ?_ ?_
   ·rw [<-g1];exact (hpt i (Nat.lt_trans hij hj) hi).1
   ·rw [<-g2,e];exact (hpt j hj hjc).1
  intro i j hi hj hne hci hcj;rcases Nat.lt_or_gt_of_ne hne with h1 | h1
  ·exact key i j h1 hj hci hcj
  ·exact (key j i h1 hi hcj hci).symm
 have hvo: ∀j,j < ps.length->0 < (ps.getD j p00).1.c->η.vo (η2.b (j+100)):=fun j hj hcj=>by
  obtain ⟨p,_,h2,h3,_⟩:=hat j hj;refine hDv _ ⟨p,h3,?_⟩;rw [<-h2];exact (hpt j hj hcj).1
 refine xh4 hrun (zfc (hc (fun _=>False) w η2 ([x].map a.eval) ⟨?_,trivial⟩ (fun y hy=> ?_) (fun y hy z hz hne hcy hcz=> ?_) (fun b hb=>hb.elim)) ?_)
 ·refine ⟨A,?_,?_,?_⟩
  ·rw [c20];exact a1
  ·rw [c20];exact a2
  ·rw [c20,b20];exact a3
 ·rcases hmem y hy with rfl | ⟨j,hj,rfl⟩
  ·refine ⟨by rw [c20,zt4];exact p1,by simp,fun _=>rfl,by rw [c20];exact p4,fun hc0=> ?_⟩;rw [c20] at hc0;obtain ⟨cs,m1,m2,m3⟩:=p5 hc0;refine ⟨cs,by rw [b20];exact m1,by rw [c20];exact m2,fun i e hi=> ?_⟩;have hil:i < ps.length:=by have:=(zbi.1 hi).1;rwa [zt4] at this
   rw [xd3 hil] at hi;cases hi;obtain ⟨p,u1,u2,u3,u4,u5,_⟩:=hat i hil;obtain ⟨k1,k2,_⟩:=hJ0 p u3;rw [u4,u5] at k1;have hv:pick false 1 cs (i*1)=p.1.v:=m3 i (.val (tH p.1)) (by simp [rV,u1]);refine ⟨p.1.A,?_,?_,fun hc1=> ?_⟩
   ·rw [hv,cj,u2];simp only [Hd.v,Nat.sub_zero,k1]
   ·rw [cj,u2];omega
   ·rw [cj] at hc1;have:=(hpt i hil hc1).2.1;rw [u2] at this;rw [zfa];exact this
  ·obtain ⟨p,u1,u2,u3,u4,u5,u6⟩:=hat j hj;obtain ⟨k1,k2,k3,k4,k5,k6,_⟩:=hJ0 p u3;rw [u4] at k1 k4 k5 k6;refine ⟨?_,k4,k5,?_,fun hc0=> ?_⟩
   ·show (R j).ts.length<=η2.c (j+100);rw [cj,u2];omega
   ·show η2.c (j+100)<=_;rw [cj,u2];exact k3
   ·have hc0:0 < η2.c (j+100):=hc0;rw [cj] at hc0;obtain ⟨_,_,cs,e1,e2,e3⟩:=hpt j hj hc0;refine ⟨cs,e1,by show cs.size=η2.c (j+100)*(R j).es;rw [cj,e2,u6],fun i e hi=> ?_⟩;obtain ⟨t,rfl,_⟩:=k6 e (zdc hi);exact e3 i t hi
 ·rcases hmem y hy with rfl | ⟨i,hi,rfl⟩ <;> rcases hmem z hz with rfl | ⟨j,hj,rfl⟩
  ·exact absurd rfl hne
  ·have hcy:0 < η2.c 20:=hcy;have hcz:0 < η2.c (j+100):=hcz;show η2.b 20≠η2.b (j+100);intro e;rw [c20] at hcy;rw [cj] at hcz;refine hown20 hcy ?_;rw [<-b20,e];exact hvo j hj hcz
  ·have hcy:0 < η2.c (i+100):=hcy;have hcz:0 < η2.c 20:=hcz;show η2.b (i+100)≠η2.b 20;intro e;rw [c20] at hcz;rw [cj] at hcy;refine hown20 hcz ?_;rw [<-b20,<-e];exact hvo i hi hcy
  ·have hcy:0 < η2.c (i+100):=hcy;have hcz:0 < η2.c (j+100):=hcz;rw [cj] at hcy hcz;exact hsp i j hi hj (fun e=>hne (by rw [e])) hcy hcz
 ·rintro e w' ⟨v,η',rfl,ho⟩;refine ⟨v,rfl,?_⟩;have hch: ∀b,OwnK η2 ((20,⟨T',1,false,owns ps.length es len⟩)::poolL ps.length R) b->(0 < η.c q/\b=η.b q)∨ ∃p∈ps,p.1.b=some b:=fun b hb=>by
   obtain ⟨y,hy,hcy,rfl⟩:=hb;rcases hmem y hy with rfl | ⟨j,hj,rfl⟩
   ·have hcy:0 < η2.c 20:=hcy;exact .inl ⟨by rw [<-c20];exact hcy,b20⟩
   ·have hcy:0 < η2.c (j+100):=hcy;rw [cj] at hcy;obtain ⟨p,_,u2,u3,_⟩:=hat j hj;refine .inr ⟨p,u3,?_⟩;rw [<-u2];exact (hpt j hj hcy).1
  have s2:=s.after (m:=m) hp [q] (fun k hk=>by cases zbq.1 hk;exact ⟨_,hq⟩) hKk (ho.stp.mono fun b _ hb=>(hch b hb).elim (fun h1=> .inl ⟨q,by simp,h1⟩) (fun ⟨p,h1,h2⟩=> .inr (ht.D p h1 b h2)))
   (ht.next w w' hj.1 ho.stp.size fun b hb hlt hno=>ho.stp.block b hlt fun hh=>(hch b hh).elim (fun ⟨h1,h2⟩=>hown20 h1 (by rw [<-h2];exact (hj.2 b hb).1)) fun ⟨p,h1,h2⟩=>hno p h1 h2)
  exact ⟨_,s2.put (hpre.d _ rfl) (e:= .val (tB true)) ho.res fun k hk=>by cases hk⟩
end
section
variable {P:Program} {c:Base} {g:Slots} {h:Keys} {al:Names} {Q:Exit->Act->World->Prop}
theorem WitSt.slot {s:Nat} {t:Ty} {us:List Hd} (hs:g s=some (.val t)) (ht:WitT t us):WitSt c g h us:=fun _ _ _ _ st u hu b hb=>ht _ _ _ (xt2 st hs) u hu b hb
theorem WitSt.keyV {k T0 es:Nat} {agg:Bool} {α:Type} {f:α->Ty} {zs:List α} {us:α->List Hd} (hk:h k=some ⟨T0,es,agg,rV f zs⟩) (ht: ∀z∈zs,WitT (f z) (us z)):WitSt c g h (zs.flatMap us):=fun al a w η st u hu b hb=>by
 obtain ⟨z,hz,hu⟩:=zbw.1 hu;obtain ⟨i,hi,rfl⟩:=List.getElem_of_mem hz;obtain ⟨_,_,⟨h3,_,_,_,h7⟩,_⟩:=st.key k _ hk;have hc:0 < η.c k:=by simp only [rV,zcq] at h3;omega
 obtain ⟨cs,_,_,m⟩:=h7 hc;exact ht _ (zdw hi) _ _ _ (m i (.val (f zs[i])) (by simp [rV,hi])) u hu b hb
theorem St'.hdLX {a:Act} {w:World} {η:Env} {k T es len:Nat} {agg:Bool} {α:Type} {f:α->Ty} {xs ms:List α} {v:Value} {hs:List Hd} (s:St' c g h al a w η) (hk:h k=some ⟨T,es,agg,rV f (xs++ms)⟩) (hlb:0 < η.c k-> ¬c.lb (η.b k)) (hw:WitSt c g h hs) (hl:xs.length=len) (hv:(Ent.own (.sl k es 0 len)).sat (c.dom h η) w η v):
  ∃u,NewH c.w0.heap.size [u]/\FreshH hs [u]/\(tLX T es agg f u xs ms).p (c.dom (upd h k none) η) w v:=by
 subst hl;obtain ⟨A0,q1,q2,q3⟩:=hv;obtain ⟨_,_,⟨h6,h7,h8,h9,h10⟩,h11⟩:=s.key k _ hk;simp only [Nat.sub_zero,zcj,zfa] at q1 q2 q3;simp only at h6 h9 h10;have hnew:0 < η.c k->c.w0.heap.size<=η.b k:=fun hc=>((h11 hc).1).resolve_right (hlb hc);have hbb: ∀b,Hd.b ⟨A0,xs.length,η.c k⟩=some b->0 < η.c k/\b=η.b k:=fun b hb=>by
  by_cases hc:0 < η.c k
  ·simp only [Hd.b,q3 hc,if_pos hc,zca] at hb;exact ⟨hc,hb.symm⟩
  ·cases A0 <;> simp [Hd.b,hc] at hb
 have hown: ∀b,Own (upd h k none) η b->Own h η b:=by
  rintro b ⟨j,y,hj,hcj,rfl⟩;by_cases hjk:j=k
  ·subst hjk;rw [x6] at hj;cases hj
  ·rw [x4 _ _ _ hjk] at hj;exact ⟨j,y,hj,hcj,rfl⟩
 refine ⟨⟨A0,xs.length,η.c k⟩,fun u' hu b hb=> ?_,fun u hu b hb v hv e=> ?_,q1,rfl,by simpa [rV] using h6,h9,h7,h8,fun hc=> ?_⟩
 ·cases zbq.1 hu;obtain ⟨hc,rfl⟩:=hbb b hb;exact hnew hc
 ·cases zbq.1 hv;obtain ⟨hc,rfl⟩:=hbb b e;exact (hw al a w η s u hu _ hb).1.2.1 ⟨k,_,hk,hc,rfl⟩
 obtain ⟨cs,m1,m2,m3⟩:=h10 hc;obtain ⟨d1,d2,d3⟩:=h11 hc;refine ⟨η.b k,cs,q3 hc,⟨.inl (hnew hc),?_,d2,d3⟩,m1,m2,fun i x hi=> ?_⟩
 ·rintro ⟨j,y,hj,hcj,e⟩;by_cases hjk:j=k
  ·subst hjk;rw [x6] at hj;cases hj
  ·rw [x4 _ _ _ hjk] at hj;exact s.inj j k y _ hj hk hjk hcj hc e.symm
 ·exact (f x).mono (m3 i (.val (f x)) (by simp only [rV,zbp,hi,zdv])) fun b o hb hl _=>⟨⟨hb.1,fun ho=>hb.2.1 (hown b ho),hb.2.2⟩,hl⟩
theorem qk6 {t k T es len:Nat} {agg:Bool} {ts:List Ent} {α:Type} {f:α->Ty} {xs ms:List α} (hs:List Hd) (hg:g t=some (.own (.sl k es 0 len))) (hk:h k=some ⟨T,es,agg,ts⟩) (hlb:NoLb c) (hw:WitSt c g h hs)
  (hts:ts=rV f (xs++ms)) (hl:xs.length=len) (a:Act) (w:World) (hst:St c g h al a w): ∃u,NewH c.w0.heap.size [u]/\FreshH hs [u]/\St c (upd g t (some (.val (tLX T es agg f u xs ms)))) (upd h k none) al a w:=by
 obtain ⟨η,s⟩:=hst;subst hts;obtain ⟨u,h1,h2,hv⟩:=s.hdLX hk (fun _=>hlb _) hw hl (s.slot t _ hg).2.2;refine ⟨u,h1,h2,η,?_⟩;have s2:=(s.drop k).put (s.slot t _ hg).1 (e:= .val (tLX T es agg f u xs ms)) hv fun j hj=>by cases hj
 have e:a.put (some t) (a.tmps.getD t undef)=a:=by
  have hlt:t < a.tmps.size:=by rw [s.tn];exact (s.slot t _ hg).1
  have:a.tmps.setIfInBounds t (a.tmps.getD t undef)=a.tmps:=by
   apply zdp;intro i;rw [zdy];by_cases hi:t=i
   ·subst hi;simp [hlt]
   ·simp [hi]
  simp only [Act.put,this]
 rwa [e] at s2
theorem ye4 {x:Code} {q j T Tq es len:Nat} {agg:Bool} {us ts:List Ent} {us':Hd->List Ent} {α:Type} {f:α->Ty} {xs ms:List α} (hs:List Hd) (i:Nat) (hq:h q=some ⟨Tq,1,false,us⟩) (hi:us[i]? =some (.own (.sl j es 0 len))) (hj:h j=some ⟨T,es,agg,ts⟩) (hne:Nat.beq q j=false) (hlb:NoLbK c h j) (hw:WitSt c g h hs)
  (hts:ts=rV f (xs++ms)) (hl:xs.length=len) (hus: ∀u,us.set i (.val (tLX T es agg f u xs ms))=us' u) (H: ∀u,NewH c.w0.heap.size [u]->FreshH hs [u]->wc P c x Q g (upd (upd h j none) q (some ⟨Tq,1,false,us' u⟩)) al):wc P c x Q g h al:=fun a w ⟨η,s⟩=>by
 subst hts;have hne:q≠j:=fun e=>by rw [e] at hne;simp at hne
 obtain ⟨k1,k2,⟨k3,k4,k5,k6,k7⟩,_⟩:=s.key q _ hq;have hil:i < us.length:=(zbi.1 hi).1;have k3:us.length<=η.c q:=k3;obtain ⟨cs,m1,m2,m3⟩:=k7 (by omega);obtain ⟨u,n1,n2,h2⟩:=s.hdLX hj (hlb g al a w η s) hw hl (m3 i _ hi);have s1:=s.drop j;refine H u n1 n2 a w ⟨η,?_⟩;rw [<-hus u];refine s1.same (x:=⟨Tq,1,false,us⟩) (by rw [x4 _ _ _ hne];exact hq) rfl (fun t ht=> ?_) ⟨by simpa using k3,Nat.one_pos,fun _=>rfl,k6,fun _=>⟨cs,m1,m2,fun n e he=> ?_⟩⟩
 ·simp only [HEnt.supp,zbw] at ht;obtain ⟨e',he',ht⟩:=ht;obtain ⟨j',hj'⟩:=zdq he';rcases List.getElem?_set_cases hj' with ⟨_,rfl,_⟩ | ⟨_,hj''⟩
  ·cases ht
  ·exact k2 t (HEnt.mem_supp hj'' ht)
 ·rcases List.getElem?_set_cases he with ⟨rfl,rfl,_⟩ | ⟨hne',hj'⟩
  ·exact h2
  ·exact Ent.sat_go (m3 n e hj') (Keep.drop j) fun _ _=>⟨rfl,rfl⟩
theorem yg2 {A:Array Oper} {rest:List Oper} {t k T es len:Nat} {agg:Bool} {ts:List Ent} {α:Type} {f:α->Ty} {xs ms:List α} (hs:List Hd) (hg:g t=some (.own (.sl k es 0 len))) (hk:h k=some ⟨T,es,agg,ts⟩) (hlb:NoLb c) (hw:WitSt c g h hs)
  (hts:ts=rV f (xs++ms)) (hl:xs.length=len) (H: ∀u,NewH c.w0.heap.size [u]->FreshH hs [u]->wl P c A Q rest (upd g t (some (.val (tLX T es agg f u xs ms)))) (upd h k none) al):wl P c A Q rest g h al:=fun a w hst=>by
 obtain ⟨u,h1,h2,h3⟩:=qk6 hs hg hk hlb hw hts hl a w hst;exact H u h1 h2 a w h3
end
def ItT (t:Ty) (ps:List (Hd×HEnt)):Prop:= ∀F w v,t.p F w v-> ∀p∈ps,HdOk w p.1 p.2/\ ∀b,p.1.b=some b->F b
theorem ItT.app {t:Ty} {us us':List (Hd×HEnt)} (h:ItT t us) (h':ItT t us'):ItT t (us++us'):=fun F w v hp u hu=>by
 rcases zbj.1 hu with hu | hu
 ·exact h F w v hp u hu
 ·exact h' F w v hp u hu
theorem ItT.fd {fs:List Fd} {us:List (Hd×HEnt)} (i:Nat) {f:Fd} (hi:fs[i]? =some f) (h:ItT f.t us):ItT (tS fs) us:=fun F w v ⟨cs,_,_,h3⟩ u hu=>by
 obtain ⟨v',hv⟩:=Fd.all_at hi h3;exact h F w v' hv u hu
theorem ItT.lx {α:Type} {T es:Nat} {agg:Bool} {f f':α->Ty} {u:Hd} {xs ms:List α} (hf: ∀x,Le (f x) (f' x)) (hF: ∀x,Free (f' x)):ItT (tLX T es agg f u xs ms) [(u,⟨T,es,agg,rV f' xs⟩)]:=fun F w v h p hp=>by
 cases zbq.1 hp;exact ⟨.lx hf hF h,fun b hb=>(qk2 h hb).1⟩
theorem ItT.el {α:Type} {T es:Nat} {agg:Bool} {f:α->Ty} {u:Hd} {xs ms:List α} {us:α->List (Hd×HEnt)} (h: ∀x∈xs,ItT (f x) (us x)):ItT (tLX T es agg f u xs ms) (xs.flatMap us):=fun F w v ⟨h1,h2,h3,h4,h5,h6,h7⟩ p hp=>by
 obtain ⟨x,hx,hp⟩:=zbw.1 hp;obtain ⟨i,hi,rfl⟩:=List.getElem_of_mem hx;obtain ⟨b,cs,_,_,_,_,e5⟩:=h7 (by omega);exact h _ (zdw hi) _ _ _ (e5 i xs[i] (by rw [zda hi,zbk hi])) p hp
theorem ItT.tL {α:Type} {es:Nat} {agg:Bool} {f:α->Ty} {xs:List α} {us:α->List (Hd×HEnt)} (h: ∀x∈xs,ItT (f x) (us x)):ItT (tL es agg f xs) (xs.flatMap us):=fun F w v ⟨A,cc,h1,h2,h3,h4⟩ p hp=>by
 obtain ⟨x,hx,hp⟩:=zbw.1 hp;obtain ⟨i,hi,rfl⟩:=List.getElem_of_mem hx;rcases h4 with h4 | ⟨b,o,_,_,h6⟩
 ·rw [h4] at hi;simp at hi
 ·obtain ⟨u,_,hu⟩:=h6 i xs[i] (zbk hi);exact h _ (zdw hi) _ _ _ hu p hp
def lmI (T:Nat) (us:List (Hd×List Nat)):List (Hd×HEnt):=us.map fun u=>(u.1,⟨T,1,false,rW .u16 u.2⟩)
theorem ItT.lm {T:Nat} {t:Ty} {us:List (Hd×List Nat)} (h:Its T t us):ItT t (lmI T us):=fun F w v hv p hp=>by
 obtain ⟨u,hu,rfl⟩:=zcb.1 hp;have:=h F w v hv u hu;exact ⟨.lm this,fun b hb=>(qf0 this hb).1⟩
theorem ItT.wit {t:Ty} {ps:List (Hd×HEnt)} {vs:List Hd} (h:ItT t ps) (e:ps.map (·.1)=vs):WitT t vs:=fun F w v hv u hu b hb=>by
 subst e;obtain ⟨p,hp,rfl⟩:=zcb.1 hu;obtain ⟨h1,h2⟩:=h F w v hv p hp;obtain ⟨cs,h3⟩:=h1.T hb;exact ⟨h2 b hb,xb0 h3⟩
section
variable {P:Program} {c:Base} {g:Slots} {h:Keys} {al:Names} {Q:Exit->Act->World->Prop}
def ItG (c:Base) (g:Slots) (h:Keys) (ps:List (Hd×HEnt)):Prop:= ∀al a w η,St' c g h al a w η-> ∀p∈ps,HdOk w p.1 p.2/\ ∀b,p.1.b=some b->c.dom h η b
theorem ItG.app {us us':List (Hd×HEnt)} (h1:ItG c g h us) (h2:ItG c g h us'):ItG c g h (us++us'):=fun al a w η s u hu=>by
 rcases zbj.1 hu with hu | hu
 ·exact h1 al a w η s u hu
 ·exact h2 al a w η s u hu
theorem ItG.key {k T0 es:Nat} {agg:Bool} {α:Type} {f:α->Ty} {zs:List α} {us:α->List (Hd×HEnt)} (hk:h k=some ⟨T0,es,agg,rV f zs⟩) (ht: ∀z∈zs,ItT (f z) (us z)):ItG c g h (zs.flatMap us):=fun al a w η st u hu=>by
 obtain ⟨z,hz,hu⟩:=zbw.1 hu;obtain ⟨i,hi,rfl⟩:=List.getElem_of_mem hz;obtain ⟨_,_,⟨h3,_,_,_,h7⟩,_⟩:=st.key k _ hk;have hc:0 < η.c k:=by simp only [rV,zcq] at h3;omega
 obtain ⟨cs,_,_,m⟩:=h7 hc;exact ht _ (zdw hi) _ _ _ (m i (.val (f zs[i])) (by simp [rV,hi])) u hu
def XG (V:Dom) (ps qs rs:List (Hd×HEnt)):OvJ where
 D:=fun b=>V b∨ ∃p∈ps++(qs++rs),p.1.b=some b
 J:=fun n w=>(n=0-> ∀p∈ps,HdOk w p.1 p.2)/\(n<=1-> ∀p∈qs,HdOk w p.1 p.2)/\(n<=2-> ∀p∈rs,HdOk w p.1 p.2)
 loc:=fun _ _ _ hJ _ hb=>⟨fun h0 p hp=>(hJ.1 h0 p hp).same fun b h1 h2=>hb b (.inr ⟨p,zbj.2 (.inl hp),h1⟩) h2,fun h0 p hp=>(hJ.2.1 h0 p hp).same fun b h1 h2=>hb b (.inr ⟨p,zbj.2 (.inr (zbj.2 (.inl hp))),h1⟩) h2,
  fun h0 p hp=>(hJ.2.2 h0 p hp).same fun b h1 h2=>hb b (.inr ⟨p,zbj.2 (.inr (zbj.2 (.inr hp))),h1⟩) h2⟩
def OthT (ps qs:List (Hd×HEnt)):Prop:= ∀p∈ps,∀q∈qs,p.2.T≠q.2.T
theorem OthT.of {ps qs:List (Hd×HEnt)} (m n:Nat) (h1: ∀p∈ps,p.2.T=m) (h2: ∀q∈qs,q.2.T=n) (h:Nat.beq m n=false):OthT ps qs:=fun p hp q hq e=>by
 rw [h1 p hp,h2 q hq] at e;subst e;simp at h
theorem HdOk.oth {w:World} {ps qs:List (Hd×HEnt)} (ho:OthT ps qs) (h1: ∀p∈ps,HdOk w p.1 p.2) {q:Hd×HEnt} (hq:q∈qs) (h2:HdOk w q.1 q.2) {b:Nat} (hb:q.1.b=some b): ∀p∈ps,p.1.b≠some b:=fun p hp e=>by
 obtain ⟨c1,e1⟩:=(h1 p hp).T e;obtain ⟨c2,e2⟩:=h2.T hb;rw [e1] at e2;have e2:=Option.some.inj e2;injection e2 with _ e3 _;exact ho p hp q hq e3
theorem XG.first {V:Dom} {ps qs rs:List (Hd×HEnt)} (hs:SepH (ps.map (·.1))) (h1:OthT ps qs) (h2:OthT ps rs):Takes (XG V ps qs rs) 0 1 ps:=
 ⟨fun _ hJ=>hJ.1 rfl,fun p hp b hb=> .inr ⟨p,zbj.2 (.inl hp),hb⟩,fun w w' hJ _ hk=>⟨fun h0=>(by cases h0),fun _ q hq=>(hJ.2.1 (by omega) q hq).same fun b h3 h4=>hk b (.inr ⟨q,zbj.2 (.inr (zbj.2 (.inl hq))),h3⟩) h4 (HdOk.oth h1 (hJ.1 rfl) hq (hJ.2.1 (by omega) q hq) h3),
  fun _ q hq=>(hJ.2.2 (by omega) q hq).same fun b h3 h4=>hk b (.inr ⟨q,zbj.2 (.inr (zbj.2 (.inr hq))),h3⟩) h4 (HdOk.oth h2 (hJ.1 rfl) hq (hJ.2.2 (by omega) q hq) h3)⟩,hs⟩
theorem XG.second {V:Dom} {ps qs rs:List (Hd×HEnt)} (hs:SepH (qs.map (·.1))) (h2:OthT qs rs):Takes (XG V ps qs rs) 1 2 qs:=
 ⟨fun _ hJ=>hJ.2.1 (by omega),fun p hp b hb=> .inr ⟨p,zbj.2 (.inr (zbj.2 (.inl hp))),hb⟩,fun w w' hJ _ hk=>⟨fun h0=>(by cases h0),fun h0=>(by omega),
  fun _ q hq=>(hJ.2.2 (by omega) q hq).same fun b h3 h4=>hk b (.inr ⟨q,zbj.2 (.inr (zbj.2 (.inr hq))),h3⟩) h4 (HdOk.oth h2 (hJ.2.1 (by omega)) hq (hJ.2.2 (by omega) q hq) h3)⟩,hs⟩
theorem XG.third {V:Dom} {ps qs rs:List (Hd×HEnt)} (hs:SepH (rs.map (·.1))):Takes (XG V ps qs rs) 2 3 rs:=
 ⟨fun _ hJ=>hJ.2.2 (by omega),fun p hp b hb=> .inr ⟨p,zbj.2 (.inr (zbj.2 (.inr hp))),hb⟩,fun _ _ _ _ _=>⟨fun h0=>(by cases h0),fun h0=>(by omega),fun h0=>(by omega)⟩,hs⟩
theorem XG_new {V:Dom} {ps qs rs:List (Hd×HEnt)} {n:Nat} (hV: ∀b,V b->n<=b) (hn:NewH n ((ps++(qs++rs)).map (·.1))): ∀b,(XG V ps qs rs).D b->n<=b:=fun b hb=>by
 rcases hb with hb | ⟨p,hp,hb⟩
 ·exact hV b hb
 ·exact hn _ (zcr hp) b hb
theorem St'.over3 {N K:Nat} {w0:World} {F:Dom} {X:OvJ} {a:Act} {w:World} {η:Env} {g':Slots} {h':Keys} {ps qs rs:List (Hd×HEnt)} (s:St' (ovb N w0 F K X) g h al a w η) (hX: ∀b,X.D b->w0.heap.size<=b) (hI: ∀p∈ps++(qs++rs),HdOk w p.1 p.2/\ ∀b,p.1.b=some b->(ovb N w0 F K X).dom h η b) (hnew:NewH w0.heap.size ((ps++(qs++rs)).map (·.1))) (hg:SlW g g') (hh:KyW h h'):
  (∀b,η.vo b->w0.heap.size<=b)/\St (ovb N w0 F K (XG η.vo ps qs rs)) g' (upd h' K (some ⟨0,1,false,[]⟩)) al a w:=by
 have hvo: ∀b,η.vo b->w0.heap.size<=b/\b < w.heap.size:=fun b hb=>by
  obtain ⟨h1,_,h2⟩:=s.fr.vnew b hb;exact ⟨h2.elim (fun h3=>hX b h3) id,h1⟩
 have hit': ∀b,(∃p∈ps++(qs++rs),p.1.b=some b)->w0.heap.size<=b/\(ovb N w0 F K X).dom h η b/\b < w.heap.size:=fun b ⟨u,hu,hb⟩=>by
  obtain ⟨h1,h2⟩:=hI u hu;obtain ⟨cs,h3⟩:=h1.T hb;exact ⟨hnew _ (zcr hu) b hb,h2 b hb,xb0 h3⟩
 have hkK:(ovb N w0 F K X).lη.c K=0:=by simp [ovb,Base.over,envK]
 have hlkK:=s.lk K (by simp [ovb,Base.over]);have hcK:η.c K=0:=hlkK.2.2.trans hkK;have hDo: ∀b,(XG η.vo ps qs rs).D b->w0.heap.size<=b/\b < w.heap.size/\ ¬Own h η b:=fun b hb=>by
  rcases hb with hb | hb
  ·refine ⟨(hvo b hb).1,(hvo b hb).2,fun ⟨k,y,hy,hc,e⟩=> ?_⟩;exact ((s.key k y hy).2.2.2 hc).2.1 (e▸hb)
  ·obtain ⟨h1,h2,h3⟩:=hit' b hb;exact ⟨h1,h3,h2.2.1⟩
 obtain ⟨η',hη⟩: ∃η':Env,η'=⟨η.b,η.c,(XG η.vo ps qs rs).D⟩:=⟨_,rfl⟩
 have eb:η'.b=η.b:=by rw [hη]
 have ec:η'.c=η.c:=by rw [hη]
 have evo:η'.vo=(XG η.vo ps qs rs).D:=by rw [hη]
 have hown: ∀b,Own (upd h' K (some ⟨0,1,false,[]⟩)) η' b->Own h η b:=by
  rintro b ⟨k,x',hx,hc,rfl⟩;rw [ec] at hc;by_cases hk:k=K
  ·subst hk;omega
  ·rw [x4 _ _ _ hk] at hx;obtain ⟨y,h1,_⟩:=hh k x' hx;exact ⟨k,y,h1,hc,by rw [eb]⟩
 refine ⟨fun b hb=>(hvo b hb).1,η',s.tn,s.df,fun t e' he=> ?_,fun k x' hx=> ?_,fun k k' x x' hx hx' hkk hck hck'=> ?_,⟨s.fr.os,s.fr.tape,s.fr.output,s.fr.size,fun b hb hl hv=> ?_,fun b hb=>(by rw [evo];exact hb),fun b hb=> ?_⟩,fun k hk=> ?_,fun x hx=>(by cases hx),fun b hb=>hb.elim,s.yal,fun k x hk hx=> ?_,fun b ⟨x,hx,_⟩=>(by cases hx)⟩
 ·obtain ⟨e,h1,h2⟩:=hg t e' he;obtain ⟨n1,n2,n3⟩:=s.slot t e h1;exact ⟨n1,fun k hk=>n2 k (h2.supp k hk),h2.sat n3 ⟨eb,ec⟩⟩
 ·by_cases hk:k=K
  ·subst hk;rw [x6] at hx;cases hx;exact ⟨hlkK.1,fun j hj=>(by cases hj),⟨by simp,by simp,fun _=>rfl,by rw [ec,hcK];omega,fun hc=>by rw [ec,hcK] at hc;omega⟩,fun hc=>by rw [ec,hcK] at hc;omega⟩
  ·rw [x4 _ _ _ hk] at hx;obtain ⟨y,h1,r1,r2,r3,r4,r5⟩:=hh k x' hx;have r5: ∀(i:Nat) (e':Ent),x'.ts[i]? =some e'-> ∃e:Ent,y.ts[i]? =some e/\Wk e e':=r5;obtain ⟨q1,q2,⟨p1,p2,p3,p4,p5⟩,q4⟩:=s.key k _ h1;refine ⟨q1,fun j hj=> ?_,⟨by rw [r4,ec];exact p1,by rw [r2];exact p2,by rw [r2,r3];exact p3,by rw [ec];exact p4,fun hc=> ?_⟩,fun hc=> ?_⟩
   ·obtain ⟨e',he',hj⟩:=zbw.1 hj;obtain ⟨i,hi,rfl⟩:=List.getElem_of_mem he';obtain ⟨e,h5,h6⟩:=r5 i _ (zbk hi);exact q2 j (zbw.2 ⟨e,zdc h5,h6.supp j hj⟩)
   ·rw [ec] at hc;obtain ⟨cs,c1,c2,c3⟩:=p5 hc;refine ⟨cs,by rw [eb,r1];exact c1,by rw [ec,r2];exact c2,fun i e' hi=> ?_⟩;obtain ⟨e,h5,h6⟩:=r5 i e' hi;rw [r2,r3];exact h6.sat (c3 i e h5) ⟨eb,ec⟩
   ·rw [ec] at hc;obtain ⟨m1,m2,m3⟩:=q4 hc;rw [eb,evo];exact ⟨m1,fun hD=>(hDo _ hD).2.2 ⟨k,_,h1,hc,rfl⟩,m3⟩
 ·have h0: ∀k x,upd h' K (some ⟨0,1,false,[]⟩) k=some x->0 < η'.c k-> ∃y,h k=some y:=fun k x hx hc=>by
   by_cases hk:k=K
   ·subst hk;rw [ec] at hc;omega
   ·rw [x4 _ _ _ hk] at hx;obtain ⟨y,h1,_⟩:=hh k x hx;exact ⟨y,h1⟩
  obtain ⟨y,h1⟩:=h0 k x hx hck;obtain ⟨y',h1'⟩:=h0 k' x' hx' hck';rw [eb];rw [ec] at hck hck';exact s.inj k k' y y' h1 h1' hkk hck hck'
 ·exact s.fr.block b hb hl fun h'=>hv (by rw [evo];exact .inl h')
 ·rw [evo] at hb;exact ⟨(hDo b hb).2.1,rfl,.inl hb⟩
 ·have:=s.lk k hk;rw [eb,ec];exact this
 ·have hk:some K=some k:=hk;cases hk;rw [x6] at hx;cases hx;refine ⟨⟨fun _ p hp=>(hI p (zbj.2 (.inl hp))).1,fun _ p hp=>(hI p (zbj.2 (.inr (zbj.2 (.inl hp))))).1,fun _ p hp=>(hI p (zbj.2 (.inr (zbj.2 (.inr hp))))).1⟩,fun b hb=>⟨by rw [evo];exact hb,?_,(hDo b hb).2.1⟩⟩;rintro (hb' | hb' | ⟨y,hy,_⟩)
  ·exact (hDo b hb).2.2 (hown b hb')
  ·exact hb'
  ·cases hy
theorem jh6 {N K:Nat} {w0:World} {F:Dom} {X:OvJ} {A:Array Oper} {rest:List Oper} {g':Slots} {h':Keys} {ps qs rs:List (Hd×HEnt)} (hX: ∀b,X.D b->w0.heap.size<=b) (hit:ItG (ovb N w0 F K X) g h (ps++(qs++rs))) (hnew:NewH w0.heap.size ((ps++(qs++rs)).map (·.1))) (hg:SlW g g') (hh:KyW h h')
  (H: ∀V:Dom,(∀b,V b->w0.heap.size<=b)->wl P (ovb N w0 F K (XG V ps qs rs)) A Q rest g' (upd h' K (some ⟨0,1,false,[]⟩)) al):wl P (ovb N w0 F K X) A Q rest g h al:=by
 rintro a w ⟨η,s⟩;obtain ⟨h1,h2⟩:=s.over3 hX (hit al a w η s) hnew hg hh;exact H η.vo h1 a w h2
def X0:OvJ where
 D:=fun _=>False
 J:=fun _ _=>True
 loc:=fun _ _ _ _ _ _=>trivial
theorem jq9 {N:Nat} {w0:World} {F:Dom} {x:Code} (K:Nat) {ts:List Ty} (H:wc P (ovb N w0 F K X0) x Q (args 0 ts) (upd (fun _=>none) K (some ⟨0,1,false,[]⟩)) (fun j=>false || Nat.beq j K)):wc P (Base.plain N w0 F) x Q (args 0 ts) (fun _=>none) (fun _=>false):=by
 refine C_at fun a w hs=> ?_;obtain ⟨η,s⟩:=hs;have hargs: ∀(ts:List Ty) (n s:Nat) (e:Ent),args n ts s=some e-> ∃t,e= .val t:=by
  intro ts
  induction ts with
  | nil=>intro n s e he;cases he
  | cons t r ih=>
   intro n s e he;by_cases hs:s=n
   ·subst hs;have he:upd (args (s+1) r) s (some (.val t)) s=some e:=he;rw [x6] at he;cases he;exact ⟨t,rfl⟩
   ·have he:upd (args (n+1) r) n (some (.val t)) s=some e:=he;rw [x4 _ _ _ hs] at he;exact ih _ _ _ he
 exact ⟨ovb N w0 F K X0,args 0 ts,_,_,rfl,s.over K X0 (fun b hb=>hb.elim) trivial rfl (fun s e' he=>⟨e',he,by
  obtain ⟨t,rfl⟩:=hargs ts 0 s e' he;exact .val fun F' w' v hv=>t.mono hv fun _ _ hb hl _=>⟨⟨hb,fun h=>h⟩,hl⟩⟩) KyC.nil,H⟩
end
theorem yq2 {P:Program} {c:Base} {g:Slots} {h:Keys} {al:Names} {w0:World} {F:Dom} {fn:Func} {r r':Ty} {e:Exit} (hr:Le r r') (hk:wk c e (Post P w0 F fn r) g h al):wk c e (Post P w0 F fn r') g h al:=
 fun a w s=>PostR.mono (fun _ _ ⟨h1,h2⟩=>⟨h1,hr _ _ _ h2⟩) (hk a w s)
end An
namespace An.S
open Go Go.Proofs An Tryz
instance sl93:SlI Tryz.prog 93 71 1 false:=⟨zhi,ti71⟩
instance fi297:FnI Tryz.prog 297:=⟨_,func297,by kernel_rfl,rfl⟩
instance fi298:FnI Tryz.prog 298:=⟨_,func298,by kernel_rfl,rfl⟩
def mIb (k i:Nat):Int:=1000003*((k:Int)+7)+(i:Int)
abbrev tIb (n:Int):Ty:=tI n
theorem xs5 (k i:Nat) (hk:k < 2000) (hi:i < 10000000):Ct Tryz.prog 146 [tI k,tI i] (tIb (mIb k i)):=xn2 k i hk hi
theorem qb6 {n T es:Nat} {len:Nat->Nat} {R:Nat->HEnt} (hRI: ∀k,k < n->(R k).supp=[]):SupHs ((20,⟨T,1,false,owns n es len⟩)::poolL n R) (poolN n):=yp1 fun x hx=>by
 rcases zbt.1 hx with rfl | hx
 ·exact ⟨rfl,fun k hk=>by obtain ⟨j,hj,rfl⟩:=yh3 hk;simp only [poolN,zbt,zcb,zcw];exact .inr ⟨j,hj,rfl⟩⟩
 ·obtain ⟨j,hj,h1,h2⟩:=xn9 (k:=x.1) (x:=x.2) hx;refine ⟨xb5.2 ?_,fun k hk=> ?_⟩
  ·rw [h1];simp only [poolN,zbt,zcb,zcw];exact .inr ⟨j,hj,rfl⟩
  ·have:=hRI j hj;rw [h2] at hk;rw [HEnt.supp] at this;rw [this] at hk;cases hk
abbrev rSI (xs:List Int):HEnt:=⟨3,1,false,rV tIb xs⟩
abbrev hPI (n:Nat) (L M:Nat->List Int):Keys:=upd (poolK n fun j=>rSI (M j)) 20 (some ⟨23,1,false,owns n 1 fun j=>(L j).length⟩)
theorem xz1 {xs:List Int}:(rSI xs).supp=[]:=List.eq_nil_iff_forall_not_mem.2 fun _ hk=>zk1 hk
theorem yd6 {n k:Nat} {L M:Nat->List Int} (h:k < n):hPI n L M (k+100)=some (rSI (M k)):=by
 rw [hPI,x4 _ _ _ (by omega)];exact xm1 h
theorem jo1 {n k:Nat} {L M M':Nat->List Int} (h1: ∀j,j≠k->M' j=M j):SubK (hPI n L M') (upd (hPI n L M) (k+100) (some (rSI (M' k)))):=fun q x hx=>by
 by_cases hq:q=k+100
 ·subst hq;rw [hPI,x4 _ _ _ (by omega)] at hx;obtain ⟨j,_,h2,rfl⟩:=xh5 hx;have:j=k:=by omega
  subst this;exact ⟨_,x6 _ _ _,rfl,.refl⟩
 ·rw [x4 _ _ _ hq];by_cases hq2:q=20
  ·subst hq2;rw [hPI,x6] at hx ⊢;exact ⟨_,rfl,by cases hx;rfl,by cases hx;exact .refl⟩
  ·rw [hPI,x4 _ _ _ hq2] at hx ⊢;obtain ⟨j,h1',rfl,rfl⟩:=xh5 hx;refine ⟨_,xm1 h1',rfl,?_⟩;rw [h1 j (by omega)];exact .refl
theorem hP_eqI {n:Nat} {L M M':Nat->List Int} (h: ∀j,j < n->M' j=M j):SubK (hPI n L M') (hPI n L M):=fun q x hx=>by
 by_cases hq2:q=20
 ·subst hq2;rw [hPI,x6] at hx ⊢;exact ⟨_,rfl,by cases hx;rfl,by cases hx;exact .refl⟩
 ·rw [hPI,x4 _ _ _ hq2] at hx ⊢;obtain ⟨j,h1',rfl,rfl⟩:=xh5 hx;exact ⟨_,xm1 h1',rfl,by rw [h j h1'];exact .refl⟩
theorem yc5 {b:Bool} {n m:Nat} {L M:Nat->List Int} (h:n+100<=m):SupH (hPI n L M) (alP b m):=supP h fun _ _=>xz1
abbrev tN0I:Nat->Ent:=fun _=> .val (tL 1 false tIb ([]:List Int))
abbrev hBI (n:Nat) (L:Nat->List Int) (κ:Nat->Nat) (k:Nat):Keys:=upd (hPI n L (cM L mIb 0 n 0)) 21 (some ⟨23,1,false,gsR n 1 κ (fun j=>(L j).length+64) tN0I k⟩)
abbrev hQI (n:Nat) (L:Nat->List Int) (κ:Nat->Nat) (k:Nat):Keys:=pileK κ (fun j=>rSI (mkL mIb j ((L j).length+64))) k (hBI n L κ k)
section
variable {n k:Nat} {L:Nat->List Int} {κ:Nat->Nat}
theorem yq9 (hκ: ∀j,j < k->okN j (κ j)):hQI n L κ k 20=some ⟨23,1,false,owns n 1 fun j=>(L j).length⟩:=by
 rw [hQI,xc0 fun j hj=>by rcases hκ j hj with h | h <;> omega];rfl
theorem za6 (hκ: ∀j,j < k->okN j (κ j)):hQI n L κ k 21=some ⟨23,1,false,gsR n 1 κ (fun j=>(L j).length+64) tN0I k⟩:=by
 rw [hQI,xc0 fun j hj=>by rcases hκ j hj with h | h <;> omega];exact x6 _ _ _
theorem qh4 (hn:n<=900) (hκ: ∀j,j < k->okN j (κ j)) (hk:k < n):hQI n L κ k (k+100)=some (rSI (mkL mIb k (L k).length)):=by
 rw [hQI,xc0 fun j hj=>okN.ne (.inl rfl) (hκ j hj) (by omega) (by omega) (by omega),hBI,x4 _ _ _ (by omega),yd6 hk,yi4 hk]
theorem jr1 (hκ: ∀j,j < k->okN j (κ j)) (hn:n<=900) {q:Nat} (h:2000+64*k<=q):hQI n L κ k q=none:=by
 rw [hQI,xc0 fun j hj=>by rcases hκ j hj with h | h <;> omega,hBI,x4 _ _ _ (by omega),hPI,x4 _ _ _ (by omega)];exact xw5 fun j hj=>by omega
theorem xt0 {m:Nat} (hκ: ∀j,j < k->okN j (κ j)) (hn:n<=900) (hk:k<=n) (hm:2000+64*k<=m):SupH (hQI n L κ k) (alP true m):=fun q x hx=>by
 have hin: ∀j,j < k->alP true m (κ j)=true:=fun j hj=>xh2 ((hκ j hj).lt (m:=m) (by omega) (by omega)).1 ((hκ j hj).lt (by omega) (by omega)).2;rcases xw4 hx with ⟨j,hj,rfl,rfl⟩ | hx
 ·exact ⟨hin j hj,fun i hi=>by rw [xz1] at hi;cases hi⟩
 ·by_cases hq:q=21
  ·subst hq;rw [hBI,x6] at hx;cases hx;refine ⟨rfl,fun i hi=> ?_⟩;rcases xz5 hi with ⟨j,_,hj,rfl⟩ | ⟨j,_,hj⟩
   ·exact hin j hj
   ·cases hj
  ·rw [hBI,x4 _ _ _ hq] at hx;exact yc5 (by omega) q x hx
theorem qe5 {m v:Nat} {r:List Int} (hκ: ∀j,j < k->okN j (κ j)) (hn:n<=900) (hk:k<=n) (hm:2000+64*k<=m) (hv:100<=v/\v < m):SupH (upd (hQI n L κ k) v (some (rSI r))) (alP true m):=fun q x hx=>by
 by_cases hq:q=v
 ·subst hq;rw [x6] at hx;cases hx;exact ⟨xh2 hv.1 hv.2,fun i hi=>by rw [xz1] at hi;cases hi⟩
 ·rw [x4 _ _ _ hq] at hx;exact xt0 hκ hn hk hm q x hx
theorem jh5 {v:Nat} (hκ: ∀j,j < k->okN j (κ j)) (hv:100<=v):SubK (hQI n L (setN κ k v) (k+1)) (upd (upd (hQI n L κ k) v (some (rSI (mkL mIb k ((L k).length+64))))) 21 (some ⟨23,1,false,gsR n 1 (setN κ k v) (fun j=>(L j).length+64) tN0I (k+1)⟩)):= .eq fun t x hx=>by
 rw [hQI,pileK,xo0,xo3 (κ:=κ) fun j hj=>xk3 (by omega)] at hx;by_cases ht:t=21
 ·subst ht;rw [x4 _ _ _ (by omega),xc0 fun j hj=>by rcases hκ j hj with h | h <;> omega,hBI,x6] at hx;rw [x6];exact hx
 ·rw [x4 _ _ _ ht];by_cases htv:t=v
  ·subst htv;rw [x6] at hx ⊢;exact hx
  ·rw [x4 _ _ _ htv] at hx ⊢;rw [xp3 (h:=hBI n L κ k) (by rw [hBI,hBI,x4 _ _ _ ht,x4 _ _ _ ht])] at hx;exact hx
theorem qs6 {j:Nat} (hn:n<=900) (hk:k<=n) (hκ: ∀j,j < k->okN j (κ j)) (hj:j < k):hQI n L κ k (κ j)=some (rSI (mkL mIb j ((L j).length+64))):=
 xs6 (fun i hi hij=>okN.ne (hκ j hj) (hκ i hi) (by omega) (by omega) (Ne.symm hij)) hj
theorem qz0 {j:Nat} (hn:n<=900) (hk:k<=n) (hκ: ∀j,j < k->okN j (κ j)) (hj:j < k): ∃m,(L j).length<=m/\hQI n L κ k (j+100)=some (rSI (mkL mIb j m)):=by
 rcases hκ j hj with h | h
 ·exact ⟨(L j).length+64,by omega,by rw [<-h];exact qs6 hn hk hκ hj⟩
 ·refine ⟨(L j).length,zbm _,?_⟩;rw [hQI,xc0 fun i hi=>by
   by_cases hij:i=j
   ·subst hij;omega
   ·exact okN.ne (.inl rfl) (hκ i hi) (by omega) (by omega) (Ne.symm hij),hBI,x4 _ _ _ (by omega),yd6 (by omega),yi4 (by omega)]
theorem zg5 {i m j:Nat} (h:i < m):(rV tIb (mkL mIb j m))[i]? =some (.val (tIb (mIb j i))):=by
 rw [rV,zbp,xu0 h];rfl
theorem qd4 {j i i':Nat} (h:i'<=i):ImpK (rSI (mkL mIb j i)) (rSI (mkL mIb j i')):= .ts (by rw [xe0,xe0,xi4,xi4];exact h) fun t e he=>⟨e,by
 simp only [rV,zbp] at he ⊢;obtain ⟨x,hx,rfl⟩:=zdo.1 he;rw [zg8 h t x hx];rfl,.refl⟩
abbrev tKI (L:Nat->List Int) (κ:Nat->Nat):Nat->Ent:=fun j=> .own (.sl (κ j) 1 0 ((L j).length+64))
abbrev rMI (n:Nat) (L:Nat->List Int) (j:Nat):HEnt:=rSI (mkL mIb j (L j).length++mkL mIb (j+n) 64)
abbrev hCI (n:Nat) (L:Nat->List Int) (κ κ2:Nat->Nat) (k:Nat):Keys:=upd (hPI n L (fun j=>mkL mIb j (L j).length)) 21 (some ⟨23,1,false,gsR n 1 κ2 (fun j=>(L j).length+64) (tKI L κ) k⟩)
abbrev hRI (n:Nat) (L:Nat->List Int) (κ κ2:Nat->Nat) (k:Nat):Keys:=pileK κ2 (rMI n L) k (hCI n L κ κ2 k)
variable {κ2:Nat->Nat}
theorem zb8 (hκ: ∀j,j < k->okM n j (κ2 j)):hRI n L κ κ2 k 20=some ⟨23,1,false,owns n 1 fun j=>(L j).length⟩:=by
 rw [hRI,xc0 fun j hj=>by rcases hκ j hj with h | h <;> omega];rfl
theorem qr6 (hκ: ∀j,j < k->okM n j (κ2 j)):hRI n L κ κ2 k 21=some ⟨23,1,false,gsR n 1 κ2 (fun j=>(L j).length+64) (tKI L κ) k⟩:=by
 rw [hRI,xc0 fun j hj=>by rcases hκ j hj with h | h <;> omega];exact x6 _ _ _
theorem jq6 (hn:n<=900) (hκ: ∀j,j < k->okM n j (κ2 j)) (hk:k < n):hRI n L κ κ2 k (k+100)=some (rSI (mkL mIb k (L k).length)):=by
 rw [hRI,xc0 fun j hj=>okM.ne (.inl rfl) (hκ j hj) (by omega) (by omega) (by omega),hCI,x4 _ _ _ (by omega),yd6 hk]
theorem xt5 {m:Nat} (hκ0: ∀j,j < n->okN j (κ j)) (hκ: ∀j,j < k->okM n j (κ2 j)) (hn:n<=900) (hk:k<=n) (hm:2000+64*n+k<=m):SupH (hRI n L κ κ2 k) (alP true m):=fun q x hx=>by
 have hin: ∀j,j < k->alP true m (κ2 j)=true:=fun j hj=>by rcases hκ j hj with h | h <;> exact xh2 (by omega) (by omega)
 rcases xw4 hx with ⟨j,hj,rfl,rfl⟩ | hx
 ·exact ⟨hin j hj,fun i hi=>by rw [xz1] at hi;cases hi⟩
 ·by_cases hq:q=21
  ·subst hq;rw [hCI,x6] at hx;cases hx;refine ⟨rfl,fun i hi=> ?_⟩;rcases xz5 hi with ⟨j,_,hj,rfl⟩ | ⟨j,hjn,hj⟩
   ·exact hin j hj
   ·simp only [Ent.supp,VP.supp,zbq] at hj;subst hj;exact xh2 ((hκ0 j hjn).lt (m:=m) (by omega) (by omega)).1 ((hκ0 j hjn).lt (by omega) (by omega)).2
  ·rw [hCI,x4 _ _ _ hq] at hx;exact yc5 (by omega) q x hx
theorem hR_0I {κ3:Nat->Nat} (hn:n<=900) (hκ: ∀j,j < n->okN j (κ j)):SubK (hRI n L κ κ3 0) (hQI n L κ n):=fun q x hx=>by
 by_cases hq:q=21
 ·subst hq;have hx:hCI n L κ κ3 0 21=some x:=hx;rw [hCI,x6] at hx;cases hx;refine ⟨_,za6 hκ,rfl,?_⟩;rw [show gsR n 1 κ (fun j=>(L j).length+64) tN0I n=gsR n 1 κ3 (fun j=>(L j).length+64) (tKI L κ) 0 from by
   apply zfm;intro j hj;rw [zcw] at hj;simp [hj]]
  exact .refl
 ·have hx:hCI n L κ κ3 0 q=some x:=hx;rw [hCI,x4 _ _ _ hq] at hx;by_cases hq2:q=20
  ·subst hq2;rw [hPI,x6] at hx;cases hx;exact ⟨_,yq9 hκ,rfl,.refl⟩
  ·rw [hPI,x4 _ _ _ hq2] at hx;obtain ⟨j,hj,rfl,rfl⟩:=xh5 hx;obtain ⟨m,hm,e⟩:=qz0 (L:=L) hn (zbm n) hκ hj;exact ⟨_,e,rfl,qd4 hm⟩
def fSI (j i:Nat):List Int:=(List.range 64).map fun t=>if t < i then mIb j t else 0
theorem xr5 {j i:Nat}:(fSI j i).length=64:=by simp [fSI]
theorem fS_0I {j:Nat}:List.replicate 64 (Ent.val (tIb 0))=rV tIb (fSI j 0):=by
 rw [yd8 64 0 rfl];congr 1
theorem jr5 {j i:Nat} (hi:i < 64):(fSI j i).set i (mIb j i)=fSI j (i+1):=by
 apply zes;intro t;rw [zeo];rcases zcs t 64 with h | h
 ·simp only [fSI,zbp,zeh h,zcq,List.length_range,zdv];by_cases hit:i=t
  ·subst hit;simp [h]
  ·rw [if_neg hit];by_cases h1:t < i
   ·simp [h1,show t < i+1 by omega]
   ·simp [h1,show ¬t < i+1 by omega]
 ·rw [if_neg (by omega),zcp (by rw [xr5];exact h),zcp (by rw [xr5];exact h)]
theorem fS_64I {j:Nat}:fSI j 64=mkL mIb j 64:=zfm fun _ ht=>if_pos (zcw.1 ht)
theorem zp8 {m:Nat} {h:Keys} {r:List Int} (hs:SupH h (alP true m)):SupH (upd h 22 (some (rSI r))) (alM m):=fun q x hx=>by
 by_cases hq:q=22
 ·subst hq;rw [x6] at hx;cases hx;exact ⟨rfl,fun i hi=>by rw [xz1] at hi;cases hi⟩
 ·rw [x4 _ _ _ hq] at hx;exact ⟨ya0 (hs q x hx).1,fun i hi=>ya0 ((hs q x hx).2 i hi)⟩
theorem rM_eqI {j:Nat}:(⟨3,1,false,rV tIb (mkL mIb j (L j).length)++(fSI (j+n) 64).map (fun y=>Ent.val (tIb y))⟩:HEnt)=rMI n L j:=by
 rw [rMI,rSI,<-fS_64I];simp [rV]
theorem jb2 {v:Nat} {r:HEnt} (hκ: ∀j,j < k->okM n j (κ2 j)) (hv:100<=v):SubK (hRI n L κ (setN κ2 k v) (k+1)) (upd (upd (upd (upd (hRI n L κ κ2 k) 22 (some r)) 22 none) v (some ⟨3,1,false,rV tIb (mkL mIb k (L k).length)++(fSI (k+n) 64).map (fun y=>Ent.val (tIb y))⟩)) 21 (some ⟨23,1,false,gsR n 1 (setN κ2 k v) (fun j=>(L j).length+64) (tKI L κ) (k+1)⟩)):= .eq fun t x hx=>by
 rw [rM_eqI];rw [hRI,pileK,xo0,xo3 (κ:=κ2) fun j hj=>xk3 (by omega)] at hx;by_cases ht:t=21
 ·subst ht;rw [x4 _ _ _ (by omega),xc0 fun j hj=>by rcases hκ j hj with h | h <;> omega,hCI,x6] at hx;rw [x6];exact hx
 ·rw [x4 _ _ _ ht];by_cases htv:t=v
  ·subst htv;rw [x6] at hx ⊢;exact hx
  ·rw [x4 _ _ _ htv] at hx ⊢;rw [xp3 (h:=hCI n L κ κ2 k) (by rw [hCI,hCI,x4 _ _ _ ht,x4 _ _ _ ht])] at hx;by_cases h22:t=22
   ·subst h22;rw [xc0 fun j hj=>by rcases hκ j hj with h | h <;> omega,hCI,x4 _ _ _ (by omega),hPI,x4 _ _ _ (by omega),xw5 fun j _=>by omega] at hx;cases hx
   ·rw [x4 _ _ _ h22,x4 _ _ _ h22];exact hx
theorem qz7 {j:Nat} (_hκ: ∀j,j < k->okM n j (κ2 j)) (hj:j < n): ∃y,hRI n L κ κ2 k (j+100)=some y:=by
 have key: ∀i,∃y,pileK κ2 (rMI n L) i (hCI n L κ κ2 k) (j+100)=some y:=fun i=>by
  induction i with
  | zero=>exact ⟨_,by show hCI n L κ κ2 k (j+100)=_;rw [hCI,x4 _ _ _ (by omega)];exact yd6 hj⟩
  | succ i ih=>
   by_cases h:j+100=κ2 i
   ·exact ⟨_,by rw [pileK,h];exact x6 _ _ _⟩
   ·obtain ⟨y,hy⟩:=ih;exact ⟨y,by rw [pileK,x4 _ _ _ h];exact hy⟩
 exact key k
theorem jc2 {N:Nat} {w:World} {F:Dom} {η:Env} {R:Nat->HEnt} {X:HEnt} {r:Option HEnt} {b:Nat} (hκ: ∀j,j < k->okM n j (κ2 j)) (_hk:k<=n) (hb:(Base.lent N w F η (poolN n) ((20,X)::poolL n R)).lb b):
  ∃j y,j∈poolN n/\j≠22/\upd (hRI n L κ κ2 k) 22 r j=some y/\0 < η.c j/\b=η.b j:=by
 obtain ⟨x,hx,hc,e⟩:=hb;rcases zbt.1 hx with rfl | hx
 ·exact ⟨20,_,by simp [poolN],by omega,(x4 _ _ _ (by omega)).trans (zb8 hκ),hc,e⟩
 ·obtain ⟨j,hj,h1,_⟩:=xn9 (k:=x.1) (x:=x.2) hx;obtain ⟨y,hy⟩:=qz7 (L:=L) (κ:=κ) hκ hj;refine ⟨j+100,y,by simp only [poolN,zbt,zcb,zcw];exact .inr ⟨j,hj,rfl⟩,by omega,(x4 _ _ _ (by omega)).trans hy,by rw [<-h1];exact hc,by rw [<-h1];exact e⟩
theorem qp4 {j:Nat} (hn:n<=900) (hκ: ∀j,j < n->okM n j (κ2 j)) (hj:j < n):hRI n L κ κ2 n (κ2 j)=some (rMI n L j):=
 xs6 (fun i hi hij=>okM.ne (hκ j hj) (hκ i hi) (by omega) (by omega) (Ne.symm hij)) hj
theorem qg0 {i j:Nat} (h:i < (L j).length):(rV tIb (mkL mIb j (L j).length++mkL mIb (j+n) 64))[i]? =some (.val (tIb (mIb j i))):=by
 rw [rV,zbp,zda (by rw [xi4];exact h),xu0 h];rfl
theorem hR_lsI {j:Nat} (hn:n<=900) (hκ: ∀j,j < n->okM n j (κ2 j)) (hj:j < n): ∃xs,hRI n L κ κ2 n (j+100)=some (rSI xs)/\ ∀i,i < (L j).length->(rV tIb xs)[i]? =some (.val (tIb (mIb j i))):=by
 rcases hκ j hj with h | h
 ·exact ⟨_,(congrArg (hRI n L κ κ2 n) h.symm).trans (qp4 hn hκ hj),fun i hi=>qg0 hi⟩
 ·refine ⟨mkL mIb j (L j).length,?_,fun i hi=>zg5 hi⟩;rw [hRI,xc0 fun i hi=>by
   by_cases hij:i=j
   ·subst hij;omega
   ·exact okM.ne (.inl rfl) (hκ i hi) (by omega) (by omega) (Ne.symm hij),hCI,x4 _ _ _ (by omega),yd6 hj]
theorem jj5 {i:Nat} {j:Nat}:(⟨3,1,false,rV tIb (mkL mIb j i)++[mIb j i].map (fun y=>Ent.val (tIb y))⟩:HEnt)=rSI (mkL mIb j (i+1)):=by
 rw [rSI,<-yz3];simp [rV]
end
theorem qc5 (n:Nat) (L:Nat->List Int) (hn:n<=900) (hL: ∀j,(L j).length<=1000000):
  CtG Tryz.prog 231 ((20,⟨23,1,false,owns n 1 fun j=>(L j).length⟩)::poolL n fun j=>rSI (L j)) [.own (.sl 20 1 0 n)] (.val (tB true)) [] []:=by
 refine CtG.intro (poolN n) func231 rfl ntmps231 rfl rfl (qb6 fun _ _=>xz1) ?_;intro w F η;refine A12 ?_;refine xf6 (fun k:Nat=>k<=n) (fun k=>uV (uO uN 0 (.sl 20 1 0 n)) 3 (tI k)) (fun k=>hPI n L (cM L mIb 0 k 0)) (alP false (100+n)) (fun k=>n - k) 0 (zbs _) (Sub.int rfl rfl (zan rfl zay)) (by show SubK (hPI n L (cM L mIb 0 0 0)) _;rw [show cM L mIb 0 0 0=L from funext fun j=>cM_0];exact yh9) (zaj (zak rfl zar)) (yc5 (by omega)) (lkP (by omega)) ?_;intro k hk;refine A9 ?_;refine xa6 rfl (fun h1=> ?_) (fun h1=> ?_)
 ·
  have hk':k < n:=by omega
  refine A9 ?_;refine xe4 ?_;refine xf6 (fun i:Nat=>i<=(L k).length) (fun i=>uV (uV (uO uN 0 (.sl 20 1 0 n)) 3 (tI k)) 4 (tI i)) (fun i=>hPI n L (cM L mIb 0 k i)) (alP false (100+n)) (fun i=>(L k).length - i) 0 (zbs _) (Sub.int rfl rfl (zan rfl (zan rfl zay))) SubK.refl (zaj (zaj (zak rfl zar))) (yc5 (by omega)) (lkP (by omega)) ?_;intro i hi;have hLk:=hL k;refine A6 ?_;refine R2 (zag sl77 rfl) rfl rfl (RE (x7 (k) ti23 (xd3 hk') (by omega)) qA qA trivial ?_);refine A3 ?_;refine xa6 rfl (fun h2=> ?_) (fun h2=> ?_)
  ·
   refine A7 ?_;refine R2 (zag sl77 rfl) rfl rfl (RE (x7 (k) ti23 (xd3 hk') (by omega)) qA qA trivial ?_);refine A3 ?_;refine R2 (x3 (xs5 k i (by omega) (by omega)) fi146 rfl) rfl rfl (R2 (zag sl23 rfl) rfl rfl (RE (xa8 (e:= .val (tIb (mIb k i))) (i) ti3 (xn4 (f:=tIb) (xs:=cM L mIb 0 k i k) (by rw [yt4];omega)) (by omega) (xm8 (f:=tIb) (m:=mIb k i) rfl)) qB ⟨yd6 (L:=L) hk',trivial⟩ trivial ?_));refine A8 ?_;exact xg8 (i+1) ⟨by omega,by omega⟩ (Sub.int rfl (by omega) (zan rfl (zan rfl zay))) (by rw [zw5 (by omega)];exact jo1 fun j hj=>zs2 hj) (zaj (zaj (zak rfl zar))) (yc5 (by omega)) (lkP (by omega))
  ·
   refine A11 ?_;have hil:i=(L k).length:=by omega
   subst hil;exact xg8 (k+1) ⟨by omega,by omega⟩ (Sub.int rfl (by omega) (zan rfl zay)) (hP_eqI fun j _=>zj3) (zaj (zak rfl zar)) (yc5 (by omega)) (lkP (by omega))
 ·
  have hkn:k=n:=by omega
  subst hkn;refine A9 ?_;refine RE (xe5 (k:=21) (t:=tL 1 false tIb ([]:List Int)) (ts:=gsR k 1 (fun _=>0) (fun j=>(L j).length+64) tN0I 0) k k zhe el23 (fun _ _=>⟨none,0,rfl,zbm _,by decide,.inl rfl⟩) rfl (by omega) (by omega) (zbm _) (by omega) (by omega) zh7) qB trivial qA ?_;refine A10 ?_;refine xr0 (ι:=Nat×(Nat->Nat)) (fun x=>x.1<=k/\ ∀j,j < x.1->okN j (x.2 j)) (fun x=>uV (uO (uO uN 0 (.sl 20 1 0 k)) 5 (.sl 21 1 0 k)) 6 (tI x.1)) (fun x=>hQI k L x.2 x.1) (fun x=>alP true (2000+64*x.1)) (fun x=>k - x.1) (0,fun _=>0) ⟨zbs _,fun j h=>by cases h⟩ (Sub.int rfl rfl (zan rfl (zan rfl zay))) SubK.refl (zaj (zak rfl (zak rfl zar))) (xt0 (fun j h=>by cases h) hn (zbs _) (by omega)) (lkP (by omega)) ?_;rintro ⟨q,κ⟩ ⟨hq,hκ⟩;replace hq:q<=k:=hq;replace hκ: ∀j,j < q->okN j (κ j):=hκ;show wc _ _ _ _ (uV (uO (uO uN 0 (.sl 20 1 0 k)) 5 (.sl 21 1 0 k)) 6 (tI q)) (hQI k L κ q) (alP true (2000+64*q));refine A9 ?_;refine xa6 rfl (fun h3=> ?_) (fun h3=> ?_)
  ·
   have hq':q < k:=by omega
   have hLk:=hL q;refine A8 ?_;refine R2 (zag sl77 rfl) rfl rfl (RE (x7 (q) ti23 (xd3 hq') (by omega)) qA ⟨yq9 hκ,trivial⟩ trivial ?_);refine A10 ?_;refine xr0 (ι:=Nat×Nat) (fun x=>x.1<=64/\(x.2=q+100∨2000+64*q<=x.2/\x.2 < 2000+64*q+x.1)) (fun x=>uV (uO (uV (uO (uO uN 0 (.sl 20 1 0 k)) 5 (.sl 21 1 0 k)) 6 (tI q)) 7 (.sl x.2 1 0 ((L q).length+x.1))) 8 (tI x.1)) (fun x=>upd (hQI k L κ q) x.2 (some (rSI (mkL mIb q ((L q).length+x.1))))) (fun x=>alP true (2000+64*q+x.1)) (fun x=>64 - x.1) (0,q+100) ⟨zbs _,.inl rfl⟩ (Sub.int rfl rfl (zan rfl (zan rfl (zan rfl (zan rfl zay))))) (zaq (qh4 hn hκ hq') .refl SubK.refl) (zaj (zak (by show (alP true (2000+64*q+0) (q+100) && true)=true;rw [xh2 (by omega) (by omega)];rfl) (zaj (zak rfl (zak rfl zar))))) (qe5 hκ hn (by omega) (by omega) (by omega)) (lkP (by omega)) ?_;rintro ⟨i,v⟩ ⟨hi,hv⟩;replace hi:i<=64:=hi;replace hv:v=q+100∨2000+64*q<=v/\v < 2000+64*q+i:=hv;have h20:upd (hQI k L κ q) v (some (rSI (mkL mIb q ((L q).length+i)))) 20=some ⟨23,1,false,owns k 1 fun j=>(L j).length⟩:=by
    rw [x4 _ _ _ (by omega)];exact yq9 hκ
   show wc _ _ _ _ (uV (uO (uV (uO (uO uN 0 (.sl 20 1 0 k)) 5 (.sl 21 1 0 k)) 6 (tI q)) 7 (.sl v 1 0 ((L q).length+i))) 8 (tI i)) (upd (hQI k L κ q) v (some (rSI (mkL mIb q ((L q).length+i))))) (alP true (2000+64*q+i));refine A6 ?_;refine xa6 rfl (fun h4=> ?_) (fun h4=> ?_)
   ·
    have hi':i < 64:=by omega
    refine A3 ?_;refine xe4 ?_;refine xe3 ?_;refine xu5 [_,_,_,_,_,_,_,_,_,_,_] ?_;refine A4 ?_;refine R2 (zag sl77 rfl) rfl rfl (RE (x7 (q) ti23 (xd3 hq') (by omega)) qA ⟨h20,trivial⟩ trivial ?_);refine A3 ?_;refine R2 (x3 (xs5 q ((L q).length+i) (by omega) (by omega)) fi146 rfl) rfl rfl (R1 (xb6 (n:=1) (f:=tIb) [mIb q ((L q).length+i)] zgt el3 zf3 rfl (fun _=>inferInstance) rfl rfl rfl) rfl (yv5 (by kernel_rfl) ?_));refine yc3 (k':=2000+64*q+i) (f:=tIb) (ys:=[mIb q ((L q).length+i)]) zgt el3 zf3 rfl rfl (fun _=>inferInstance) rfl rfl (x6 _ _ _) (yt7 (by omega)) (xe0.trans xi4) (by simp;omega) (by simp;omega) (by simp) rfl (fun b=> ?_);refine xa5 xb8 qA trivial trivial rfl (xd1 ?_);refine A7 ?_;have hv':cond b v (2000+64*q+i)=v∨cond b v (2000+64*q+i)=2000+64*q+i:=by cases b;exact .inr rfl;exact .inl rfl
    generalize cond b v (2000+64*q+i)=v' at hv' ⊢;exact fun _ _ hs=>xv8 (i+1,v') ⟨⟨by show i+1<=64;omega,by show v'=q+100∨2000+64*q<=v'/\v' < 2000+64*q+(i+1);omega⟩,by show 64 - (i+1) < 64 - i;omega⟩ (Sub.int rfl rfl (zan rfl (zan rfl (zan rfl (zan rfl zay))))) (by
     show SubK (upd (hQI k L κ q) v' (some (rSI (mkL mIb q ((L q).length+i+1))))) _;rw [<-jj5];exact SubK.over fun y hy=>by
      rcases hv with rfl | hv
      ·rw [qh4 hn hκ hq'] at hy;cases hy;exact ⟨rfl,qd4 (by omega)⟩
      ·rw [jr1 hκ hn hv.1] at hy;cases hy) (zaj (zak (by show (alP true (2000+64*q+(i+1)) v' && true)=true;rw [xh2 (by omega) (by omega)];rfl) (zaj (zak rfl (zak rfl zar))))) (qe5 hκ hn (by omega) (by show 2000+64*q<=2000+64*q+(i+1);omega) (by show 100<=v'/\v' < 2000+64*q+(i+1);omega)) (lkP (by omega)) hs
   ·
    have hi64:i=64:=by omega
    subst hi64;have h21:upd (hQI k L κ q) v (some (rSI (mkL mIb q ((L q).length+64)))) 21=some ⟨23,1,false,gsR k 1 κ (fun j=>(L j).length+64) tN0I q⟩:=by
     rw [x4 _ _ _ (by omega)];exact za6 hκ
    refine A9 ?_;refine R2 (zag sl77 rfl) rfl rfl (RE (xa8 (e:= .own (.sl v 1 0 ((L q).length+64))) (q) ti23 (by rw [xt8];simpa using hq') (by omega) (yc1 (len:=fun j=>(L j).length+64) (v:=v) hq')) qB ⟨h21,trivial⟩ trivial ?_);refine A8 ?_;exact fun _ _ hs=>xv8 (q+1,setN κ q v) ⟨⟨by show q+1<=k;omega,yc0 hκ hv⟩,by show k - (q+1) < k - q;omega⟩ (Sub.int rfl rfl (zan rfl (zan rfl zay))) (by exact jh5 hκ (by omega)) (zaj (zak rfl (zak rfl zar))) (by exact xt0 (yc0 hκ hv) hn (by omega) (by omega)) (lkP (by omega)) hs
  ·
   have hqk:q=k:=by omega
   subst hqk;refine A12 ?_;refine xf6 (fun j:Nat=>j<=q) (fun j=>uV (uO (uO uN 0 (.sl 20 1 0 q)) 5 (.sl 21 1 0 q)) 9 (tI j)) (fun _=>hQI q L κ q) (alP true (2000+64*q)) (fun j=>q - j) 0 (zbs _) (Sub.int rfl rfl (zan rfl (zan rfl zay))) SubK.refl (zaj (zak rfl (zak rfl zar))) (xt0 hκ hn (by omega) (by omega)) (lkP (by omega)) ?_;intro j hj;refine A9 ?_;refine xa6 rfl (fun h5=> ?_) (fun h5=> ?_)
   ·
    have hj':j < q:=by omega
    have hLj:=hL j;refine A9 ?_;refine xe4 ?_;refine xf6 (fun i:Nat=>i<=(L j).length+64) (fun i=>uV (uV (uO (uO uN 0 (.sl 20 1 0 q)) 5 (.sl 21 1 0 q)) 9 (tI j)) 10 (tI i)) (fun _=>hQI q L κ q) (alP true (2000+64*q)) (fun i=>(L j).length+64 - i) 0 (zbs _) (Sub.int rfl rfl (zan rfl (zan rfl (zan rfl zay)))) SubK.refl (zaj (zaj (zak rfl (zak rfl zar)))) (xt0 hκ hn (by omega) (by omega)) (lkP (by omega)) ?_;intro i hi;obtain ⟨m,hm,hls⟩:=qz0 (L:=L) hn (zbm q) hκ hj';refine A6 ?_;refine R2 (zag sl77 rfl) rfl rfl (RE (x7 (j) ti23 (xr2 hj' hj') (by omega)) qA ⟨za6 hκ,trivial⟩ trivial ?_);refine A3 ?_;refine xa6 rfl (fun h6=> ?_) (fun h6=> ?_)
    ·
     refine A8 ?_;refine R2 (zag sl77 rfl) rfl rfl (RE (x7 (j) ti23 (xr2 hj' hj') (by omega)) qA ⟨za6 hκ,trivial⟩ trivial ?_);refine A1 ?_;refine R2 (zag sl23 rfl) rfl rfl (RE (x7 (i) ti3 (zg5 (by omega)) (by omega)) qA ⟨qs6 hn (zbm q) hκ hj',trivial⟩ trivial ?_);refine A2 ?_;refine R2 (x3 (xs5 j i (by omega) (by omega)) fi146 rfl) rfl rfl (R2 y9 rfl rfl ?_);refine A5 ?_;refine Rg rfl rfl (zag sl77 rfl) rfl qB (RGon rfl rfl (x7 (j) ti23 (xd3 hj') (by omega)) rfl qA ⟨yq9 hκ,trivial⟩ trivial (Rg rfl rfl zd1 rfl qA ?_));refine A2 ?_;refine RGcaseD (t:=108) rfl (fun h7=> ?_) (fun h7=> ?_)
     ·
      refine A2 ?_;refine Rg (zbg h7) rfl (zag sl77 rfl) rfl qB (RGon (zbg h7) rfl (x7 (j) ti23 (xd3 hj') (by omega)) rfl qA ⟨yq9 hκ,trivial⟩ trivial ?_);refine A1 ?_;refine Rg (zbg h7) rfl (zag sl23 rfl) rfl qB (RGon (zbg h7) rfl (x7 (i) ti3 (zg5 (by omega)) (by omega)) rfl qA ⟨hls,trivial⟩ trivial ?_);refine A2 ?_;refine Rg (zbg h7) rfl (x3 (xs5 j i (by omega) (by omega)) fi146 rfl) rfl qB (Rg (zbg h7) rfl y9 rfl qB ?_);refine A1 ?_;refine Rg rfl rfl (xm0 (zbg h7)) rfl qB (R2 (xc8 rfl) rfl rfl ?_);refine A1 ?_;refine xi9 rfl rfl ?_;refine A8 ?_;exact xg8 (i+1) ⟨by omega,by omega⟩ (Sub.int rfl (by omega) (zan rfl (zan rfl (zan rfl zay)))) SubK.refl (zaj (zaj (zak rfl (zak rfl zar)))) (xt0 hκ hn (by omega) (by omega)) (lkP (by omega))
     ·
      refine RGoff (zbf h7) rfl rfl (RGoff (zbf h7) rfl rfl (RGoff (zbf h7) rfl rfl (RGoff (zbf h7) rfl rfl (RGoff (zbf h7) rfl rfl (RGoff (zbf h7) rfl rfl (RGoff (zbf h7) rfl rfl (RGoff (zbf h7) rfl rfl (RGoff (zbf h7) rfl rfl (RGoff (zbf h7) rfl rfl (RGoff (zbf h7) rfl rfl (RGoff (zbf h7) rfl rfl (Rg rfl rfl (xc8 (zbf h7)) rfl qB (R2 (xc8 rfl) rfl rfl ?_)))))))))))));refine A1 ?_;refine xi9 rfl rfl ?_;refine A8 ?_;exact xg8 (i+1) ⟨by omega,by omega⟩ (Sub.int rfl (by omega) (zan rfl (zan rfl (zan rfl zay)))) SubK.refl (zaj (zaj (zak rfl (zak rfl zar)))) (xt0 hκ hn (by omega) (by omega)) (lkP (by omega))
    ·
     refine A11 ?_;exact xg8 (j+1) ⟨by omega,by omega⟩ (Sub.int rfl (by omega) (zan rfl (zan rfl zay))) SubK.refl (zaj (zak rfl (zak rfl zar))) (xt0 hκ hn (by omega) (by omega)) (lkP (by omega))
   ·
    clear h5 hj;refine A12 ?_;refine xr0 (ι:=Nat×(Nat->Nat)) (fun x=>x.1<=q/\ ∀j,j < x.1->okM q j (x.2 j)) (fun x=>uV (uO (uO uN 0 (.sl 20 1 0 q)) 5 (.sl 21 1 0 q)) 11 (tI x.1)) (fun x=>hRI q L κ x.2 x.1) (fun x=>alP true (2000+64*q+x.1)) (fun x=>q - x.1) (0,fun _=>0) ⟨zbs _,fun j h=>by cases h⟩ (Sub.int rfl rfl (zan rfl (zan rfl zay))) (hR_0I hn hκ) (zaj (zak rfl (zak rfl zar))) (xt5 hκ (fun j h=>by cases h) hn (zbs _) (by omega)) (lkP (by omega)) ?_;rintro ⟨j,κ2⟩ ⟨hj,hκ2⟩;replace hj:j<=q:=hj;replace hκ2: ∀i,i < j->okM q i (κ2 i):=hκ2;show wc _ _ _ _ (uV (uO (uO uN 0 (.sl 20 1 0 q)) 5 (.sl 21 1 0 q)) 11 (tI j)) (hRI q L κ κ2 j) (alP true (2000+64*q+j));refine A9 ?_;refine xa6 rfl (fun h5=> ?_) (fun h5=> ?_)
    ·
     have hj':j < q:=by omega
     have hLj:=hL j;refine A6 ?_;refine RE (xe5 (k:=22) (t:=tIb 0) (ts:=rV tIb (fSI (j+q) 0)) 64 64 zgt el3 (fun F w=>rfl) rfl rfl rfl (zbm _) (by decide) (by decide) fS_0I) qB trivial ⟨zq8,trivial⟩ ?_;refine A10 ?_;refine xf6 (fun i:Nat=>i<=64) (fun i=>uV (uO (uV (uO (uO uN 0 (.sl 20 1 0 q)) 5 (.sl 21 1 0 q)) 11 (tI j)) 12 (.sl 22 1 0 64)) 13 (tI i)) (fun i=>upd (hRI q L κ κ2 j) 22 (some (rSI (fSI (j+q) i)))) (alM (2000+64*q+j)) (fun i=>64 - i) 0 (zbs _) (Sub.int rfl rfl (zan rfl (zan rfl (zan rfl (zan rfl zay))))) SubK.refl (zaj (zak rfl (zaj (zak rfl (zak rfl zar))))) (zp8 (xt5 hκ hκ2 hn (by omega) (by omega))) (yj7 (lkP (by omega))) ?_;intro i hi;refine A6 ?_;refine xa6 rfl (fun h6=> ?_) (fun h6=> ?_)
     ·
      refine A12 ?_;refine R2 (x3 (xs5 (j+q) i (by omega) (by omega)) fi146 rfl) rfl rfl (R2 (zag sl23 rfl) rfl rfl (RE (xa8 (e:= .val (tIb (mIb (j+q) i))) (i) ti3 (xn4 (f:=tIb) (xs:=fSI (j+q) i) (by rw [xr5];omega)) (by omega) (xm8 (f:=tIb) (m:=mIb (j+q) i) rfl)) qB ⟨x6 _ _ _,trivial⟩ trivial ?_));refine A8 ?_;exact xg8 (i+1) ⟨by omega,by omega⟩ (Sub.int rfl (by omega) (zan rfl (zan rfl (zan rfl (zan rfl zay))))) (by rw [<-jr5 (by omega)];exact SubK.twice) (zaj (zak rfl (zaj (zak rfl (zak rfl zar))))) (zp8 (xt5 hκ hκ2 hn (by omega) (by omega))) (yj7 (lkP (by omega)))
     ·
      have hi64:i=64:=by omega
      subst hi64;refine A5 ?_;have hown: ∀r,upd (upd (hRI q L κ κ2 j) 22 r) 22 none (j+100)=some (rSI (mkL mIb j (L j).length)):=fun r=>by
       rw [x4 _ _ _ (by omega),x4 _ _ _ (by omega)];exact jq6 hn hκ2 hj'
      have hgs: ∀r v r',100<=v->upd (upd (upd (hRI q L κ κ2 j) 22 r) 22 none) v r' 21=some ⟨23,1,false,gsR q 1 κ2 (fun j=>(L j).length+64) (tKI L κ) j⟩:=fun r v r' hv=>by
       rw [x4 _ _ _ (by omega),x4 _ _ _ (by omega),x4 _ _ _ (by omega)];exact qr6 hκ2
      refine zi1 (t:=12) (k:=22) (f:=tIb) (xs:=fSI (j+q) 64) rfl (x6 _ _ _) (fun b hb=>jc2 hκ2 hj hb) (xn8 xr5) xr5 ?_;refine xe3 ?_;refine xu5 [_,_,_,_,_,_,_] ?_;refine A4 ?_;refine R2 (zag sl77 rfl) rfl rfl (RE (x7 (j) ti23 (xd3 hj') (by omega)) qA ⟨(x4 _ _ _ (by omega)).trans ((x4 _ _ _ (by omega)).trans (zb8 hκ2)),trivial⟩ trivial ?_);refine A1 ?_;refine yv5 (by kernel_rfl) ?_;refine yc3 (k':=2000+64*q+j) (f:=tIb) (ys:=fSI (j+q) 64) zgt el3 zf3 rfl rfl (fun _=>inferInstance) rfl rfl (hown _) (zj6 (by omega)) (xe0.trans xi4) (by rw [xr5];omega) (by rw [xr5];omega) (by rw [xr5];omega) rfl (fun b=> ?_);have hv':okM q j (cond b (j+100) (2000+64*q+j)):=by cases b;exact .inr rfl;exact .inl rfl
      generalize cond b (j+100) (2000+64*q+j)=v' at hv' ⊢;rw [xr5];have hvb:100<=v'/\v'<=2000+64*q+j:=by rcases hv' with h | h <;> omega
      refine xa5 (zag sl77 rfl) qB trivial trivial rfl (xa5 (xa8 (e:= .own (.sl v' 1 0 ((L j).length+64))) (j) ti23 (by rw [xt8];simpa using hj') (by omega) (yc1 (len:=fun j=>(L j).length+64) (v:=v') hj')) qB ⟨hgs _ _ _ hvb.1,trivial⟩ trivial rfl (xd1 ?_));refine A7 ?_;exact fun _ _ hs=>xv8 (j+1,setN κ2 j v') ⟨⟨by show j+1<=q;omega,yc4 hκ2 hv'⟩,by show q - (j+1) < q - j;omega⟩ (Sub.int rfl rfl (zan rfl (zan rfl zay))) (by exact jb2 hκ2 hvb.1) (zaj (zak rfl (zak rfl zar))) (by exact xt5 hκ (yc4 hκ2 hv') hn (by omega) (by omega)) (lkP (by omega)) hs
    ·
     have hjq:j=q:=by omega
     subst hjq;clear h5 hj;refine A12 ?_;refine xf6 (fun t:Nat=>t<=j) (fun t=>uV (uO (uO uN 0 (.sl 20 1 0 j)) 5 (.sl 21 1 0 j)) 14 (tI t)) (fun _=>hRI j L κ κ2 j) (alP true (2000+64*j+j)) (fun t=>j - t) 0 (zbs _) (Sub.int rfl rfl (zan rfl (zan rfl zay))) SubK.refl (zaj (zak rfl (zak rfl zar))) (xt5 hκ hκ2 hn (by omega) (by omega)) (lkP (by omega)) ?_;intro t ht;refine A9 ?_;refine xa6 rfl (fun h5=> ?_) (fun h5=> ?_)
     ·
      have ht':t < j:=by omega
      have hLt:=hL t;obtain ⟨xs,hls,hxs⟩:=hR_lsI (L:=L) (κ:=κ) hn hκ2 ht';refine A9 ?_;refine xe4 ?_;refine xf6 (fun i:Nat=>i<=(L t).length) (fun i=>uV (uV (uO (uO uN 0 (.sl 20 1 0 j)) 5 (.sl 21 1 0 j)) 14 (tI t)) 15 (tI i)) (fun _=>hRI j L κ κ2 j) (alP true (2000+64*j+j)) (fun i=>(L t).length - i) 0 (zbs _) (Sub.int rfl rfl (zan rfl (zan rfl (zan rfl zay)))) SubK.refl (zaj (zaj (zak rfl (zak rfl zar)))) (xt5 hκ hκ2 hn (by omega) (by omega)) (lkP (by omega)) ?_;intro i hi;refine A6 ?_;refine R2 (zag sl77 rfl) rfl rfl (RE (x7 (t) ti23 (xd3 ht') (by omega)) qA ⟨zb8 hκ2,trivial⟩ trivial ?_);refine A3 ?_;refine xa6 rfl (fun h6=> ?_) (fun h6=> ?_)
      ·
       have hi':i < (L t).length:=by omega
       refine A8 ?_;refine R2 (zag sl77 rfl) rfl rfl (RE (x7 (t) ti23 (xd3 ht') (by omega)) qA ⟨zb8 hκ2,trivial⟩ trivial ?_);refine A1 ?_;refine R2 (zag sl23 rfl) rfl rfl (RE (x7 (i) ti3 (hxs i hi') (by omega)) qA ⟨hls,trivial⟩ trivial ?_);refine A2 ?_;refine R2 (x3 (xs5 t i (by omega) (by omega)) fi146 rfl) rfl rfl (R2 y9 rfl rfl ?_);refine A4 ?_;refine Rg rfl rfl (zag sl77 rfl) rfl qB (RGon rfl rfl (x7 (t) ti23 (xr2 ht' ht') (by omega)) rfl qA ⟨qr6 hκ2,trivial⟩ trivial ?_);refine A1 ?_;refine Rg rfl rfl (zag sl23 rfl) rfl qB (RGon rfl rfl (x7 (i) ti3 (qg0 hi') (by omega)) rfl qA ⟨qp4 hn hκ2 ht',trivial⟩ trivial ?_);refine A2 ?_;refine Rg rfl rfl (x3 (xs5 t i (by omega) (by omega)) fi146 rfl) rfl qB (Rg rfl rfl y9 rfl qB ?_);refine A1 ?_;refine R2 (xc8 rfl) rfl rfl ?_;refine A1 ?_;refine xi9 rfl rfl ?_;refine A8 ?_;exact xg8 (i+1) ⟨by omega,by omega⟩ (Sub.int rfl (by omega) (zan rfl (zan rfl (zan rfl zay)))) SubK.refl (zaj (zaj (zak rfl (zak rfl zar)))) (xt5 hκ hκ2 hn (by omega) (by omega)) (lkP (by omega))
      ·
       refine A11 ?_;exact xg8 (t+1) ⟨by omega,by omega⟩ (Sub.int rfl (by omega) (zan rfl (zan rfl zay))) SubK.refl (zaj (zak rfl (zak rfl zar))) (xt5 hκ hκ2 hn (by omega) (by omega)) (lkP (by omega))
     ·
      refine A11 ?_;exact xg3 LentC.mk' rfl rfl Imp.refl trivial rfl trivial rfl
structure Zh where
  ns:Bool
  n:Hd
  ds:Bool
  d:Hd
abbrev tZh (z:Zh):Ty:=tS [⟨2,true,tS [⟨1,false,tB z.ns⟩,⟨1,false,tH z.n⟩]⟩,⟨2,true,tS [⟨1,false,tB z.ds⟩,⟨1,false,tH z.d⟩]⟩]
inductive Zx where
  | raw (z:Zh)
  | fr (f:Fr)
def tFx:Zx->Ty
 | .raw z=>tZh z
 | .fr f=>tFr f
instance {x:Zx}:Shape (tFx x) 4 true:=by cases x <;> (unfold tFx;infer_instance)
def mFr (k i:Nat):Fr:=⟨⟨false,[mLb k i,((1000003*(k+7)+i) / 65536)%65536,1]⟩,⟨false,[]⟩⟩
def mFx (k i:Nat):Zx:= .fr (mFr k i)
def fx0:Zx:= .fr fr0
theorem fr0_le:Le (tS [⟨2,true,tS [⟨1,false,tE (.bool false)⟩,⟨1,false,tE (.slice none 0 0)⟩]⟩,⟨2,true,tS [⟨1,false,tE (.bool false)⟩,⟨1,false,tE (.slice none 0 0)⟩]⟩]) (tFr fr0):=
 Le.tS ⟨⟨rfl,rfl,Le.tS ⟨⟨rfl,rfl,zao⟩,⟨rfl,rfl,leNil rfl⟩,trivial⟩⟩,⟨rfl,rfl,Le.tS ⟨⟨rfl,rfl,zao⟩,⟨rfl,rfl,leNil rfl⟩,trivial⟩⟩,trivial⟩
theorem tFx_mk {F:Dom} {w:World}:(tFx fx0).p F w (.agg #[.bool false,.slice none 0 0,.bool false,.slice none 0 0]):=fr0_le _ _ _ frZ
theorem y5 (k i:Nat):Ct Tryz.prog 86 [tFx (mFx k i),tFx (mFx k i)] (tB true):=by
 have h:=zf6 (mFr k i) (mFr k i);rw [zbg rfl] at h;exact h
theorem cutHb {k i:Nat}:IntKind.u16.wrap ((1000003*((k:Int)+7)+(i:Int)) / 65536)=((((1000003*(k+7)+i) / 65536)%65536:Nat):Int):=by rw [mu16];omega
theorem zv3 (k i:Nat) (hk:k < 2000) (hi:i < 10000000):
  Ct Tryz.prog 297 [tI k,tI i] (tWh (mFr k i).n):=by
 refine Ct.intro func297 rfl ntmps297 rfl ?_;intro w F;refine A2 ?_;refine RE (xa3 (k:=4) (n:=2) (agg:=true) zr39.1 zr39.2 rfl) trivial trivial qA ?_;refine A6 ?_;refine R2 (x3 (xn2 k i hk hi) fi146 rfl) rfl rfl (R1 (x9 zgv (isS zgz) cutLb) rfl ?_);refine A2 ?_;refine R2 (x3 (xn2 k i hk hi) fi146 rfl) rfl rfl (R2 (xj1 (r:=(1000003*((k:Int)+7)+(i:Int)) / 65536) (by decide) (by rw [zge _ (by decide)];rfl)) rfl rfl (R1 (x9 zgv (isS zgz) cutHb) rfl (R3 (xm7 (n:=3) [mLb k i,(((1000003*(k+7)+i) / 65536)%65536),1] zgr el64 zf64 rfl rfl rfl) rfl rfl rfl (R1 (xb7 (r:=tS [⟨1,false,(tE (.bool false))⟩,⟨1,false,tLm [mLb k i,(((1000003*(k+7)+i) / 65536)%65536),1]⟩]) (ts:=[(1,tLm [mLb k i,(((1000003*(k+7)+i) / 65536)%65536),1])]) bu39 zr39.2 (Bc 1 rfl rfl rfl zao)) rfl ?_))));refine A4 ?_;exact EC rfl ⟨_,_,_,_,_,rfl,rfl,ti39,(Le.of rfl)⟩
theorem xn0 (k i:Nat) (hk:k < 2000) (hi:i < 10000000):
  Ct Tryz.prog 298 [tI k,tI i] (tFx (mFx k i)):=by
 refine Ct.intro func298 rfl ntmps298 rfl ?_;intro w F;refine A2 ?_;refine RE (xa3 (k:=4) (n:=4) (agg:=true) zr41.1 zr41.2 rfl) trivial trivial qA ?_;refine A6 ?_;refine R2 (x3 (zv3 k i hk hi) fi297 rfl) rfl rfl (R1 (xb7 (r:=tS [⟨2,true,tWh (mFr k i).n⟩,⟨2,true,zac⟩]) (ts:=[(0,tWh (mFr k i).n)]) bu41 zr41.2 (Bc 0 rfl rfl rfl zao)) rfl ?_);refine A4 ?_;exact EC rfl ⟨_,_,_,_,_,rfl,rfl,ti41,(show Le _ (tFr (mFr k i)) from Le.of rfl)⟩
theorem qc4 {n T es:Nat} {len:Nat->Nat} {R:Nat->HEnt} (hRF: ∀k,k < n->(R k).supp=[]):SupHs ((20,⟨T,1,false,owns n es len⟩)::poolL n R) (poolN n):=yp1 fun x hx=>by
 rcases zbt.1 hx with rfl | hx
 ·exact ⟨rfl,fun k hk=>by obtain ⟨j,hj,rfl⟩:=yh3 hk;simp only [poolN,zbt,zcb,zcw];exact .inr ⟨j,hj,rfl⟩⟩
 ·obtain ⟨j,hj,h1,h2⟩:=xn9 (k:=x.1) (x:=x.2) hx;refine ⟨xb5.2 ?_,fun k hk=> ?_⟩
  ·rw [h1];simp only [poolN,zbt,zcb,zcw];exact .inr ⟨j,hj,rfl⟩
  ·have:=hRF j hj;rw [h2] at hk;rw [HEnt.supp] at this;rw [this] at hk;cases hk
abbrev rSF (xs:List Zx):HEnt:=⟨41,4,true,rV tFx xs⟩
abbrev hPF (n:Nat) (L M:Nat->List Zx):Keys:=upd (poolK n fun j=>rSF (M j)) 20 (some ⟨71,1,false,owns n 4 fun j=>(L j).length⟩)
theorem xw8 {xs:List Zx}:(rSF xs).supp=[]:=List.eq_nil_iff_forall_not_mem.2 fun _ hk=>zk1 hk
theorem yc9 {n k:Nat} {L M:Nat->List Zx} (h:k < n):hPF n L M (k+100)=some (rSF (M k)):=by
 rw [hPF,x4 _ _ _ (by omega)];exact xm1 h
theorem ji1 {n k:Nat} {L M M':Nat->List Zx} (h1: ∀j,j≠k->M' j=M j):SubK (hPF n L M') (upd (hPF n L M) (k+100) (some (rSF (M' k)))):=fun q x hx=>by
 by_cases hq:q=k+100
 ·subst hq;rw [hPF,x4 _ _ _ (by omega)] at hx;obtain ⟨j,_,h2,rfl⟩:=xh5 hx;have:j=k:=by omega
  subst this;exact ⟨_,x6 _ _ _,rfl,.refl⟩
 ·rw [x4 _ _ _ hq];by_cases hq2:q=20
  ·subst hq2;rw [hPF,x6] at hx ⊢;exact ⟨_,rfl,by cases hx;rfl,by cases hx;exact .refl⟩
  ·rw [hPF,x4 _ _ _ hq2] at hx ⊢;obtain ⟨j,h1',rfl,rfl⟩:=xh5 hx;refine ⟨_,xm1 h1',rfl,?_⟩;rw [h1 j (by omega)];exact .refl
theorem hP_eqF {n:Nat} {L M M':Nat->List Zx} (h: ∀j,j < n->M' j=M j):SubK (hPF n L M') (hPF n L M):=fun q x hx=>by
 by_cases hq2:q=20
 ·subst hq2;rw [hPF,x6] at hx ⊢;exact ⟨_,rfl,by cases hx;rfl,by cases hx;exact .refl⟩
 ·rw [hPF,x4 _ _ _ hq2] at hx ⊢;obtain ⟨j,h1',rfl,rfl⟩:=xh5 hx;exact ⟨_,xm1 h1',rfl,by rw [h j h1'];exact .refl⟩
theorem yc8 {b:Bool} {n m:Nat} {L M:Nat->List Zx} (h:n+100<=m):SupH (hPF n L M) (alP b m):=supP h fun _ _=>xw8
abbrev tN0F:Nat->Ent:=fun _=> .val (tL 4 true tFx ([]:List Zx))
abbrev hBF (n:Nat) (L:Nat->List Zx) (κ:Nat->Nat) (k:Nat):Keys:=upd (hPF n L (cM L mFx fx0 n 0)) 21 (some ⟨71,1,false,gsR n 4 κ (fun j=>(L j).length+64) tN0F k⟩)
abbrev hQF (n:Nat) (L:Nat->List Zx) (κ:Nat->Nat) (k:Nat):Keys:=pileK κ (fun j=>rSF (mkL mFx j ((L j).length+64))) k (hBF n L κ k)
section
variable {n k:Nat} {L:Nat->List Zx} {κ:Nat->Nat}
theorem yq8 (hκ: ∀j,j < k->okN j (κ j)):hQF n L κ k 20=some ⟨71,1,false,owns n 4 fun j=>(L j).length⟩:=by
 rw [hQF,xc0 fun j hj=>by rcases hκ j hj with h | h <;> omega];rfl
theorem zb7 (hκ: ∀j,j < k->okN j (κ j)):hQF n L κ k 21=some ⟨71,1,false,gsR n 4 κ (fun j=>(L j).length+64) tN0F k⟩:=by
 rw [hQF,xc0 fun j hj=>by rcases hκ j hj with h | h <;> omega];exact x6 _ _ _
theorem qg8 (hn:n<=900) (hκ: ∀j,j < k->okN j (κ j)) (hk:k < n):hQF n L κ k (k+100)=some (rSF (mkL mFx k (L k).length)):=by
 rw [hQF,xc0 fun j hj=>okN.ne (.inl rfl) (hκ j hj) (by omega) (by omega) (by omega),hBF,x4 _ _ _ (by omega),yc9 hk,yi4 hk]
theorem jm2 (hκ: ∀j,j < k->okN j (κ j)) (hn:n<=900) {q:Nat} (h:2000+64*k<=q):hQF n L κ k q=none:=by
 rw [hQF,xc0 fun j hj=>by rcases hκ j hj with h | h <;> omega,hBF,x4 _ _ _ (by omega),hPF,x4 _ _ _ (by omega)];exact xw5 fun j hj=>by omega
theorem xs8 {m:Nat} (hκ: ∀j,j < k->okN j (κ j)) (hn:n<=900) (hk:k<=n) (hm:2000+64*k<=m):SupH (hQF n L κ k) (alP true m):=fun q x hx=>by
 have hin: ∀j,j < k->alP true m (κ j)=true:=fun j hj=>xh2 ((hκ j hj).lt (m:=m) (by omega) (by omega)).1 ((hκ j hj).lt (by omega) (by omega)).2;rcases xw4 hx with ⟨j,hj,rfl,rfl⟩ | hx
 ·exact ⟨hin j hj,fun i hi=>by rw [xw8] at hi;cases hi⟩
 ·by_cases hq:q=21
  ·subst hq;rw [hBF,x6] at hx;cases hx;refine ⟨rfl,fun i hi=> ?_⟩;rcases xz5 hi with ⟨j,_,hj,rfl⟩ | ⟨j,_,hj⟩
   ·exact hin j hj
   ·cases hj
  ·rw [hBF,x4 _ _ _ hq] at hx;exact yc8 (by omega) q x hx
theorem qe7 {m v:Nat} {r:List Zx} (hκ: ∀j,j < k->okN j (κ j)) (hn:n<=900) (hk:k<=n) (hm:2000+64*k<=m) (hv:100<=v/\v < m):SupH (upd (hQF n L κ k) v (some (rSF r))) (alP true m):=fun q x hx=>by
 by_cases hq:q=v
 ·subst hq;rw [x6] at hx;cases hx;exact ⟨xh2 hv.1 hv.2,fun i hi=>by rw [xw8] at hi;cases hi⟩
 ·rw [x4 _ _ _ hq] at hx;exact xs8 hκ hn hk hm q x hx
theorem jd6 {v:Nat} (hκ: ∀j,j < k->okN j (κ j)) (hv:100<=v):SubK (hQF n L (setN κ k v) (k+1)) (upd (upd (hQF n L κ k) v (some (rSF (mkL mFx k ((L k).length+64))))) 21 (some ⟨71,1,false,gsR n 4 (setN κ k v) (fun j=>(L j).length+64) tN0F (k+1)⟩)):= .eq fun t x hx=>by
 rw [hQF,pileK,xo0,xo3 (κ:=κ) fun j hj=>xk3 (by omega)] at hx;by_cases ht:t=21
 ·subst ht;rw [x4 _ _ _ (by omega),xc0 fun j hj=>by rcases hκ j hj with h | h <;> omega,hBF,x6] at hx;rw [x6];exact hx
 ·rw [x4 _ _ _ ht];by_cases htv:t=v
  ·subst htv;rw [x6] at hx ⊢;exact hx
  ·rw [x4 _ _ _ htv] at hx ⊢;rw [xp3 (h:=hBF n L κ k) (by rw [hBF,hBF,x4 _ _ _ ht,x4 _ _ _ ht])] at hx;exact hx
theorem qp9 {j:Nat} (hn:n<=900) (hk:k<=n) (hκ: ∀j,j < k->okN j (κ j)) (hj:j < k):hQF n L κ k (κ j)=some (rSF (mkL mFx j ((L j).length+64))):=
 xs6 (fun i hi hij=>okN.ne (hκ j hj) (hκ i hi) (by omega) (by omega) (Ne.symm hij)) hj
theorem qq0 {j:Nat} (hn:n<=900) (hk:k<=n) (hκ: ∀j,j < k->okN j (κ j)) (hj:j < k): ∃m,(L j).length<=m/\hQF n L κ k (j+100)=some (rSF (mkL mFx j m)):=by
 rcases hκ j hj with h | h
 ·exact ⟨(L j).length+64,by omega,by rw [<-h];exact qp9 hn hk hκ hj⟩
 ·refine ⟨(L j).length,zbm _,?_⟩;rw [hQF,xc0 fun i hi=>by
   by_cases hij:i=j
   ·subst hij;omega
   ·exact okN.ne (.inl rfl) (hκ i hi) (by omega) (by omega) (Ne.symm hij),hBF,x4 _ _ _ (by omega),yc9 (by omega),yi4 (by omega)]
theorem zj7 {i m j:Nat} (h:i < m):(rV tFx (mkL mFx j m))[i]? =some (.val (tFx (mFx j i))):=by
 rw [rV,zbp,xu0 h];rfl
theorem qh6 {j i i':Nat} (h:i'<=i):ImpK (rSF (mkL mFx j i)) (rSF (mkL mFx j i')):= .ts (by rw [xe0,xe0,xi4,xi4];exact h) fun t e he=>⟨e,by
 simp only [rV,zbp] at he ⊢;obtain ⟨x,hx,rfl⟩:=zdo.1 he;rw [zg8 h t x hx];rfl,.refl⟩
abbrev tKF (L:Nat->List Zx) (κ:Nat->Nat):Nat->Ent:=fun j=> .own (.sl (κ j) 4 0 ((L j).length+64))
abbrev rMF (n:Nat) (L:Nat->List Zx) (j:Nat):HEnt:=rSF (mkL mFx j (L j).length++mkL mFx (j+n) 64)
abbrev hCF (n:Nat) (L:Nat->List Zx) (κ κ2:Nat->Nat) (k:Nat):Keys:=upd (hPF n L (fun j=>mkL mFx j (L j).length)) 21 (some ⟨71,1,false,gsR n 4 κ2 (fun j=>(L j).length+64) (tKF L κ) k⟩)
abbrev hRF (n:Nat) (L:Nat->List Zx) (κ κ2:Nat->Nat) (k:Nat):Keys:=pileK κ2 (rMF n L) k (hCF n L κ κ2 k)
variable {κ2:Nat->Nat}
theorem zg2 (hκ: ∀j,j < k->okM n j (κ2 j)):hRF n L κ κ2 k 20=some ⟨71,1,false,owns n 4 fun j=>(L j).length⟩:=by
 rw [hRF,xc0 fun j hj=>by rcases hκ j hj with h | h <;> omega];rfl
theorem qq8 (hκ: ∀j,j < k->okM n j (κ2 j)):hRF n L κ κ2 k 21=some ⟨71,1,false,gsR n 4 κ2 (fun j=>(L j).length+64) (tKF L κ) k⟩:=by
 rw [hRF,xc0 fun j hj=>by rcases hκ j hj with h | h <;> omega];exact x6 _ _ _
theorem jk4 (hn:n<=900) (hκ: ∀j,j < k->okM n j (κ2 j)) (hk:k < n):hRF n L κ κ2 k (k+100)=some (rSF (mkL mFx k (L k).length)):=by
 rw [hRF,xc0 fun j hj=>okM.ne (.inl rfl) (hκ j hj) (by omega) (by omega) (by omega),hCF,x4 _ _ _ (by omega),yc9 hk]
theorem xt4 {m:Nat} (hκ0: ∀j,j < n->okN j (κ j)) (hκ: ∀j,j < k->okM n j (κ2 j)) (hn:n<=900) (hk:k<=n) (hm:2000+64*n+k<=m):SupH (hRF n L κ κ2 k) (alP true m):=fun q x hx=>by
 have hin: ∀j,j < k->alP true m (κ2 j)=true:=fun j hj=>by rcases hκ j hj with h | h <;> exact xh2 (by omega) (by omega)
 rcases xw4 hx with ⟨j,hj,rfl,rfl⟩ | hx
 ·exact ⟨hin j hj,fun i hi=>by rw [xw8] at hi;cases hi⟩
 ·by_cases hq:q=21
  ·subst hq;rw [hCF,x6] at hx;cases hx;refine ⟨rfl,fun i hi=> ?_⟩;rcases xz5 hi with ⟨j,_,hj,rfl⟩ | ⟨j,hjn,hj⟩
   ·exact hin j hj
   ·simp only [Ent.supp,VP.supp,zbq] at hj;subst hj;exact xh2 ((hκ0 j hjn).lt (m:=m) (by omega) (by omega)).1 ((hκ0 j hjn).lt (by omega) (by omega)).2
  ·rw [hCF,x4 _ _ _ hq] at hx;exact yc8 (by omega) q x hx
theorem hR_0F {κ3:Nat->Nat} (hn:n<=900) (hκ: ∀j,j < n->okN j (κ j)):SubK (hRF n L κ κ3 0) (hQF n L κ n):=fun q x hx=>by
 by_cases hq:q=21
 ·subst hq;have hx:hCF n L κ κ3 0 21=some x:=hx;rw [hCF,x6] at hx;cases hx;refine ⟨_,zb7 hκ,rfl,?_⟩;rw [show gsR n 4 κ (fun j=>(L j).length+64) tN0F n=gsR n 4 κ3 (fun j=>(L j).length+64) (tKF L κ) 0 from by
   apply zfm;intro j hj;rw [zcw] at hj;simp [hj]]
  exact .refl
 ·have hx:hCF n L κ κ3 0 q=some x:=hx;rw [hCF,x4 _ _ _ hq] at hx;by_cases hq2:q=20
  ·subst hq2;rw [hPF,x6] at hx;cases hx;exact ⟨_,yq8 hκ,rfl,.refl⟩
  ·rw [hPF,x4 _ _ _ hq2] at hx;obtain ⟨j,hj,rfl,rfl⟩:=xh5 hx;obtain ⟨m,hm,e⟩:=qq0 (L:=L) hn (zbm n) hκ hj;exact ⟨_,e,rfl,qh6 hm⟩
def fSF (j i:Nat):List Zx:=(List.range 64).map fun t=>if t < i then mFx j t else fx0
theorem xr7 {j i:Nat}:(fSF j i).length=64:=by simp [fSF]
theorem fS_0F {j:Nat}:List.replicate 64 (Ent.val (tFx fx0))=rV tFx (fSF j 0):=by
 rw [yd8 64 fx0 rfl];congr 1
theorem jq3 {j i:Nat} (hi:i < 64):(fSF j i).set i (mFx j i)=fSF j (i+1):=by
 apply zes;intro t;rw [zeo];rcases zcs t 64 with h | h
 ·simp only [fSF,zbp,zeh h,zcq,List.length_range,zdv];by_cases hit:i=t
  ·subst hit;simp [h]
  ·rw [if_neg hit];by_cases h1:t < i
   ·simp [h1,show t < i+1 by omega]
   ·simp [h1,show ¬t < i+1 by omega]
 ·rw [if_neg (by omega),zcp (by rw [xr7];exact h),zcp (by rw [xr7];exact h)]
theorem fS_64F {j:Nat}:fSF j 64=mkL mFx j 64:=zfm fun _ ht=>if_pos (zcw.1 ht)
theorem zw9 {m:Nat} {h:Keys} {r:List Zx} (hs:SupH h (alP true m)):SupH (upd h 22 (some (rSF r))) (alM m):=fun q x hx=>by
 by_cases hq:q=22
 ·subst hq;rw [x6] at hx;cases hx;exact ⟨rfl,fun i hi=>by rw [xw8] at hi;cases hi⟩
 ·rw [x4 _ _ _ hq] at hx;exact ⟨ya0 (hs q x hx).1,fun i hi=>ya0 ((hs q x hx).2 i hi)⟩
theorem rM_eqF {j:Nat}:(⟨41,4,true,rV tFx (mkL mFx j (L j).length)++(fSF (j+n) 64).map (fun y=>Ent.val (tFx y))⟩:HEnt)=rMF n L j:=by
 rw [rMF,rSF,<-fS_64F];simp [rV]
theorem jg7 {v:Nat} {r:HEnt} (hκ: ∀j,j < k->okM n j (κ2 j)) (hv:100<=v):SubK (hRF n L κ (setN κ2 k v) (k+1)) (upd (upd (upd (upd (hRF n L κ κ2 k) 22 (some r)) 22 none) v (some ⟨41,4,true,rV tFx (mkL mFx k (L k).length)++(fSF (k+n) 64).map (fun y=>Ent.val (tFx y))⟩)) 21 (some ⟨71,1,false,gsR n 4 (setN κ2 k v) (fun j=>(L j).length+64) (tKF L κ) (k+1)⟩)):= .eq fun t x hx=>by
 rw [rM_eqF];rw [hRF,pileK,xo0,xo3 (κ:=κ2) fun j hj=>xk3 (by omega)] at hx;by_cases ht:t=21
 ·subst ht;rw [x4 _ _ _ (by omega),xc0 fun j hj=>by rcases hκ j hj with h | h <;> omega,hCF,x6] at hx;rw [x6];exact hx
 ·rw [x4 _ _ _ ht];by_cases htv:t=v
  ·subst htv;rw [x6] at hx ⊢;exact hx
  ·rw [x4 _ _ _ htv] at hx ⊢;rw [xp3 (h:=hCF n L κ κ2 k) (by rw [hCF,hCF,x4 _ _ _ ht,x4 _ _ _ ht])] at hx;by_cases h22:t=22
   ·subst h22;rw [xc0 fun j hj=>by rcases hκ j hj with h | h <;> omega,hCF,x4 _ _ _ (by omega),hPF,x4 _ _ _ (by omega),xw5 fun j _=>by omega] at hx;cases hx
   ·rw [x4 _ _ _ h22,x4 _ _ _ h22];exact hx
theorem jg9 {j:Nat} (_hκ: ∀j,j < k->okM n j (κ2 j)) (hj:j < n): ∃y,hRF n L κ κ2 k (j+100)=some y:=by
 have key: ∀i,∃y,pileK κ2 (rMF n L) i (hCF n L κ κ2 k) (j+100)=some y:=fun i=>by
  induction i with
  | zero=>exact ⟨_,by show hCF n L κ κ2 k (j+100)=_;rw [hCF,x4 _ _ _ (by omega)];exact yc9 hj⟩
  | succ i ih=>
   by_cases h:j+100=κ2 i
   ·exact ⟨_,by rw [pileK,h];exact x6 _ _ _⟩
   ·obtain ⟨y,hy⟩:=ih;exact ⟨y,by rw [pileK,x4 _ _ _ h];exact hy⟩
 exact key k
theorem jh2 {N:Nat} {w:World} {F:Dom} {η:Env} {R:Nat->HEnt} {X:HEnt} {r:Option HEnt} {b:Nat} (hκ: ∀j,j < k->okM n j (κ2 j)) (_hk:k<=n) (hb:(Base.lent N w F η (poolN n) ((20,X)::poolL n R)).lb b):
  ∃j y,j∈poolN n/\j≠22/\upd (hRF n L κ κ2 k) 22 r j=some y/\0 < η.c j/\b=η.b j:=by
 obtain ⟨x,hx,hc,e⟩:=hb;rcases zbt.1 hx with rfl | hx
 ·exact ⟨20,_,by simp [poolN],by omega,(x4 _ _ _ (by omega)).trans (zg2 hκ),hc,e⟩
 ·obtain ⟨j,hj,h1,_⟩:=xn9 (k:=x.1) (x:=x.2) hx;obtain ⟨y,hy⟩:=jg9 (L:=L) (κ:=κ) hκ hj;refine ⟨j+100,y,by simp only [poolN,zbt,zcb,zcw];exact .inr ⟨j,hj,rfl⟩,by omega,(x4 _ _ _ (by omega)).trans hy,by rw [<-h1];exact hc,by rw [<-h1];exact e⟩
theorem qu1 {j:Nat} (hn:n<=900) (hκ: ∀j,j < n->okM n j (κ2 j)) (hj:j < n):hRF n L κ κ2 n (κ2 j)=some (rMF n L j):=
 xs6 (fun i hi hij=>okM.ne (hκ j hj) (hκ i hi) (by omega) (by omega) (Ne.symm hij)) hj
theorem qe2 {i j:Nat} (h:i < (L j).length):(rV tFx (mkL mFx j (L j).length++mkL mFx (j+n) 64))[i]? =some (.val (tFx (mFx j i))):=by
 rw [rV,zbp,zda (by rw [xi4];exact h),xu0 h];rfl
theorem hR_lsF {j:Nat} (hn:n<=900) (hκ: ∀j,j < n->okM n j (κ2 j)) (hj:j < n): ∃xs,hRF n L κ κ2 n (j+100)=some (rSF xs)/\ ∀i,i < (L j).length->(rV tFx xs)[i]? =some (.val (tFx (mFx j i))):=by
 rcases hκ j hj with h | h
 ·exact ⟨_,(congrArg (hRF n L κ κ2 n) h.symm).trans (qu1 hn hκ hj),fun i hi=>qe2 hi⟩
 ·refine ⟨mkL mFx j (L j).length,?_,fun i hi=>zj7 hi⟩;rw [hRF,xc0 fun i hi=>by
   by_cases hij:i=j
   ·subst hij;omega
   ·exact okM.ne (.inl rfl) (hκ i hi) (by omega) (by omega) (Ne.symm hij),hCF,x4 _ _ _ (by omega),yc9 hj]
theorem jp4 {i:Nat} {j:Nat}:(⟨41,4,true,rV tFx (mkL mFx j i)++[mFx j i].map (fun y=>Ent.val (tFx y))⟩:HEnt)=rSF (mkL mFx j (i+1)):=by
 rw [rSF,<-yz3];simp [rV]
end
theorem zq7 (n:Nat) (L:Nat->List Zx) (hn:n<=900) (hL: ∀j,(L j).length<=1000000):
  CtG Tryz.prog 235 ((20,⟨71,1,false,owns n 4 fun j=>(L j).length⟩)::poolL n fun j=>rSF (L j)) [.own (.sl 20 1 0 n)] (.val (tB true)) [] []:=by
 refine CtG.intro (poolN n) func235 rfl ntmps235 rfl rfl (qc4 fun _ _=>xw8) ?_;intro w F η;refine A12 ?_;refine xf6 (fun k:Nat=>k<=n) (fun k=>uV (uO uN 0 (.sl 20 1 0 n)) 3 (tI k)) (fun k=>hPF n L (cM L mFx fx0 k 0)) (alP false (100+n)) (fun k=>n - k) 0 (zbs _) (Sub.int rfl rfl (zan rfl zay)) (by show SubK (hPF n L (cM L mFx fx0 0 0)) _;rw [show cM L mFx fx0 0 0=L from funext fun j=>cM_0];exact yh9) (zaj (zak rfl zar)) (yc8 (by omega)) (lkP (by omega)) ?_;intro k hk;refine A9 ?_;refine xa6 rfl (fun h1=> ?_) (fun h1=> ?_)
 ·
  have hk':k < n:=by omega
  refine A9 ?_;refine xe4 ?_;refine xf6 (fun i:Nat=>i<=(L k).length) (fun i=>uV (uV (uO uN 0 (.sl 20 1 0 n)) 3 (tI k)) 4 (tI i)) (fun i=>hPF n L (cM L mFx fx0 k i)) (alP false (100+n)) (fun i=>(L k).length - i) 0 (zbs _) (Sub.int rfl rfl (zan rfl (zan rfl zay))) SubK.refl (zaj (zaj (zak rfl zar))) (yc8 (by omega)) (lkP (by omega)) ?_;intro i hi;have hLk:=hL k;refine A6 ?_;refine R2 (zag sl93 rfl) rfl rfl (RE (x7 (k) ti71 (xd3 hk') (by omega)) qA qA trivial ?_);refine A3 ?_;refine xa6 rfl (fun h2=> ?_) (fun h2=> ?_)
  ·
   refine A7 ?_;refine R2 (zag sl93 rfl) rfl rfl (RE (x7 (k) ti71 (xd3 hk') (by omega)) qA qA trivial ?_);refine A3 ?_;refine R2 (x3 (xn0 k i (by omega) (by omega)) fi298 rfl) rfl rfl (R2 (zag sl71 rfl) rfl rfl (RE (xa8 (e:= .val (tFx (mFx k i))) (i) ti41 (xn4 (f:=tFx) (xs:=cM L mFx fx0 k i k) (by rw [yt4];omega)) (by omega) (xm8 (f:=tFx) (m:=mFx k i) rfl)) qB ⟨yc9 (L:=L) hk',trivial⟩ trivial ?_));refine A8 ?_;exact xg8 (i+1) ⟨by omega,by omega⟩ (Sub.int rfl (by omega) (zan rfl (zan rfl zay))) (by rw [zw5 (by omega)];exact ji1 fun j hj=>zs2 hj) (zaj (zaj (zak rfl zar))) (yc8 (by omega)) (lkP (by omega))
  ·
   refine A11 ?_;have hil:i=(L k).length:=by omega
   subst hil;exact xg8 (k+1) ⟨by omega,by omega⟩ (Sub.int rfl (by omega) (zan rfl zay)) (hP_eqF fun j _=>zj3) (zaj (zak rfl zar)) (yc8 (by omega)) (lkP (by omega))
 ·
  have hkn:k=n:=by omega
  subst hkn;refine A9 ?_;refine RE (xe5 (k:=21) (t:=tL 4 true tFx ([]:List Zx)) (ts:=gsR k 4 (fun _=>0) (fun j=>(L j).length+64) tN0F 0) k k zhi el71 (fun _ _=>⟨none,0,rfl,zbm _,by decide,.inl rfl⟩) rfl (by omega) (by omega) (zbm _) (by omega) (by omega) zh7) qB trivial qA ?_;refine A10 ?_;refine xr0 (ι:=Nat×(Nat->Nat)) (fun x=>x.1<=k/\ ∀j,j < x.1->okN j (x.2 j)) (fun x=>uV (uO (uO uN 0 (.sl 20 1 0 k)) 5 (.sl 21 1 0 k)) 6 (tI x.1)) (fun x=>hQF k L x.2 x.1) (fun x=>alP true (2000+64*x.1)) (fun x=>k - x.1) (0,fun _=>0) ⟨zbs _,fun j h=>by cases h⟩ (Sub.int rfl rfl (zan rfl (zan rfl zay))) SubK.refl (zaj (zak rfl (zak rfl zar))) (xs8 (fun j h=>by cases h) hn (zbs _) (by omega)) (lkP (by omega)) ?_;rintro ⟨q,κ⟩ ⟨hq,hκ⟩;replace hq:q<=k:=hq;replace hκ: ∀j,j < q->okN j (κ j):=hκ;show wc _ _ _ _ (uV (uO (uO uN 0 (.sl 20 1 0 k)) 5 (.sl 21 1 0 k)) 6 (tI q)) (hQF k L κ q) (alP true (2000+64*q));refine A9 ?_;refine xa6 rfl (fun h3=> ?_) (fun h3=> ?_)
  ·
   have hq':q < k:=by omega
   have hLk:=hL q;refine A8 ?_;refine R2 (zag sl93 rfl) rfl rfl (RE (x7 (q) ti71 (xd3 hq') (by omega)) qA ⟨yq8 hκ,trivial⟩ trivial ?_);refine A10 ?_;refine xr0 (ι:=Nat×Nat) (fun x=>x.1<=64/\(x.2=q+100∨2000+64*q<=x.2/\x.2 < 2000+64*q+x.1)) (fun x=>uV (uO (uV (uO (uO uN 0 (.sl 20 1 0 k)) 5 (.sl 21 1 0 k)) 6 (tI q)) 7 (.sl x.2 4 0 ((L q).length+x.1))) 8 (tI x.1)) (fun x=>upd (hQF k L κ q) x.2 (some (rSF (mkL mFx q ((L q).length+x.1))))) (fun x=>alP true (2000+64*q+x.1)) (fun x=>64 - x.1) (0,q+100) ⟨zbs _,.inl rfl⟩ (Sub.int rfl rfl (zan rfl (zan rfl (zan rfl (zan rfl zay))))) (zaq (qg8 hn hκ hq') .refl SubK.refl) (zaj (zak (by show (alP true (2000+64*q+0) (q+100) && true)=true;rw [xh2 (by omega) (by omega)];rfl) (zaj (zak rfl (zak rfl zar))))) (qe7 hκ hn (by omega) (by omega) (by omega)) (lkP (by omega)) ?_;rintro ⟨i,v⟩ ⟨hi,hv⟩;replace hi:i<=64:=hi;replace hv:v=q+100∨2000+64*q<=v/\v < 2000+64*q+i:=hv;have h20:upd (hQF k L κ q) v (some (rSF (mkL mFx q ((L q).length+i)))) 20=some ⟨71,1,false,owns k 4 fun j=>(L j).length⟩:=by
    rw [x4 _ _ _ (by omega)];exact yq8 hκ
   show wc _ _ _ _ (uV (uO (uV (uO (uO uN 0 (.sl 20 1 0 k)) 5 (.sl 21 1 0 k)) 6 (tI q)) 7 (.sl v 4 0 ((L q).length+i))) 8 (tI i)) (upd (hQF k L κ q) v (some (rSF (mkL mFx q ((L q).length+i))))) (alP true (2000+64*q+i));refine A6 ?_;refine xa6 rfl (fun h4=> ?_) (fun h4=> ?_)
   ·
    have hi':i < 64:=by omega
    refine A3 ?_;refine xe4 ?_;refine xe3 ?_;refine xu5 [_,_,_,_,_,_,_,_,_,_,_] ?_;refine A4 ?_;refine R2 (zag sl93 rfl) rfl rfl (RE (x7 (q) ti71 (xd3 hq') (by omega)) qA ⟨h20,trivial⟩ trivial ?_);refine A3 ?_;refine R2 (x3 (xn0 q ((L q).length+i) (by omega) (by omega)) fi298 rfl) rfl rfl (R1 (xb6 (n:=1) (f:=tFx) [mFx q ((L q).length+i)] zhc el41 zf41 rfl (fun _=>inferInstance) rfl rfl rfl) rfl (yv5 (by kernel_rfl) ?_));refine yc3 (k':=2000+64*q+i) (f:=tFx) (ys:=[mFx q ((L q).length+i)]) zhc el41 zf41 rfl rfl (fun _=>inferInstance) rfl rfl (x6 _ _ _) (yt7 (by omega)) (xe0.trans xi4) (by simp;omega) (by simp;omega) (by simp) rfl (fun b=> ?_);refine xa5 xb8 qA trivial trivial rfl (xd1 ?_);refine A7 ?_;have hv':cond b v (2000+64*q+i)=v∨cond b v (2000+64*q+i)=2000+64*q+i:=by cases b;exact .inr rfl;exact .inl rfl
    generalize cond b v (2000+64*q+i)=v' at hv' ⊢;exact fun _ _ hs=>xv8 (i+1,v') ⟨⟨by show i+1<=64;omega,by show v'=q+100∨2000+64*q<=v'/\v' < 2000+64*q+(i+1);omega⟩,by show 64 - (i+1) < 64 - i;omega⟩ (Sub.int rfl rfl (zan rfl (zan rfl (zan rfl (zan rfl zay))))) (by
     show SubK (upd (hQF k L κ q) v' (some (rSF (mkL mFx q ((L q).length+i+1))))) _;rw [<-jp4];exact SubK.over fun y hy=>by
      rcases hv with rfl | hv
      ·rw [qg8 hn hκ hq'] at hy;cases hy;exact ⟨rfl,qh6 (by omega)⟩
      ·rw [jm2 hκ hn hv.1] at hy;cases hy) (zaj (zak (by show (alP true (2000+64*q+(i+1)) v' && true)=true;rw [xh2 (by omega) (by omega)];rfl) (zaj (zak rfl (zak rfl zar))))) (qe7 hκ hn (by omega) (by show 2000+64*q<=2000+64*q+(i+1);omega) (by show 100<=v'/\v' < 2000+64*q+(i+1);omega)) (lkP (by omega)) hs
   ·
    have hi64:i=64:=by omega
    subst hi64;have h21:upd (hQF k L κ q) v (some (rSF (mkL mFx q ((L q).length+64)))) 21=some ⟨71,1,false,gsR k 4 κ (fun j=>(L j).length+64) tN0F q⟩:=by
     rw [x4 _ _ _ (by omega)];exact zb7 hκ
    refine A9 ?_;refine R2 (zag sl93 rfl) rfl rfl (RE (xa8 (e:= .own (.sl v 4 0 ((L q).length+64))) (q) ti71 (by rw [xt8];simpa using hq') (by omega) (yc1 (len:=fun j=>(L j).length+64) (v:=v) hq')) qB ⟨h21,trivial⟩ trivial ?_);refine A8 ?_;exact fun _ _ hs=>xv8 (q+1,setN κ q v) ⟨⟨by show q+1<=k;omega,yc0 hκ hv⟩,by show k - (q+1) < k - q;omega⟩ (Sub.int rfl rfl (zan rfl (zan rfl zay))) (by exact jd6 hκ (by omega)) (zaj (zak rfl (zak rfl zar))) (by exact xs8 (yc0 hκ hv) hn (by omega) (by omega)) (lkP (by omega)) hs
  ·
   have hqk:q=k:=by omega
   subst hqk;refine A12 ?_;refine xf6 (fun j:Nat=>j<=q) (fun j=>uV (uO (uO uN 0 (.sl 20 1 0 q)) 5 (.sl 21 1 0 q)) 9 (tI j)) (fun _=>hQF q L κ q) (alP true (2000+64*q)) (fun j=>q - j) 0 (zbs _) (Sub.int rfl rfl (zan rfl (zan rfl zay))) SubK.refl (zaj (zak rfl (zak rfl zar))) (xs8 hκ hn (by omega) (by omega)) (lkP (by omega)) ?_;intro j hj;refine A9 ?_;refine xa6 rfl (fun h5=> ?_) (fun h5=> ?_)
   ·
    have hj':j < q:=by omega
    have hLj:=hL j;refine A9 ?_;refine xe4 ?_;refine xf6 (fun i:Nat=>i<=(L j).length+64) (fun i=>uV (uV (uO (uO uN 0 (.sl 20 1 0 q)) 5 (.sl 21 1 0 q)) 9 (tI j)) 10 (tI i)) (fun _=>hQF q L κ q) (alP true (2000+64*q)) (fun i=>(L j).length+64 - i) 0 (zbs _) (Sub.int rfl rfl (zan rfl (zan rfl (zan rfl zay)))) SubK.refl (zaj (zaj (zak rfl (zak rfl zar)))) (xs8 hκ hn (by omega) (by omega)) (lkP (by omega)) ?_;intro i hi;obtain ⟨m,hm,hls⟩:=qq0 (L:=L) hn (zbm q) hκ hj';refine A6 ?_;refine R2 (zag sl93 rfl) rfl rfl (RE (x7 (j) ti71 (xr2 hj' hj') (by omega)) qA ⟨zb7 hκ,trivial⟩ trivial ?_);refine A3 ?_;refine xa6 rfl (fun h6=> ?_) (fun h6=> ?_)
    ·
     refine A8 ?_;refine R2 (zag sl93 rfl) rfl rfl (RE (x7 (j) ti71 (xr2 hj' hj') (by omega)) qA ⟨zb7 hκ,trivial⟩ trivial ?_);refine A1 ?_;refine R2 (zag sl71 rfl) rfl rfl (RE (x7 (i) ti41 (zj7 (by omega)) (by omega)) qA ⟨qp9 hn (zbm q) hκ hj',trivial⟩ trivial ?_);refine A2 ?_;refine R2 (x3 (xn0 j i (by omega) (by omega)) fi298 rfl) rfl rfl (R2 (x3 (y5 _ _) fi86 rfl) rfl rfl ?_);refine A5 ?_;refine Rg rfl rfl (zag sl93 rfl) rfl qB (RGon rfl rfl (x7 (j) ti71 (xd3 hj') (by omega)) rfl qA ⟨yq8 hκ,trivial⟩ trivial (Rg rfl rfl zd1 rfl qA ?_));refine A2 ?_;refine RGcaseD (t:=108) rfl (fun h7=> ?_) (fun h7=> ?_)
     ·
      refine A2 ?_;refine Rg (zbg h7) rfl (zag sl93 rfl) rfl qB (RGon (zbg h7) rfl (x7 (j) ti71 (xd3 hj') (by omega)) rfl qA ⟨yq8 hκ,trivial⟩ trivial ?_);refine A1 ?_;refine Rg (zbg h7) rfl (zag sl71 rfl) rfl qB (RGon (zbg h7) rfl (x7 (i) ti41 (zj7 (by omega)) (by omega)) rfl qA ⟨hls,trivial⟩ trivial ?_);refine A2 ?_;refine Rg (zbg h7) rfl (x3 (xn0 j i (by omega) (by omega)) fi298 rfl) rfl qB (Rg (zbg h7) rfl (x3 (y5 _ _) fi86 rfl) rfl qB ?_);refine A1 ?_;refine Rg rfl rfl (xm0 (zbg h7)) rfl qB (R2 (xc8 rfl) rfl rfl ?_);refine A1 ?_;refine xi9 rfl rfl ?_;refine A8 ?_;exact xg8 (i+1) ⟨by omega,by omega⟩ (Sub.int rfl (by omega) (zan rfl (zan rfl (zan rfl zay)))) SubK.refl (zaj (zaj (zak rfl (zak rfl zar)))) (xs8 hκ hn (by omega) (by omega)) (lkP (by omega))
     ·
      refine RGoff (zbf h7) rfl rfl (RGoff (zbf h7) rfl rfl (RGoff (zbf h7) rfl rfl (RGoff (zbf h7) rfl rfl (RGoff (zbf h7) rfl rfl (RGoff (zbf h7) rfl rfl (RGoff (zbf h7) rfl rfl (RGoff (zbf h7) rfl rfl (RGoff (zbf h7) rfl rfl (RGoff (zbf h7) rfl rfl (RGoff (zbf h7) rfl rfl (RGoff (zbf h7) rfl rfl (Rg rfl rfl (xc8 (zbf h7)) rfl qB (R2 (xc8 rfl) rfl rfl ?_)))))))))))));refine A1 ?_;refine xi9 rfl rfl ?_;refine A8 ?_;exact xg8 (i+1) ⟨by omega,by omega⟩ (Sub.int rfl (by omega) (zan rfl (zan rfl (zan rfl zay)))) SubK.refl (zaj (zaj (zak rfl (zak rfl zar)))) (xs8 hκ hn (by omega) (by omega)) (lkP (by omega))
    ·
     refine A11 ?_;exact xg8 (j+1) ⟨by omega,by omega⟩ (Sub.int rfl (by omega) (zan rfl (zan rfl zay))) SubK.refl (zaj (zak rfl (zak rfl zar))) (xs8 hκ hn (by omega) (by omega)) (lkP (by omega))
   ·
    clear h5 hj;refine A12 ?_;refine xr0 (ι:=Nat×(Nat->Nat)) (fun x=>x.1<=q/\ ∀j,j < x.1->okM q j (x.2 j)) (fun x=>uV (uO (uO uN 0 (.sl 20 1 0 q)) 5 (.sl 21 1 0 q)) 11 (tI x.1)) (fun x=>hRF q L κ x.2 x.1) (fun x=>alP true (2000+64*q+x.1)) (fun x=>q - x.1) (0,fun _=>0) ⟨zbs _,fun j h=>by cases h⟩ (Sub.int rfl rfl (zan rfl (zan rfl zay))) (hR_0F hn hκ) (zaj (zak rfl (zak rfl zar))) (xt4 hκ (fun j h=>by cases h) hn (zbs _) (by omega)) (lkP (by omega)) ?_;rintro ⟨j,κ2⟩ ⟨hj,hκ2⟩;replace hj:j<=q:=hj;replace hκ2: ∀i,i < j->okM q i (κ2 i):=hκ2;show wc _ _ _ _ (uV (uO (uO uN 0 (.sl 20 1 0 q)) 5 (.sl 21 1 0 q)) 11 (tI j)) (hRF q L κ κ2 j) (alP true (2000+64*q+j));refine A9 ?_;refine xa6 rfl (fun h5=> ?_) (fun h5=> ?_)
    ·
     have hj':j < q:=by omega
     have hLj:=hL j;refine A6 ?_;refine RE (xe5 (k:=22) (t:=tFx fx0) (ts:=rV tFx (fSF (j+q) 0)) 64 64 zhc el41 (fun F w=>tFx_mk) rfl rfl rfl (zbm _) (by decide) (by decide) fS_0F) qB trivial ⟨zq8,trivial⟩ ?_;refine A10 ?_;refine xf6 (fun i:Nat=>i<=64) (fun i=>uV (uO (uV (uO (uO uN 0 (.sl 20 1 0 q)) 5 (.sl 21 1 0 q)) 11 (tI j)) 12 (.sl 22 4 0 64)) 13 (tI i)) (fun i=>upd (hRF q L κ κ2 j) 22 (some (rSF (fSF (j+q) i)))) (alM (2000+64*q+j)) (fun i=>64 - i) 0 (zbs _) (Sub.int rfl rfl (zan rfl (zan rfl (zan rfl (zan rfl zay))))) SubK.refl (zaj (zak rfl (zaj (zak rfl (zak rfl zar))))) (zw9 (xt4 hκ hκ2 hn (by omega) (by omega))) (yj7 (lkP (by omega))) ?_;intro i hi;refine A6 ?_;refine xa6 rfl (fun h6=> ?_) (fun h6=> ?_)
     ·
      refine A12 ?_;refine R2 (x3 (xn0 (j+q) i (by omega) (by omega)) fi298 rfl) rfl rfl (R2 (zag sl71 rfl) rfl rfl (RE (xa8 (e:= .val (tFx (mFx (j+q) i))) (i) ti41 (xn4 (f:=tFx) (xs:=fSF (j+q) i) (by rw [xr7];omega)) (by omega) (xm8 (f:=tFx) (m:=mFx (j+q) i) rfl)) qB ⟨x6 _ _ _,trivial⟩ trivial ?_));refine A8 ?_;exact xg8 (i+1) ⟨by omega,by omega⟩ (Sub.int rfl (by omega) (zan rfl (zan rfl (zan rfl (zan rfl zay))))) (by rw [<-jq3 (by omega)];exact SubK.twice) (zaj (zak rfl (zaj (zak rfl (zak rfl zar))))) (zw9 (xt4 hκ hκ2 hn (by omega) (by omega))) (yj7 (lkP (by omega)))
     ·
      have hi64:i=64:=by omega
      subst hi64;refine A5 ?_;have hown: ∀r,upd (upd (hRF q L κ κ2 j) 22 r) 22 none (j+100)=some (rSF (mkL mFx j (L j).length)):=fun r=>by
       rw [x4 _ _ _ (by omega),x4 _ _ _ (by omega)];exact jk4 hn hκ2 hj'
      have hgs: ∀r v r',100<=v->upd (upd (upd (hRF q L κ κ2 j) 22 r) 22 none) v r' 21=some ⟨71,1,false,gsR q 4 κ2 (fun j=>(L j).length+64) (tKF L κ) j⟩:=fun r v r' hv=>by
       rw [x4 _ _ _ (by omega),x4 _ _ _ (by omega),x4 _ _ _ (by omega)];exact qq8 hκ2
      refine zi1 (t:=12) (k:=22) (f:=tFx) (xs:=fSF (j+q) 64) rfl (x6 _ _ _) (fun b hb=>jh2 hκ2 hj hb) (xn8 xr7) xr7 ?_;refine xe3 ?_;refine xu5 [_,_,_,_,_,_,_] ?_;refine A4 ?_;refine R2 (zag sl93 rfl) rfl rfl (RE (x7 (j) ti71 (xd3 hj') (by omega)) qA ⟨(x4 _ _ _ (by omega)).trans ((x4 _ _ _ (by omega)).trans (zg2 hκ2)),trivial⟩ trivial ?_);refine A1 ?_;refine yv5 (by kernel_rfl) ?_;refine yc3 (k':=2000+64*q+j) (f:=tFx) (ys:=fSF (j+q) 64) zhc el41 zf41 rfl rfl (fun _=>inferInstance) rfl rfl (hown _) (zj6 (by omega)) (xe0.trans xi4) (by rw [xr7];omega) (by rw [xr7];omega) (by rw [xr7];omega) rfl (fun b=> ?_);have hv':okM q j (cond b (j+100) (2000+64*q+j)):=by cases b;exact .inr rfl;exact .inl rfl
      generalize cond b (j+100) (2000+64*q+j)=v' at hv' ⊢;rw [xr7];have hvb:100<=v'/\v'<=2000+64*q+j:=by rcases hv' with h | h <;> omega
      refine xa5 (zag sl93 rfl) qB trivial trivial rfl (xa5 (xa8 (e:= .own (.sl v' 4 0 ((L j).length+64))) (j) ti71 (by rw [xt8];simpa using hj') (by omega) (yc1 (len:=fun j=>(L j).length+64) (v:=v') hj')) qB ⟨hgs _ _ _ hvb.1,trivial⟩ trivial rfl (xd1 ?_));refine A7 ?_;exact fun _ _ hs=>xv8 (j+1,setN κ2 j v') ⟨⟨by show j+1<=q;omega,yc4 hκ2 hv'⟩,by show q - (j+1) < q - j;omega⟩ (Sub.int rfl rfl (zan rfl (zan rfl zay))) (by exact jg7 hκ2 hvb.1) (zaj (zak rfl (zak rfl zar))) (by exact xt4 hκ (yc4 hκ2 hv') hn (by omega) (by omega)) (lkP (by omega)) hs
    ·
     have hjq:j=q:=by omega
     subst hjq;clear h5 hj;refine A12 ?_;refine xf6 (fun t:Nat=>t<=j) (fun t=>uV (uO (uO uN 0 (.sl 20 1 0 j)) 5 (.sl 21 1 0 j)) 14 (tI t)) (fun _=>hRF j L κ κ2 j) (alP true (2000+64*j+j)) (fun t=>j - t) 0 (zbs _) (Sub.int rfl rfl (zan rfl (zan rfl zay))) SubK.refl (zaj (zak rfl (zak rfl zar))) (xt4 hκ hκ2 hn (by omega) (by omega)) (lkP (by omega)) ?_;intro t ht;refine A9 ?_;refine xa6 rfl (fun h5=> ?_) (fun h5=> ?_)
     ·
      have ht':t < j:=by omega
      have hLt:=hL t;obtain ⟨xs,hls,hxs⟩:=hR_lsF (L:=L) (κ:=κ) hn hκ2 ht';refine A9 ?_;refine xe4 ?_;refine xf6 (fun i:Nat=>i<=(L t).length) (fun i=>uV (uV (uO (uO uN 0 (.sl 20 1 0 j)) 5 (.sl 21 1 0 j)) 14 (tI t)) 15 (tI i)) (fun _=>hRF j L κ κ2 j) (alP true (2000+64*j+j)) (fun i=>(L t).length - i) 0 (zbs _) (Sub.int rfl rfl (zan rfl (zan rfl (zan rfl zay)))) SubK.refl (zaj (zaj (zak rfl (zak rfl zar)))) (xt4 hκ hκ2 hn (by omega) (by omega)) (lkP (by omega)) ?_;intro i hi;refine A6 ?_;refine R2 (zag sl93 rfl) rfl rfl (RE (x7 (t) ti71 (xd3 ht') (by omega)) qA ⟨zg2 hκ2,trivial⟩ trivial ?_);refine A3 ?_;refine xa6 rfl (fun h6=> ?_) (fun h6=> ?_)
      ·
       have hi':i < (L t).length:=by omega
       refine A8 ?_;refine R2 (zag sl93 rfl) rfl rfl (RE (x7 (t) ti71 (xd3 ht') (by omega)) qA ⟨zg2 hκ2,trivial⟩ trivial ?_);refine A1 ?_;refine R2 (zag sl71 rfl) rfl rfl (RE (x7 (i) ti41 (hxs i hi') (by omega)) qA ⟨hls,trivial⟩ trivial ?_);refine A2 ?_;refine R2 (x3 (xn0 t i (by omega) (by omega)) fi298 rfl) rfl rfl (R2 (x3 (y5 _ _) fi86 rfl) rfl rfl ?_);refine A4 ?_;refine Rg rfl rfl (zag sl93 rfl) rfl qB (RGon rfl rfl (x7 (t) ti71 (xr2 ht' ht') (by omega)) rfl qA ⟨qq8 hκ2,trivial⟩ trivial ?_);refine A1 ?_;refine Rg rfl rfl (zag sl71 rfl) rfl qB (RGon rfl rfl (x7 (i) ti41 (qe2 hi') (by omega)) rfl qA ⟨qu1 hn hκ2 ht',trivial⟩ trivial ?_);refine A2 ?_;refine Rg rfl rfl (x3 (xn0 t i (by omega) (by omega)) fi298 rfl) rfl qB (Rg rfl rfl (x3 (y5 _ _) fi86 rfl) rfl qB ?_);refine A1 ?_;refine R2 (xc8 rfl) rfl rfl ?_;refine A1 ?_;refine xi9 rfl rfl ?_;refine A8 ?_;exact xg8 (i+1) ⟨by omega,by omega⟩ (Sub.int rfl (by omega) (zan rfl (zan rfl (zan rfl zay)))) SubK.refl (zaj (zaj (zak rfl (zak rfl zar)))) (xt4 hκ hκ2 hn (by omega) (by omega)) (lkP (by omega))
      ·
       refine A11 ?_;exact xg8 (t+1) ⟨by omega,by omega⟩ (Sub.int rfl (by omega) (zan rfl (zan rfl zay))) SubK.refl (zaj (zak rfl (zak rfl zar))) (xt4 hκ hκ2 hn (by omega) (by omega)) (lkP (by omega))
     ·
      refine A11 ?_;exact xg3 LentC.mk' rfl rfl Imp.refl trivial rfl trivial rfl
end An.S
namespace An
open Go
section
variable {P:Program} {c:Base} {d ty:Nat} {pos:String} {af:Array Edge} {gd:Option (Nat×Bool)}
end
section
variable {P:Program} {c:Base} {d ty:Nat} {pos:String} {af:Array Edge} {gd:Option (Nat×Bool)}
theorem qt0 {T n k:Nat} {x:Operand} {cs:Array Value} (zs:List Value) (hc:cs.toList=zs) (hn:zs.length=n) (h63:Nat.ble n 9223372036854775807=true) {ts:List Ent} (hts:zs.map (fun v=>Ent.val (tE v))=ts):
  Does P c ⟨some d,.box T x,ty,pos,af,gd⟩ ⟨[(x,.val (tE (.agg cs)))],[],some (d,some (.own (.ptr k 0))),[(k,some ⟨T,1,false,ts⟩)],[k]⟩:=by
 intro g h al a w hp ⟨η,s⟩;subst hts hc;have hx:a.eval x= .agg cs:=(xa7 s hp.rd.1).1;have hnew:=s.new k hp.nk.1 ⟨T,1,false,cs.toList.map (fun v=>Ent.val (tE v))⟩ cs n (by rw [<-hn];simp) (by simp [<-hn]) Nat.one_pos (fun _=>rfl) (zdm h63)
  (fun j hj=>by
   simp only [HEnt.supp,zbw,zcb] at hj;obtain ⟨e,⟨v,_,rfl⟩,hj⟩:=hj;cases hj) (fun i e' hi=>by
   simp only [zbp,zdo] at hi;obtain ⟨v,hv,rfl⟩:=hi;show pick false 1 cs (i*1)=v;have hv':cs[i]? =some v:=by simpa using hv
   simp [pick,hv'])
 have hcc:(a.eval x).cells=cs:=by rw [hx];rfl
 have hr:(execOp a.eval ⟨some d,.box T x,ty,pos,af,gd⟩).run P w= .ok (.value (.pointer (some ⟨w.heap.size,0,none⟩))) {w with heap:=w.heap.push (.cells (a.eval x).cells T)}:=by
  simp [execOp,Instr.box,newVar,newRow,newObj,Sem.run,go_sem]
 rw [hcc] at hr;refine xe1 hr ?_;refine ⟨_,hnew.put (hp.d _ rfl) ?_ ?_⟩
 ·show _=_;simp [Env.set_b]
 ·intro j hj;simp only [Ent.supp,VP.supp,zbq] at hj;subst hj;simp
end
section
variable {P:Program} {c:Base} {g:Slots} {h:Keys} {al:Names} {Q:Exit->Act->World->Prop}
theorem wl_imp {A:Array Oper} {rest:List Oper} {t:Nat} {e e':Ent} (hg:g t=some e) (hi:Imp e e') (hs: ∀k∈e'.supp,k∈e.supp) (H:wl P c A Q rest (upd g t (some e')) h al):wl P c A Q rest g h al:=fun a w ⟨η,s⟩=>
 H a w ⟨η,⟨s.tn,s.df,fun q y hy=>by
  by_cases hq:q=t
  ·subst hq;rw [x6] at hy;cases hy;obtain ⟨h1,h2,h3⟩:=s.slot q e hg;exact ⟨h1,fun k hk=>h2 k (hs k hk),hi _ _ _ _ h3⟩
  ·rw [x4 _ _ _ hq] at hy;exact s.slot q y hy,s.key,s.inj,s.fr,s.lk,s.pin,s.vol,s.yal,s.jj,s.lbl⟩⟩
end
section
variable {P:Program} {c:Base} {d ty:Nat} {pos:String} {af:Array Edge} {gd:Option (Nat×Bool)} {X:OvJ}
theorem jb4 {f:FuncId} {xs:List Operand} {aT:Array TypeId} {H H' h1 h2:List (Nat×HEnt)} {ps ps':List Ent} {re:Ent} {nn:List Nat} {w0:World} {η0:Env} {H0:List (Nat×HEnt)} {K n:Nat} (ρ:Nat->Nat) (hp:OvC c w0 η0 H0 K X) (hc:CtG P f H ps re H' nn) (hf:FnI P f) (hl:xs.length=ps'.length)
  (hand: ∀(F:Dom) (w:World) (η:Env) (vs:List Value),X.J n w->SatL F w η ps' vs->SatL (fun b=>F b∨X.D b) w η ps vs) (e1:H.map (fun x=>(ρ x.1,x.2.ren ρ))=h1) (e2:H'.map (fun x=>(ρ x.1,x.2.ren ρ))=h2) (hw: ∀x∈H',∀e∈x.2.ts,Wk e e) (hre:Wk re re)
  (hsH:SupHs H' (nn++(suppE ps'++H.map (·.1)))) (hok:gB ρ H H' re ps' nn c.yk=true):
  Does P c ⟨some d,.call {callee:= .value (.func f),args:=xs.toArray,argTypes:=aT},ty,pos,af,gd⟩ ⟨xs.zip (ps'.map (Ent.ren ρ)),(K,⟨n,1,false,[]⟩)::h1,some (d,some (re.ren ρ)),H.map (fun x=>(ρ x.1,none))++h2.map (fun x=>(x.1,some x.2)),nn.map ρ⟩:=by
 rw [<-yj6 e2,<-e1];intro g h al a w hpre ⟨η,s⟩;obtain ⟨fn,f1,f2,f3⟩:=hf;obtain ⟨hsat,hal⟩:=SatL.of s xs ps' hpre.rd hl;have hrun:(execOp a.eval ⟨some d,.call {callee:= .value (.func f),args:=xs.toArray,argTypes:=aT},ty,pos,af,gd⟩).run P w= .ok (.enter f (xs.map a.eval).toArray) w:=by
  simp only [execOp,resolve,Act.eval,Deferred.ofValue,zbu,zbv,zbo,invoke];simp only [zeu,zef,zdn];exact xe7 f1 f2 f3 _ w
 have hKk:h K=some ⟨n,1,false,[]⟩:=hpre.kr.1;have hj:=s.jj K _ hp.yk hKk;have hj:c.J n _ _ w:=hj;rw [hp.J] at hj;have hH':=Kr.ren (h:=h) (ρ:=ρ) (H:=H) hpre.kr.2;have hnn:=Nk.ren hpre.nk;simp only [gB,zcf] at hok;have hps: ∀k∈suppE ps',al (ρ k)=true:=fun k hk=>hal _ (xk9 hk);have hall:AllK (fun b=>c.dom h η b∨X.D b) w (η.pre ρ) H:=fun x hx=>HEnt.sat_go (HEnt.sat_ren.1 (s.key _ _ (hH' x hx)).2.2.1) (fun _=>rfl) (fun _ _ hb hl _=>⟨.inl hb,hl⟩) ⟨rfl,rfl⟩ fun _ _=>⟨rfl,rfl⟩
 have hownH: ∀b,OwnK (η.pre ρ) H b->Own h η b:=by
  rintro b ⟨x,hx,hcx,rfl⟩;exact ⟨ρ x.1,_,hH' x hx,hcx,rfl⟩
 refine xh4 hrun (zfc (hc (fun b=>c.dom h η b∨X.D b) w (η.pre ρ) (xs.map a.eval) (hand _ _ _ _ hj.1 hsat) hall (fun x hx y hy hne hcx hcy=> ?_) (fun b hb ho=> ?_)) ?_)
 ·exact s.inj (ρ x.1) (ρ y.1) _ _ (hH' x hx) (hH' y hy) (xm6 hok.1.1.2 x.1 y.1 (zcr hx) (zcr hy) hne) hcx hcy
 ·rcases hb with hb | hb
  ·exact hb.2.1 (hownH b ho)
  ·exact (hj.2 b hb).2.1 (.inl (hownH b ho))
 ·rintro e w' ⟨v,η',rfl,hout⟩;have hout':Out (c.dom h η) w (η.pre ρ) H re H' nn v w' η':=⟨hout.stp,hout.same,hre.sat hout.res ⟨rfl,rfl⟩,fun x hx=>by
   obtain ⟨p1,p2,p3,p4,p5⟩:=hout.keys x hx;refine ⟨p1,p2,p3,p4,fun hc0=> ?_⟩;obtain ⟨cs,c1,c2,c3⟩:=p5 hc0;exact ⟨cs,c1,c2,fun j e he=>(hw x hx e (zdc he)).sat (c3 j e he) ⟨rfl,rfl⟩⟩,hout.inj,hout.new⟩
  obtain ⟨s',hres⟩:=s.back ρ hH' hout' hnn hok.1.1.1 (fun k hk=>by
   have hm:k∈nn++(suppE ps'++H.map (·.1)):=by
    rcases zbj.1 hk with hk | hk
    ·exact xf7 hok.1.2 k hk
    ·exact hsH.spec k hk
   simp only [zbj] at hm;rcases hm with hm | hm | hm
   ·exact .inl hm
   ·exact .inr (hps k hm)
   ·right;obtain ⟨x,hx,rfl⟩:=zcb.1 hm;exact (s.key _ _ (hH' x hx)).1) hok.2
  refine ⟨v,rfl,zd7 ⟨_,s'.put (hpre.d _ rfl) hres fun k hk=> ?_⟩⟩;cases re with
  | val t=>cases hk
  | own p=>
   obtain ⟨j,hj,rfl⟩:=VP.ren_supp1 p k hk;have hm:=xf7 hok.1.2 j hj;rw [zbj,zbj] at hm;rcases hm with hm | hm | hm
   ·rw [xb5.2 (zcr hm)];rfl
   ·rw [hps j hm,Bool.or_true]
   ·obtain ⟨x,hx,rfl⟩:=zcb.1 hm;rw [(s.key _ _ (hH' x hx)).1,Bool.or_true]
end
end An
namespace An
open Go
theorem HdOk.lxp {α:Type} {T es:Nat} {agg:Bool} {f:α->Ty} {u:Hd} {xs:List α} {D:Dom} {w:World} (hf: ∀x,Free (f x)) (hD: ∀b,u.b=some b->D b) (h:HdOk w u ⟨T,es,agg,rV f xs⟩):(tLX T es agg f u xs []).p D w u.v:=by
 obtain ⟨h1,h2,h3,h4,h5,_,h7⟩:=h;have h1:u.n=xs.length:=by simpa [rV] using h1
 refine ⟨rfl,h1,by rw [List.length_nil];omega,h3,h4,h5,fun h0=> ?_⟩;obtain ⟨b,cs,e1,e2,e3,e4⟩:=h7 h0;refine ⟨b,cs,e1,hD b (by simp [Hd.b,e1,h0]),e2,e3,fun i x hi=> ?_⟩;rw [zfg] at hi;exact hf x _ _ _ _ _ (e4 i (f x) (by simp [rV,hi]))
theorem qk3 {T:Nat} {vs:List Hd} {u:Hd} {t:Ty} (h:Le t (tH u)):ImpK ⟨T,1,false,rV tH vs++[.val t]⟩ ⟨T,1,false,rV tH (vs++[u])⟩:= .ts (by simp [rV]) fun i e he=>by
 simp only [rV,zer,zcx,zfn] at he ⊢;rcases zcs i vs.length with hi | hi
 ·rw [zda (by simpa using hi)] at he ⊢;exact ⟨e,he,.refl⟩
 ·rw [zds (by simpa using hi)] at he ⊢;simp only [zcq] at he ⊢;cases hj:i - vs.length with
  | zero=>
   rw [hj] at he;cases he;exact ⟨_,rfl,.le h⟩
  | succ j=>rw [hj] at he;simp at he
theorem SepH.swap {us vs:List Hd} (h:SepH (us++vs)):SepH (vs++us):=by
 obtain ⟨h1,h2,h3⟩:=zem.1 h;exact zem.2 ⟨h2,h1,fun u hu v hv b hb e=>h3 v hv u hu b e hb⟩
theorem WkL.nil:WkL [] []:=⟨rfl,fun _ _ he=>by simp at he⟩
theorem WkL.cons {e e':Ent} {r r':List Ent} (h:Wk e e') (hr:WkL r r'):WkL (e::r) (e'::r'):=⟨by simp [hr.1],fun i x hx=>by
 cases i with
 | zero=>simp only [zcm,zca] at hx ⊢;subst hx;exact ⟨e,rfl,h⟩
 | succ j=>simp only [List.getElem?_cons_succ] at hx ⊢;exact hr.2 j x hx⟩
theorem WkL.map {α β:Type} {f:α->Ty} {f':β->Ty} {k:α->β} {xs:List α} (h: ∀x,Le (f x) (f' (k x))) (hf: ∀x,Free (f' x)):WkL (rV f xs) (rV f' (xs.map k)):=by
 have h2:=wk_rV (f:=f) (f':=fun x=>f' (k x)) (xs:=xs) h fun x=>hf (k x)
 rwa [show rV (fun x=>f' (k x)) xs=rV f' (xs.map k) by simp [rV]] at h2
section
variable {c:Base} {g:Slots} {h:Keys}
theorem WitSt.keyAt {k T es i:Nat} {agg:Bool} {t:Ty} {ts:List Ent} {us:List Hd} (hk:h k=some ⟨T,es,agg,ts⟩) (hi:ts[i]? =some (.val t)) (ht:WitT t us):WitSt c g h us:=fun al a w η st u hu b hb=>by
 obtain ⟨_,_,⟨h3,_,_,_,h7⟩,_⟩:=st.key k _ hk;have hil:=(zbi.1 hi).1;have hc:0 < η.c k:=by simp only at h3;omega
 obtain ⟨cs,_,_,m⟩:=h7 hc;exact ht _ _ _ (m i (.val t) hi) u hu b hb
theorem ItG.keyAt {k T es i:Nat} {agg:Bool} {t:Ty} {ts:List Ent} {us:List (Hd×HEnt)} (hk:h k=some ⟨T,es,agg,ts⟩) (hi:ts[i]? =some (.val t)) (ht:ItT t us):ItG c g h us:=fun al a w η st u hu=>by
 obtain ⟨_,_,⟨h3,_,_,_,h7⟩,_⟩:=st.key k _ hk;have hil:=(zbi.1 hi).1;have hc:0 < η.c k:=by simp only at h3;omega
 obtain ⟨cs,_,_,m⟩:=h7 hc;exact ht _ _ _ (m i (.val t) hi) u hu
theorem zs8 {α β:Type}: ∀{qs:List (α×β)},(qs.flatMap fun q=>[q.1])=qs.map (·.1)
 | []=>rfl
 | q::r=>by rw [zdu,zs8 (qs:=r)];rfl
end
theorem C_imp {P:Program} {c:Base} {g:Slots} {h:Keys} {al:Names} {Q:Exit->Act->World->Prop} {x:Code} {t:Nat} {e e':Ent} (hg:g t=some e) (hi:Imp e e') (hs: ∀k∈e'.supp,k∈e.supp) (H:wc P c x Q (upd g t (some e')) h al):wc P c x Q g h al:=fun a w ⟨η,s⟩=>
 H a w ⟨η,⟨s.tn,s.df,fun q y hy=>by
  by_cases hq:q=t
  ·subst hq;rw [x6] at hy;cases hy;obtain ⟨n1,n2,n3⟩:=s.slot q _ hg;exact ⟨n1,fun k hk=>n2 k (hs k hk),hi _ _ _ _ n3⟩
  ·rw [x4 _ _ _ hq] at hy;exact s.slot q y hy,s.key,s.inj,s.fr,s.lk,s.pin,s.vol,s.yal,s.jj,s.lbl⟩⟩
theorem NoLb.ov' {N K:Nat} {w0:World} {F:Dom} {X:OvJ}:NoLb (ovb N w0 F K X):=fun _ hh=>by obtain ⟨y,hy,_⟩:=hh;cases hy
theorem jq0:Free (tT []):=fun _ _ _ _ _ ⟨vs,h1,h2⟩=>⟨vs,h1,by cases vs with
 | nil=>trivial
 | cons=>exact h2.elim⟩
end An
namespace An.S
open Go Go.Proofs An Tryz
instance ti77:TyI Tryz.prog 77 1 false:=⟨by kernel_rfl,by kernel_rfl⟩
instance ti93:TyI Tryz.prog 93 1 false:=⟨by kernel_rfl,by kernel_rfl⟩
instance ti122:TyI Tryz.prog 122 1 false:=⟨by kernel_rfl,by kernel_rfl⟩
instance ti133:TyI Tryz.prog 133 1 false:=⟨by kernel_rfl,by kernel_rfl⟩
instance ti166:TyI Tryz.prog 166 1 false:=⟨by kernel_rfl,by kernel_rfl⟩
instance ti167:TyI Tryz.prog 167 1 false:=⟨by kernel_rfl,by kernel_rfl⟩
instance ti168:TyI Tryz.prog 168 1 false:=⟨by kernel_rfl,by kernel_rfl⟩
instance ti169:TyI Tryz.prog 169 1 false:=⟨by kernel_rfl,by kernel_rfl⟩
instance ti170:TyI Tryz.prog 170 1 false:=⟨by kernel_rfl,by kernel_rfl⟩
instance ti171:TyI Tryz.prog 171 1 false:=⟨by kernel_rfl,by kernel_rfl⟩
instance ti172:TyI Tryz.prog 172 1 false:=⟨by kernel_rfl,by kernel_rfl⟩
instance ti173:TyI Tryz.prog 173 1 false:=⟨by kernel_rfl,by kernel_rfl⟩
instance ti174:TyI Tryz.prog 174 1 false:=⟨by kernel_rfl,by kernel_rfl⟩
instance ti175:TyI Tryz.prog 175 1 false:=⟨by kernel_rfl,by kernel_rfl⟩
instance ti176:TyI Tryz.prog 176 1 false:=⟨by kernel_rfl,by kernel_rfl⟩
instance ti177:TyI Tryz.prog 177 1 false:=⟨by kernel_rfl,by kernel_rfl⟩
instance ti178:TyI Tryz.prog 178 1 false:=⟨by kernel_rfl,by kernel_rfl⟩
instance ti179:TyI Tryz.prog 179 1 false:=⟨by kernel_rfl,by kernel_rfl⟩
instance ti180:TyI Tryz.prog 180 1 false:=⟨by kernel_rfl,by kernel_rfl⟩
instance ti181:TyI Tryz.prog 181 1 false:=⟨by kernel_rfl,by kernel_rfl⟩
instance ti182:TyI Tryz.prog 182 1 false:=⟨by kernel_rfl,by kernel_rfl⟩
instance ti183:TyI Tryz.prog 183 1 false:=⟨by kernel_rfl,by kernel_rfl⟩
instance ti184:TyI Tryz.prog 184 1 false:=⟨by kernel_rfl,by kernel_rfl⟩
instance fo186_0:FoI Tryz.prog 186 0 0:=⟨by kernel_rfl⟩
instance fo186_1:FoI Tryz.prog 186 1 1:=⟨by kernel_rfl⟩
instance fo186_2:FoI Tryz.prog 186 2 2:=⟨by kernel_rfl⟩
instance fo186_3:FoI Tryz.prog 186 3 3:=⟨by kernel_rfl⟩
instance fo186_4:FoI Tryz.prog 186 4 4:=⟨by kernel_rfl⟩
instance fo186_5:FoI Tryz.prog 186 5 5:=⟨by kernel_rfl⟩
instance fo186_6:FoI Tryz.prog 186 6 6:=⟨by kernel_rfl⟩
instance fo186_7:FoI Tryz.prog 186 7 7:=⟨by kernel_rfl⟩
instance fo186_8:FoI Tryz.prog 186 8 8:=⟨by kernel_rfl⟩
instance fo186_9:FoI Tryz.prog 186 9 9:=⟨by kernel_rfl⟩
instance fo186_10:FoI Tryz.prog 186 10 10:=⟨by kernel_rfl⟩
instance fo186_11:FoI Tryz.prog 186 11 11:=⟨by kernel_rfl⟩
instance fo186_12:FoI Tryz.prog 186 12 12:=⟨by kernel_rfl⟩
instance fo186_13:FoI Tryz.prog 186 13 13:=⟨by kernel_rfl⟩
instance fo186_14:FoI Tryz.prog 186 14 14:=⟨by kernel_rfl⟩
instance fo186_15:FoI Tryz.prog 186 15 15:=⟨by kernel_rfl⟩
instance fo186_16:FoI Tryz.prog 186 16 16:=⟨by kernel_rfl⟩
instance fo186_17:FoI Tryz.prog 186 17 17:=⟨by kernel_rfl⟩
instance fo186_18:FoI Tryz.prog 186 18 18:=⟨by kernel_rfl⟩
instance fo186_19:FoI Tryz.prog 186 19 19:=⟨by kernel_rfl⟩
instance fo186_20:FoI Tryz.prog 186 20 20:=⟨by kernel_rfl⟩
instance fo186_21:FoI Tryz.prog 186 21 21:=⟨by kernel_rfl⟩
instance fo186_22:FoI Tryz.prog 186 22 22:=⟨by kernel_rfl⟩
instance fi152:FnI Tryz.prog 152:=⟨_,func152,by kernel_rfl,rfl⟩
instance fi153:FnI Tryz.prog 153:=⟨_,func153,by kernel_rfl,rfl⟩
instance fi154:FnI Tryz.prog 154:=⟨_,func154,by kernel_rfl,rfl⟩
instance fi230:FnI Tryz.prog 230:=⟨_,func230,by kernel_rfl,rfl⟩
instance fi231:FnI Tryz.prog 231:=⟨_,func231,by kernel_rfl,rfl⟩
instance fi232:FnI Tryz.prog 232:=⟨_,func232,by kernel_rfl,rfl⟩
instance fi233:FnI Tryz.prog 233:=⟨_,func233,by kernel_rfl,rfl⟩
instance fi234:FnI Tryz.prog 234:=⟨_,func234,by kernel_rfl,rfl⟩
instance fi235:FnI Tryz.prog 235:=⟨_,func235,by kernel_rfl,rfl⟩
instance fi236:FnI Tryz.prog 236:=⟨_,func236,by kernel_rfl,rfl⟩
instance fi237:FnI Tryz.prog 237:=⟨_,func237,by kernel_rfl,rfl⟩
instance fi238:FnI Tryz.prog 238:=⟨_,func238,by kernel_rfl,rfl⟩
instance fi239:FnI Tryz.prog 239:=⟨_,func239,by kernel_rfl,rfl⟩
instance fi240:FnI Tryz.prog 240:=⟨_,func240,by kernel_rfl,rfl⟩
instance fi241:FnI Tryz.prog 241:=⟨_,func241,by kernel_rfl,rfl⟩
instance fi242:FnI Tryz.prog 242:=⟨_,func242,by kernel_rfl,rfl⟩
instance fi243:FnI Tryz.prog 243:=⟨_,func243,by kernel_rfl,rfl⟩
instance fi244:FnI Tryz.prog 244:=⟨_,func244,by kernel_rfl,rfl⟩
instance fi245:FnI Tryz.prog 245:=⟨_,func245,by kernel_rfl,rfl⟩
instance fi246:FnI Tryz.prog 246:=⟨_,func246,by kernel_rfl,rfl⟩
instance fi247:FnI Tryz.prog 247:=⟨_,func247,by kernel_rfl,rfl⟩
instance fi248:FnI Tryz.prog 248:=⟨_,func248,by kernel_rfl,rfl⟩
instance fi249:FnI Tryz.prog 249:=⟨_,func249,by kernel_rfl,rfl⟩
instance fi250:FnI Tryz.prog 250:=⟨_,func250,by kernel_rfl,rfl⟩
instance fi251:FnI Tryz.prog 251:=⟨_,func251,by kernel_rfl,rfl⟩
instance fi252:FnI Tryz.prog 252:=⟨_,func252,by kernel_rfl,rfl⟩
instance fi253:FnI Tryz.prog 253:=⟨_,func253,by kernel_rfl,rfl⟩
instance fi324:FnI Tryz.prog 324:=⟨_,func324,by kernel_rfl,rfl⟩
instance fi354:FnI Tryz.prog 354:=⟨_,func354,by kernel_rfl,rfl⟩
theorem zf37:Flat 1 false (.slice none 0 0):=xd6 rfl
theorem zf71:Flat 1 false (.slice none 0 0):=xd6 rfl
abbrev nlE:Ent:= .val (tE (.slice none 0 0))
abbrev bgF (e f:Ent):HEnt:=⟨186,1,false,[e,nlE,nlE,nlE,nlE,f,nlE,nlE,nlE,nlE,nlE,nlE,nlE,nlE,nlE,nlE,nlE,nlE,nlE,nlE,nlE,nlE,nlE]⟩
theorem jq1 (us ws:List Hd) (u:Hd) (n m:Nat) (hn:us.length=n) (hw:ws=us++[u]) (hl:n<=100000):
  CtG Tryz.prog 354 [(30,(bgF (.own (.sl 31 1 0 n)) (.own (.sl 32 1 0 m)))),(31,⟨37,1,false,rV tH us⟩)] [.own (.ptr 30 0),.val (tH u)] (.val (tT [])) [(30,(bgF (.own (.sl 11 1 0 (n+1))) (.own (.sl 32 1 0 m)))),(11,⟨37,1,false,rV tH ws⟩)] [11]:=by
 refine CtG.intro [30,31,32] func354 rfl ntmps354 rfl rfl ⟨⟨rfl,(SupX.lit rfl)⟩,⟨rfl,xb2⟩,trivial⟩ ?_;intro w F η;refine A5 ?_;refine RE (x7 (0) ti166 rfl rfl) qA qA trivial ?_;refine A1 ?_;refine R1 (xb6 (n:=1) (f:=tH) [u] zhj el37 zf37 rfl (fun _=>inferInstance) rfl rfl rfl) rfl (RE (xc5 (k:=31) (k':=11) (f:=tH) (ys:=[u]) (ts':=rV tH ws) zhj el37 zf37 rfl rfl (fun _=>inferInstance) (xe0.trans hn) (by simp;omega) (by simp;omega) (by simp [rV,hw]) (n':=n+1) rfl) qB qA qA ?_);refine A2 ?_;refine RE (xa8 (es:=1) (agg:=false) (e:= .own (.sl 11 1 0 (n+1))) (0) ti166 rfl rfl rfl) qB qA trivial ?_;refine A1 ?_;exact yd0 LentC.mk' rfl (.inr rfl) qB ⟨⟨rfl,(SupX.lit rfl)⟩,⟨rfl,xb2⟩,trivial⟩ rfl
theorem qh1 (us ws:List Hd) (a:Bool) (u:Hd) (n m:Nat) (hn:us.length=n) (hw:ws=us++[u]) (hl:n<=100000):
  CtG Tryz.prog 324 [(30,(bgF (.own (.sl 31 1 0 n)) (.own (.sl 32 1 0 m)))),(31,⟨37,1,false,rV tH us⟩)] [.own (.ptr 30 0),.val (tS [⟨1,false,tB a⟩,⟨1,false,tH u⟩])] (.val (tT [])) [(30,(bgF (.own (.sl 11 1 0 (n+1))) (.own (.sl 32 1 0 m)))),(11,⟨37,1,false,rV tH ws⟩)] [11]:=by
 refine CtG.intro [30,31,32] func324 rfl ntmps324 rfl rfl ⟨⟨rfl,(SupX.lit rfl)⟩,⟨rfl,xb2⟩,trivial⟩ ?_;intro w F η;refine A9 ?_;refine RE (yn0 (zaa 32 32 (zaa 30 30 (zaa 11 11 (zab 31 31)))) (jq1 us ws u n m hn hw hl) fi354 rfl (krC (ρ:=(zaa 32 32 (zaa 30 30 (zaa 11 11 (zab 31 31))))) (k:=30) rfl (krC (ρ:=(zaa 32 32 (zaa 30 30 (zaa 11 11 (zab 31 31))))) (k:=31) xc2 (krN (ρ:=(zaa 32 32 (zaa 30 30 (zaa 11 11 (zab 31 31)))))))) (krC (ρ:=(zaa 32 32 (zaa 30 30 (zaa 11 11 (zab 31 31))))) (k:=30) rfl (krC (ρ:=(zaa 32 32 (zaa 30 30 (zaa 11 11 (zab 31 31))))) (k:=11) xc2 (krN (ρ:=(zaa 32 32 (zaa 30 30 (zaa 11 11 (zab 31 31)))))))) (K:=[]) [32] ⟨⟨rfl,SupX.lit rfl⟩,⟨rfl,xb2⟩,trivial⟩ rfl rfl) qB qB qA ?_;refine A1 ?_;exact yd0 LentC.mk' rfl (.inr rfl) qB ⟨⟨rfl,(SupX.lit rfl)⟩,⟨rfl,xb2⟩,trivial⟩ rfl
theorem jo8 (us ws:List Hd) (a b:Bool) (u v:Hd) (n m:Nat) (hn:us.length=n) (hw:ws=us++[u,v]) (hl:n<=90000):
  CtG Tryz.prog 253 [(30,(bgF (.own (.sl 31 1 0 n)) (.own (.sl 32 1 0 m)))),(31,⟨37,1,false,rV tH us⟩)] [.own (.ptr 30 0),.val (tS [⟨2,true,tS [⟨1,false,tB a⟩,⟨1,false,tH u⟩]⟩,⟨2,true,tS [⟨1,false,tB b⟩,⟨1,false,tH v⟩]⟩])] (.val (tT [])) [(30,(bgF (.own (.sl 11 1 0 (n+2))) (.own (.sl 32 1 0 m)))),(11,⟨37,1,false,rV tH ws⟩)] [11]:=by
 refine CtG.intro [30,31,32] func253 rfl ntmps253 rfl rfl ⟨⟨rfl,(SupX.lit rfl)⟩,⟨rfl,xb2⟩,trivial⟩ ?_;intro w F η;refine A10 ?_;refine RE (yn0 (zaa 32 32 (zaa 30 30 (zaa 11 7 (zab 31 31)))) (qh1 us (us++[u]) a u n m hn rfl (by omega)) fi324 rfl (krC (ρ:=(zaa 32 32 (zaa 30 30 (zaa 11 7 (zab 31 31))))) (k:=30) rfl (krC (ρ:=(zaa 32 32 (zaa 30 30 (zaa 11 7 (zab 31 31))))) (k:=31) xc2 (krN (ρ:=(zaa 32 32 (zaa 30 30 (zaa 11 7 (zab 31 31)))))))) (krC (ρ:=(zaa 32 32 (zaa 30 30 (zaa 11 7 (zab 31 31))))) (k:=30) rfl (krC (ρ:=(zaa 32 32 (zaa 30 30 (zaa 11 7 (zab 31 31))))) (k:=11) xc2 (krN (ρ:=(zaa 32 32 (zaa 30 30 (zaa 11 7 (zab 31 31)))))))) (K:=[]) [32] ⟨⟨rfl,SupX.lit rfl⟩,⟨rfl,xb2⟩,trivial⟩ rfl rfl) qB qB qA ?_;refine A6 ?_;refine RE (yn0 (zaa 32 32 (zaa 30 30 (zaa 11 11 (zab 31 7)))) (qh1 (us++[u]) ws b v (n+1) m (by simp [hn]) (by simp [hw]) (by omega)) fi324 rfl (krC (ρ:=(zaa 32 32 (zaa 30 30 (zaa 11 11 (zab 31 7))))) (k:=30) rfl (krC (ρ:=(zaa 32 32 (zaa 30 30 (zaa 11 11 (zab 31 7))))) (k:=31) xc2 (krN (ρ:=(zaa 32 32 (zaa 30 30 (zaa 11 11 (zab 31 7)))))))) (krC (ρ:=(zaa 32 32 (zaa 30 30 (zaa 11 11 (zab 31 7))))) (k:=30) rfl (krC (ρ:=(zaa 32 32 (zaa 30 30 (zaa 11 11 (zab 31 7))))) (k:=11) xc2 (krN (ρ:=(zaa 32 32 (zaa 30 30 (zaa 11 11 (zab 31 7)))))))) (K:=[]) [32] ⟨⟨rfl,SupX.lit rfl⟩,⟨rfl,xb2⟩,trivial⟩ rfl rfl) qB qB qA ?_;refine A1 ?_;exact yd0 LentC.mk' rfl (.inr rfl) qB ⟨⟨rfl,(SupX.lit rfl)⟩,⟨rfl,xb2⟩,trivial⟩ rfl
abbrev bgI (e:Ent):HEnt:=⟨186,1,false,[nlE,e,nlE,nlE,nlE,nlE,nlE,nlE,nlE,nlE,nlE,nlE,nlE,nlE,nlE,nlE,nlE,nlE,nlE,nlE,nlE,nlE,nlE]⟩
def inI (us:List (Hd×List Int)):List (Hd×HEnt):=us.map fun u=>(u.1,⟨3,1,false,rV tIb u.2⟩)
theorem zw3 {us:List (Hd×List Int)}:(inI us).map (·.1)=us.map (·.1):=by simp [inI]
theorem inI_at {us:List (Hd×List Int)}: ∀j,j < us.length-> ∃p,(inI us)[j]? =some p/\p.2=⟨3,1,false,rV tIb (us.getD j (⟨none,0,0⟩,[])).2⟩/\(⟨3,1,false,rV tIb (us.getD j (⟨none,0,0⟩,[])).2⟩:HEnt).ts.length=(us.getD j (⟨none,0,0⟩,[])).2.length/\(⟨3,1,false,rV tIb (us.getD j (⟨none,0,0⟩,[])).2⟩:HEnt).es=1:=fun j hj=>by
 refine ⟨_,by rw [inI,zbp,zbk hj];rfl,?_,by simp [rV],rfl⟩;rw [zbh,zbk hj];rfl
theorem wk_bgI {k n:Nat}: ∀e∈(bgI (.own (.sl k 1 0 n))).ts,Wk e e:=fun e he=>by
 simp only [zbt,zed,or_false] at he;rcases he with rfl | rfl | rfl | rfl | rfl | rfl | rfl | rfl | rfl | rfl | rfl | rfl | rfl | rfl | rfl | rfl | rfl | rfl | rfl | rfl | rfl | rfl | rfl <;> first | exact .sl | exact .val zao Free.E
theorem ye0 {us:List Hd}: ∀e∈rV tH us,Wk e e:=fun e he=>by
 obtain ⟨x,_,rfl⟩:=zcb.1 he;exact .val zao Free.E
theorem jn3 {us:List Hd} {i:Nat} (h:i < us.length):us.take (i+1)=us.take i++[us.getD i ⟨none,0,0⟩]:=by
 rw [zcn h,zbh,zbk h];rfl
theorem c_putI (us:List Hd) (u:Hd) (n:Nat) (hn:us.length=n) (hl:n<=100000):
  CtG Tryz.prog 152 [(30,(bgI (.own (.sl 31 1 0 n)))),(31,⟨23,1,false,rV tH us⟩)] [.own (.ptr 30 0),.val (tH u)] (.val (tT [])) [(30,(bgI (.own (.sl 11 1 0 (n+1))))),(11,⟨23,1,false,rV tH (us++[u])⟩)] [11]:=by
 refine CtG.intro [30,31] func152 rfl ntmps152 rfl rfl ⟨⟨rfl,(SupX.lit rfl)⟩,⟨rfl,xb2⟩,trivial⟩ ?_;intro w F η;refine A5 ?_;refine RE (x7 (1) ti77 rfl rfl) qA qA trivial ?_;refine A1 ?_;refine R1 (xb6 (n:=1) (f:=tH) [u] zhe el23 zf23 rfl (fun _=>inferInstance) rfl rfl rfl) rfl (RE (xc5 (k:=31) (k':=11) (f:=tH) (ys:=[u]) (ts':=rV tH (us++[u])) zhe el23 zf23 rfl rfl (fun _=>inferInstance) (xe0.trans hn) (by simp;omega) (by simp;omega) (by simp [rV]) (n':=n+1) rfl) qB qA qA ?_);refine A2 ?_;refine RE (xa8 (es:=1) (agg:=false) (e:= .own (.sl 11 1 0 (n+1))) (1) ti77 rfl rfl rfl) qB qA trivial ?_;refine A1 ?_;exact yd0 LentC.mk' rfl (.inr rfl) qB ⟨⟨rfl,(SupX.lit rfl)⟩,⟨rfl,xb2⟩,trivial⟩ rfl
theorem je9 (X:OvJ) (n m:Nat) (us:List (Hd×List Int)) (ht:Takes X n m (inI us)) (hu:us.length<=900) (hul: ∀j,((us.getD j (⟨none,0,0⟩,[])).2).length<=1000000):
  CtU Tryz.prog X 153 [(30,(bgI (.own (.sl 31 1 0 us.length)))),(31,⟨23,1,false,rV tH ((inI us).map (·.1))⟩)] [.own (.ptr 30 0)] n m (.bool true):=by
 refine CtU.intro 99 [30,31] func153 rfl ntmps153 rfl rfl ⟨⟨rfl,(SupX.lit rfl)⟩,⟨rfl,xb2⟩,trivial⟩ rfl ?_;intro w η hU;refine A6 ?_;dsimp only [List.append];refine A5 ?_;refine R1 (xb4 (ts:=[tE (.slice none 0 0)]) zt7 fi230 rfl ⟨leNil rfl,trivial⟩) rfl ?_;refine A2 ?_;refine RGon rfl rfl xa9 rfl ⟨rfl,trivial⟩ trivial trivial ?_;refine A1 ?_;refine RGon rfl rfl (x7 (1) ti77 rfl rfl) rfl ⟨rfl,trivial⟩ ⟨rfl,trivial⟩ trivial ?_;refine RGon rfl rfl (z8 (q:=31) hU ht (zcq _) inI_at (qc5 us.length (fun j=>(us.getD j (⟨none,0,0⟩,[])).2) hu hul) fi231) rfl ⟨rfl,trivial⟩ ⟨rfl,rfl,trivial⟩ trivial ?_;refine A3 ?_;refine RGon rfl rfl xa9 rfl ⟨rfl,trivial⟩ trivial trivial ?_;refine A1 ?_;refine RGon rfl rfl (x7 (2) ti167 rfl rfl) rfl ⟨rfl,trivial⟩ ⟨rfl,trivial⟩ trivial ?_;refine RGon rfl rfl (xb4 (ts:=[tE (.slice none 0 0)]) yr9 fi232 rfl ⟨leNil rfl,trivial⟩) rfl ⟨rfl,trivial⟩ trivial trivial ?_;refine A3 ?_;refine RGon rfl rfl xa9 rfl ⟨rfl,trivial⟩ trivial trivial ?_;refine A1 ?_;refine RGon rfl rfl (x7 (3) ti168 rfl rfl) rfl ⟨rfl,trivial⟩ ⟨rfl,trivial⟩ trivial ?_;refine RGon rfl rfl (xb4 (ts:=[tE (.slice none 0 0)]) ys0 fi233 rfl ⟨leNil rfl,trivial⟩) rfl ⟨rfl,trivial⟩ trivial trivial ?_;refine A3 ?_;refine RGon rfl rfl xa9 rfl ⟨rfl,trivial⟩ trivial trivial ?_;refine A1 ?_;refine RGon rfl rfl (x7 (4) ti169 rfl rfl) rfl ⟨rfl,trivial⟩ ⟨rfl,trivial⟩ trivial ?_;refine RGon rfl rfl (xb4 (ts:=[tE (.slice none 0 0)]) yp8 fi234 rfl ⟨leNil rfl,trivial⟩) rfl ⟨rfl,trivial⟩ trivial trivial ?_;refine A3 ?_;refine RGon rfl rfl xa9 rfl ⟨rfl,trivial⟩ trivial trivial ?_;refine A1 ?_;refine RGon rfl rfl (x7 (5) ti93 rfl rfl) rfl ⟨rfl,trivial⟩ ⟨rfl,trivial⟩ trivial ?_;refine RGon rfl rfl (xb4 (ts:=[tE (.slice none 0 0)]) zv8 fi235 rfl ⟨leNil rfl,trivial⟩) rfl ⟨rfl,trivial⟩ trivial trivial ?_;refine A3 ?_;refine RGon rfl rfl xa9 rfl ⟨rfl,trivial⟩ trivial trivial ?_;refine A1 ?_;refine RGon rfl rfl (x7 (6) ti170 rfl rfl) rfl ⟨rfl,trivial⟩ ⟨rfl,trivial⟩ trivial ?_;refine RGon rfl rfl (xb4 (ts:=[tE (.slice none 0 0)]) yp3 fi236 rfl ⟨leNil rfl,trivial⟩) rfl ⟨rfl,trivial⟩ trivial trivial ?_;refine A3 ?_;refine RGon rfl rfl xa9 rfl ⟨rfl,trivial⟩ trivial trivial ?_;refine A1 ?_;refine RGon rfl rfl (x7 (7) ti122 rfl rfl) rfl ⟨rfl,trivial⟩ ⟨rfl,trivial⟩ trivial ?_;refine RGon rfl rfl (xb4 (ts:=[tE (.slice none 0 0)]) yr0 fi237 rfl ⟨leNil rfl,trivial⟩) rfl ⟨rfl,trivial⟩ trivial trivial ?_;refine A3 ?_;refine RGon rfl rfl xa9 rfl ⟨rfl,trivial⟩ trivial trivial ?_;refine A1 ?_;refine RGon rfl rfl (x7 (8) ti133 rfl rfl) rfl ⟨rfl,trivial⟩ ⟨rfl,trivial⟩ trivial ?_;refine RGon rfl rfl (xb4 (ts:=[tE (.slice none 0 0)]) yt5 fi238 rfl ⟨leNil rfl,trivial⟩) rfl ⟨rfl,trivial⟩ trivial trivial ?_;refine A3 ?_;refine RGon rfl rfl xa9 rfl ⟨rfl,trivial⟩ trivial trivial ?_;refine A1 ?_;refine RGon rfl rfl (x7 (9) ti171 rfl rfl) rfl ⟨rfl,trivial⟩ ⟨rfl,trivial⟩ trivial ?_;refine RGon rfl rfl (xb4 (ts:=[tE (.slice none 0 0)]) yr2 fi239 rfl ⟨leNil rfl,trivial⟩) rfl ⟨rfl,trivial⟩ trivial trivial ?_;refine A3 ?_;refine RGon rfl rfl xa9 rfl ⟨rfl,trivial⟩ trivial trivial ?_;refine A1 ?_;refine RGon rfl rfl (x7 (10) ti172 rfl rfl) rfl ⟨rfl,trivial⟩ ⟨rfl,trivial⟩ trivial ?_;refine RGon rfl rfl (xb4 (ts:=[tE (.slice none 0 0)]) yw0 fi240 rfl ⟨leNil rfl,trivial⟩) rfl ⟨rfl,trivial⟩ trivial trivial ?_;refine A3 ?_;refine RGon rfl rfl xa9 rfl ⟨rfl,trivial⟩ trivial trivial ?_;refine A1 ?_;refine RGon rfl rfl (x7 (11) ti173 rfl rfl) rfl ⟨rfl,trivial⟩ ⟨rfl,trivial⟩ trivial ?_;refine RGon rfl rfl (xb4 (ts:=[tE (.slice none 0 0)]) yp5 fi241 rfl ⟨leNil rfl,trivial⟩) rfl ⟨rfl,trivial⟩ trivial trivial ?_;refine A3 ?_;refine RGon rfl rfl xa9 rfl ⟨rfl,trivial⟩ trivial trivial ?_;refine A1 ?_;refine RGon rfl rfl (x7 (12) ti174 rfl rfl) rfl ⟨rfl,trivial⟩ ⟨rfl,trivial⟩ trivial ?_;refine RGon rfl rfl (xb4 (ts:=[tE (.slice none 0 0)]) yr7 fi242 rfl ⟨leNil rfl,trivial⟩) rfl ⟨rfl,trivial⟩ trivial trivial ?_;refine A3 ?_;refine RGon rfl rfl xa9 rfl ⟨rfl,trivial⟩ trivial trivial ?_;refine A1 ?_;refine RGon rfl rfl (x7 (13) ti175 rfl rfl) rfl ⟨rfl,trivial⟩ ⟨rfl,trivial⟩ trivial ?_
 refine RGon rfl rfl (xb4 (ts:=[tE (.slice none 0 0)]) yi9 fi243 rfl ⟨leNil rfl,trivial⟩) rfl ⟨rfl,trivial⟩ trivial trivial ?_;refine A3 ?_;refine RGon rfl rfl xa9 rfl ⟨rfl,trivial⟩ trivial trivial ?_;refine A1 ?_;refine RGon rfl rfl (x7 (14) ti176 rfl rfl) rfl ⟨rfl,trivial⟩ ⟨rfl,trivial⟩ trivial ?_;refine RGon rfl rfl (xb4 (ts:=[tE (.slice none 0 0)]) yw5 fi244 rfl ⟨leNil rfl,trivial⟩) rfl ⟨rfl,trivial⟩ trivial trivial ?_;refine A3 ?_;refine RGon rfl rfl xa9 rfl ⟨rfl,trivial⟩ trivial trivial ?_;refine A1 ?_;refine RGon rfl rfl (x7 (15) ti177 rfl rfl) rfl ⟨rfl,trivial⟩ ⟨rfl,trivial⟩ trivial ?_;refine RGon rfl rfl (xb4 (ts:=[tE (.slice none 0 0)]) yt2 fi245 rfl ⟨leNil rfl,trivial⟩) rfl ⟨rfl,trivial⟩ trivial trivial ?_;refine A3 ?_;refine RGon rfl rfl xa9 rfl ⟨rfl,trivial⟩ trivial trivial ?_;refine A1 ?_;refine RGon rfl rfl (x7 (16) ti178 rfl rfl) rfl ⟨rfl,trivial⟩ ⟨rfl,trivial⟩ trivial ?_;refine RGon rfl rfl (xb4 (ts:=[tE (.slice none 0 0)]) yh6 fi246 rfl ⟨leNil rfl,trivial⟩) rfl ⟨rfl,trivial⟩ trivial trivial ?_;refine A3 ?_;refine RGon rfl rfl xa9 rfl ⟨rfl,trivial⟩ trivial trivial ?_;refine A1 ?_;refine RGon rfl rfl (x7 (17) ti179 rfl rfl) rfl ⟨rfl,trivial⟩ ⟨rfl,trivial⟩ trivial ?_;refine RGon rfl rfl (xb4 (ts:=[tE (.slice none 0 0)]) yp4 fi247 rfl ⟨leNil rfl,trivial⟩) rfl ⟨rfl,trivial⟩ trivial trivial ?_;refine A3 ?_;refine RGon rfl rfl xa9 rfl ⟨rfl,trivial⟩ trivial trivial ?_;refine A1 ?_;refine RGon rfl rfl (x7 (18) ti180 rfl rfl) rfl ⟨rfl,trivial⟩ ⟨rfl,trivial⟩ trivial ?_;refine RGon rfl rfl (xb4 (ts:=[tE (.slice none 0 0)]) yq1 fi248 rfl ⟨leNil rfl,trivial⟩) rfl ⟨rfl,trivial⟩ trivial trivial ?_;refine A3 ?_;refine RGon rfl rfl xa9 rfl ⟨rfl,trivial⟩ trivial trivial ?_;refine A1 ?_;refine RGon rfl rfl (x7 (19) ti181 rfl rfl) rfl ⟨rfl,trivial⟩ ⟨rfl,trivial⟩ trivial ?_;refine RGon rfl rfl (xb4 (ts:=[tE (.slice none 0 0)]) yk3 fi249 rfl ⟨leNil rfl,trivial⟩) rfl ⟨rfl,trivial⟩ trivial trivial ?_;refine A3 ?_;refine RGon rfl rfl xa9 rfl ⟨rfl,trivial⟩ trivial trivial ?_;refine A1 ?_;refine RGon rfl rfl (x7 (20) ti182 rfl rfl) rfl ⟨rfl,trivial⟩ ⟨rfl,trivial⟩ trivial ?_;refine RGon rfl rfl (xb4 (ts:=[tE (.slice none 0 0)]) ys6 fi250 rfl ⟨leNil rfl,trivial⟩) rfl ⟨rfl,trivial⟩ trivial trivial ?_;refine A3 ?_;refine RGon rfl rfl xa9 rfl ⟨rfl,trivial⟩ trivial trivial ?_;refine A1 ?_;refine RGon rfl rfl (x7 (21) ti183 rfl rfl) rfl ⟨rfl,trivial⟩ ⟨rfl,trivial⟩ trivial ?_;refine RGon rfl rfl (xb4 (ts:=[tE (.slice none 0 0)]) yj1 fi251 rfl ⟨leNil rfl,trivial⟩) rfl ⟨rfl,trivial⟩ trivial trivial ?_;refine A3 ?_;refine RGon rfl rfl xa9 rfl ⟨rfl,trivial⟩ trivial trivial ?_;refine A1 ?_;refine RGon rfl rfl (x7 (22) ti184 rfl rfl) rfl ⟨rfl,trivial⟩ ⟨rfl,trivial⟩ trivial ?_;refine RGon rfl rfl (xb4 (ts:=[tE (.slice none 0 0)]) yp6 fi252 rfl ⟨leNil rfl,trivial⟩) rfl ⟨rfl,trivial⟩ trivial trivial ?_;refine A5 ?_;exact zc6 hU rfl rfl rfl
theorem qb2 (X:OvJ) (n m:Nat) (us:List (Hd×List Int)) (ht:Takes X n m (inI us)) (hu:us.length<=900) (hul: ∀j,((us.getD j (⟨none,0,0⟩,[])).2).length<=1000000):
  CtU Tryz.prog X 68 [(20,⟨23,1,false,rV tH (us.map (·.1))⟩)] [.own (.sl 20 1 0 us.length)] n m (.bool true):=by
 have hml:(us.map (·.1)).length=us.length:=zcq _;refine CtU.intro 99 [20] func68 rfl ntmps68 rfl rfl ⟨⟨rfl,xb2⟩,trivial⟩ rfl ?_;intro w η hU;refine A7 ?_;refine R0 (z6 (vs:=[]) (r:= .agg #[.slice none 0 0,.slice none 0 0,.slice none 0 0,.slice none 0 0,.slice none 0 0,.slice none 0 0,.slice none 0 0,.slice none 0 0,.slice none 0 0,.slice none 0 0,.slice none 0 0,.slice none 0 0,.slice none 0 0,.slice none 0 0,.slice none 0 0,.slice none 0 0,.slice none 0 0,.slice none 0 0,.slice none 0 0,.slice none 0 0,.slice none 0 0,.slice none 0 0,.slice none 0 0]) rfl (fun w=>by kernel_rfl)) ?_;refine RE (qt0 (k:=6) (n:=23) _ rfl rfl rfl rfl) ⟨rfl,trivial⟩ trivial ⟨rfl,trivial⟩ ?_;refine A5 ?_;refine zv7 (q:=6) 33 23 1 false 1 rfl rfl rfl rfl (fun _=>rfl) rfl rfl ?_;refine A5 ?_;refine xf6 (fun (i:Nat)=>i<=us.length) (fun (i:Nat)=>upd (upd (upd (fun _=>none) 0 (some (.own (.sl 20 1 0 us.length)))) 3 (some (.own (.ptr 6 0)))) 4 (some (.val (tI i)))) (fun (i:Nat)=>upd (upd (upd (upd (fun _=>none) 6 (some ((bgI (.own (.sl 33 1 0 i)))))) 33 (some (⟨23,1,false,rV tH ((us.map (·.1)).take i)⟩))) 20 (some (⟨23,1,false,rV tH (us.map (·.1))⟩))) 99 (some (⟨n,1,false,[]⟩))) (nm [6,33,20,99,33]) (fun (i:Nat)=>us.length - i) (0) (zbs _) (zae rfl (zan rfl (zan rfl zay))) ((zaq rfl zap) ((zaq rfl zap) ((zaq rfl zap) ((zaq rfl zap) zax)))) (zaj (zak rfl (zak rfl zar))) (zam rfl (supJL rfl) (zam rfl (supJ xb2) (zam rfl (supJ xb2) (zam rfl (supJL rfl) zaz)))) (lkOk rfl) ?_;intro i hI;refine A9 ?_;refine xa6 rfl (fun h99=> ?_) (fun h99=> ?_)
 ·
  refine A8 ?_;refine R2 (zag sl77 rfl) rfl rfl ?_;refine RE (x7 (i) ti23 (jr4 (d:=⟨none,0,0⟩) (by omega)) (by omega)) ⟨rfl,trivial⟩ ⟨rfl,trivial⟩ trivial ?_;refine RE (xe9 (fun j=>cond (Nat.beq j 30) 6 (cond (Nat.beq j 11) 18 (33))) (c_putI ((us.map (·.1)).take i) ((us.map (·.1)).getD i ⟨none,0,0⟩) i (by rw [zcz];omega) (by omega)) fi152 rfl (krC (ρ:=fun j=>cond (Nat.beq j 30) 6 (cond (Nat.beq j 11) 18 (33))) (k:=30) rfl (krC (ρ:=fun j=>cond (Nat.beq j 30) 6 (cond (Nat.beq j 11) 18 (33))) (k:=31) xc2 (krN (ρ:=fun j=>cond (Nat.beq j 30) 6 (cond (Nat.beq j 11) 18 (33)))))) (krC (ρ:=fun j=>cond (Nat.beq j 30) 6 (cond (Nat.beq j 11) 18 (33))) (k:=30) rfl (krC (ρ:=fun j=>cond (Nat.beq j 30) 6 (cond (Nat.beq j 11) 18 (33))) (k:=11) xc2 (krN (ρ:=fun j=>cond (Nat.beq j 30) 6 (cond (Nat.beq j 11) 18 (33)))))) ⟨⟨rfl,(SupX.lit rfl)⟩,⟨rfl,xb2⟩,trivial⟩ rfl) ⟨rfl,rfl,trivial⟩ ⟨rfl,rfl,trivial⟩ ⟨rfl,trivial⟩ ?_;refine A8 ?_;exact xh0 (l:=[6,33,20,99,33]) (zab 33 18) (i+1) ⟨(by omega),(by omega)⟩ (zaf rfl (zas rfl (zas rfl zbd))) ((zbb rfl zap) ((zbb rfl (zat xc2.symm)) ((zbb rfl (zat (by rw [jn3 (by omega)];exact xc2.symm))) ((zbb rfl zap) zbe)))) (zaj (zak rfl (zak rfl zar))) (zam rfl (supJL rfl) (zam rfl (supJ xb2) (zam rfl (supJ xb2) (zam rfl (supJL rfl) zaz)))) (lkOk rfl) rfl rfl (fun _ h=>by cases h;rfl)
 ·
  refine A6 ?_;have hil:i=us.length:=by omega
  subst hil;have htk:(us.map (·.1)).take us.length=us.map (·.1):=List.take_of_length_le (by omega);have hfree: ∀x∈([(30,(bgI (.own (.sl 31 1 0 us.length)))),(31,⟨23,1,false,rV tH ((inI us).map (·.1))⟩)]:List (Nat×HEnt)),∀e∈x.2.ts,Wk e e:=fun x hx=>by
   simp only [zbt,zed,or_false] at hx;rcases hx with rfl | rfl
   ·exact wk_bgI
   ·exact ye0
  refine xp2 (k:=33) (e':=⟨23,1,false,rV tH (us.map (·.1))⟩) rfl (by rw [htk]) ?_;refine A2 ?_;refine RE (yv7 (fun j=>cond (Nat.beq j 30) 6 (cond (Nat.beq j 31) 33 j)) hU (je9 X n m us ht hu hul) fi153 rfl (krC (ρ:=(fun j=>cond (Nat.beq j 30) 6 (cond (Nat.beq j 31) 33 j))) (k:=30) rfl (krC (ρ:=(fun j=>cond (Nat.beq j 30) 6 (cond (Nat.beq j 31) 33 j))) (k:=31) (by rw [zw3];exact xc2) (krN (ρ:=(fun j=>cond (Nat.beq j 30) 6 (cond (Nat.beq j 31) 33 j)))))) rfl (by intro e he;rw [zbq.1 he];exact .ptr) hfree) ⟨rfl,trivial⟩ ⟨rfl,rfl,rfl,trivial⟩ trivial ?_;refine A4 ?_;exact zc6 hU rfl rfl rfl
def hdH (zs:List Zh):List Hd:=zs.flatMap fun z=>[z.n,z.d]
def zh0:Zh:=⟨false,⟨none,0,0⟩,false,⟨none,0,0⟩⟩
theorem zh6: ∀{zs:List Zh},(hdH zs).length=2*zs.length
 | []=>rfl
 | z::r=>by rw [hdH,zdu,zck,<-hdH,zh6 (zs:=r)];simp;omega
theorem qz8 {zs:List Zh} {i:Nat} (hi:i < zs.length):hdH (zs.take (i+1))=hdH (zs.take i)++[(zs.getD i zh0).n,(zs.getD i zh0).d]:=by
 rw [zcn hi,hdH,zfk,zbh,zbk hi];simp [hdH]
theorem jd1 {zs:List Zh} {i:Nat} (hi:i<=zs.length):(hdH (zs.take i)).length=2*i:=by rw [zh6,zcz];omega
theorem Free.zh {z:Zh}:Free (tZh z):=Free.S ⟨Free.S ⟨Free.E,Free.E,trivial⟩,Free.S ⟨Free.E,Free.E,trivial⟩,trivial⟩
def frI (qs:List (Hd×List Zh)):List (Hd×HEnt):=qs.map fun q=>(q.1,⟨41,4,true,rV tZh q.2⟩)
theorem zp9 {qs:List (Hd×List Zh)}:(frI qs).map (·.1)=qs.map (·.1):=by simp [frI]
abbrev q00:Hd×List Zh:=(⟨none,0,0⟩,[])
theorem rawV {zs:List Zh}:rV tFx (zs.map Zx.raw)=rV tZh zs:=by simp [rV,tFx]
theorem frI_at {qs:List (Hd×List Zh)}: ∀j,j < qs.length-> ∃p,(frI qs)[j]? =some p/\p.2=⟨41,4,true,rV tFx ((qs.getD j q00).2.map Zx.raw)⟩/\(⟨41,4,true,rV tFx ((qs.getD j q00).2.map Zx.raw)⟩:HEnt).ts.length=((qs.getD j q00).2.map Zx.raw).length/\(⟨41,4,true,rV tFx ((qs.getD j q00).2.map Zx.raw)⟩:HEnt).es=4:=fun j hj=>by
 refine ⟨_,by rw [frI,zbp,zbk hj];rfl,?_,by simp [rV],rfl⟩;rw [zbh,zbk hj,rawV];rfl
def lmI0:Hd×List Nat:=(⟨none,0,0⟩,[])
theorem zv5 {T:Nat} {us:List (Hd×List Nat)}:(lmI T us).map (·.1)=us.map (·.1):=by simp [lmI]
theorem lmI_at {us:List (Hd×List Nat)}: ∀j,j < us.length-> ∃p,(lmI 64 us)[j]? =some p/\p.2=⟨64,1,false,rW .u16 (us.getD j lmI0).2⟩/\(⟨64,1,false,rW .u16 (us.getD j lmI0).2⟩:HEnt).ts.length=(us.getD j lmI0).2.length/\(⟨64,1,false,rW .u16 (us.getD j lmI0).2⟩:HEnt).es=1:=fun j hj=>by
 refine ⟨_,by rw [lmI,zbp,zbk hj];rfl,?_,by simp [rW],rfl⟩;rw [zbh,zbk hj];rfl
theorem qq9 {k l n m:Nat}: ∀e∈(bgF (.own (.sl k 1 0 n)) (.own (.sl l 1 0 m))).ts,Wk e e:=fun e he=>by
 simp only [zbt,zed,or_false] at he;rcases he with rfl | rfl | rfl | rfl | rfl | rfl | rfl | rfl | rfl | rfl | rfl | rfl | rfl | rfl | rfl | rfl | rfl | rfl | rfl | rfl | rfl | rfl | rfl <;> first | exact .sl | exact .val zao Free.E
theorem c_putF (us vs:List Hd) (u:Hd) (zs:List Zh) (n m:Nat) (hn:us.length=n) (hm:vs.length=m) (hl:n<=50000) (hz:zs.length<=10000) (hm2:m<=10000):
  CtG Tryz.prog 154 [(30,(bgF (.own (.sl 31 1 0 n)) (.own (.sl 32 1 0 m)))),(31,⟨37,1,false,rV tH us⟩),(32,⟨71,1,false,rV tH vs⟩)] [.own (.ptr 30 0),.val (tLX 41 4 true tZh u zs [])] (.val (tT [])) [(30,(bgF (.own (.sl 11 1 0 (n+2*zs.length))) (.own (.sl 12 1 0 (m+1))))),(11,⟨37,1,false,rV tH (us++hdH zs)⟩),(12,⟨71,1,false,rV tH (vs++[u])⟩)] [11,12]:=by
 refine CtG.intro [30,31,32] func154 rfl ntmps154 rfl rfl ⟨⟨rfl,(SupX.lit rfl)⟩,⟨rfl,xb2⟩,⟨rfl,xb2⟩,trivial⟩ ?_;intro w F η;refine A6 ?_;refine RE (x7 (5) ti93 rfl rfl) qA qA trivial ?_;refine A1 ?_;refine R1 (xb6 (n:=1) (f:=fun _:Unit=>tLX 41 4 true tZh u zs []) [()] zhi el71 zf71 rfl (fun _=>inferInstance) rfl rfl rfl) rfl (RE (xc5 (k:=32) (k':=12) (f:=fun _:Unit=>tLX 41 4 true tZh u zs []) (ys:=[()]) (ts':=rV tH vs++[.val (tLX 41 4 true tZh u zs [])]) zhi el71 zf71 rfl rfl (fun _=>inferInstance) (xe0.trans hm) (by simp;omega) (by simp;omega) rfl (n':=m+1) rfl) qB qA qA ?_);refine A2 ?_;refine RE (xa8 (es:=1) (agg:=false) (e:= .own (.sl 12 1 0 (m+1))) (5) ti93 rfl rfl rfl) qB qA trivial ?_;refine A3 ?_;refine C_renK (k:=31) (q:=30) 11 0 rfl rfl rfl (by decide) rfl (C_imp (t:=1) (e':= .val (tL 4 true tZh zs)) rfl (Imp.le zb9) (fun k hk=>by cases hk) ?_);refine A5 ?_;refine cL (fun (i:Nat)=>i<=zs.length) (fun (i:Nat)=>uV (uV (uO uN 0 (.ptr 30 0)) 1 (tL 4 true tZh zs)) 4 (tI i)) (fun (i:Nat)=>uK (uK (upd uN 30 (some ((bgF (.own (.sl 11 1 0 (n+2*i))) (.own (.sl 12 1 0 (m+1))))))) 11 37 1 false (rV tH (us++hdH (zs.take i)))) 12 71 1 false (rV tH (vs++[u]))) [30,11,12,31,32] (fun (i:Nat)=>zs.length - i) (0) (zbs _) (hh:=((zaq rfl (qk3 yn5)) ((zaq rfl (zat (by simp [hdH]))) (SubK.cons rfl zax)))) ?_;intro i hI;refine A9 ?_;refine xa6 rfl (fun h310=> ?_) (fun h310=> ?_)
 ·
  refine A8 ?_;refine R2 (x8 sl71 (i) (by omega) (zai (l:=zs) (n:=i) (d:=zh0))) rfl rfl ?_;refine A1 ?_;refine RE (yn0 (zaa 32 12 (zaa 30 30 (zaa 11 26 (zab 31 11)))) (jo8 (us++hdH (zs.take i)) (us++hdH (zs.take (i+1))) (zs.getD i zh0).ns (zs.getD i zh0).ds (zs.getD i zh0).n (zs.getD i zh0).d (n+2*i) (m+1) (by rw [zck,jd1 (by omega),hn]) (by rw [qz8 (by omega),zfz]) (by omega)) fi253 rfl (krC (ρ:=(zaa 32 12 (zaa 30 30 (zaa 11 26 (zab 31 11))))) (k:=30) rfl (krC (ρ:=(zaa 32 12 (zaa 30 30 (zaa 11 26 (zab 31 11))))) (k:=31) xc2 (krN (ρ:=(zaa 32 12 (zaa 30 30 (zaa 11 26 (zab 31 11)))))))) (krC (ρ:=(zaa 32 12 (zaa 30 30 (zaa 11 26 (zab 31 11))))) (k:=30) rfl (krC (ρ:=(zaa 32 12 (zaa 30 30 (zaa 11 26 (zab 31 11))))) (k:=11) xc2 (krN (ρ:=(zaa 32 12 (zaa 30 30 (zaa 11 26 (zab 31 11)))))))) (K:=[(32,⟨71,1,false,rV tH (vs++[u])⟩)]) [] ⟨⟨rfl,SupX.lit rfl⟩,⟨rfl,xb2⟩,trivial⟩ rfl rfl) qB qC qA ?_;refine A8 ?_;exact xh0 (l:=[30,11,12,31,32]) (zab 11 26) (i+1) ⟨(by omega),(by omega)⟩ (zaf rfl (zas rfl (zas rfl zbd))) ((zbb rfl (zat xc2.symm)) ((zbb rfl (zat xc2.symm)) ((zbb rfl (zat rfl)) zbe))) (zaj (zaj (zak rfl zar))) (zam rfl (supJ xb2) (zam rfl (supJ xb2) (zam rfl (supJL rfl) zaz))) (lkOk rfl) rfl rfl (fun _ h=>by cases h)
 ·
  refine A4 ?_;have hil:i=zs.length:=by omega
  subst hil;rw [zci];exact yd0 LentC.mk' rfl (.inr rfl) qC ⟨⟨rfl,(SupX.lit rfl)⟩,⟨rfl,xb2⟩,⟨rfl,xb2⟩,trivial⟩ rfl
theorem jb6 (X:OvJ) (n m p:Nat) (qs:List (Hd×List Zh)) (ls:List (Hd×List Nat)) (ht1:Takes X n m (lmI 64 ls)) (ht2:Takes X m p (frI qs)) (hu:ls.length<=900) (hul: ∀j,((ls.getD j lmI0).2).length<=1000000) (hq:qs.length<=900) (hql: ∀j,((qs.getD j q00).2).length<=10000):
  CtU Tryz.prog X 153 [(30,(bgF (.own (.sl 31 1 0 ls.length)) (.own (.sl 32 1 0 qs.length)))),(31,⟨37,1,false,rV tH ((lmI 64 ls).map (·.1))⟩),(32,⟨71,1,false,rV tH ((frI qs).map (·.1))⟩)] [.own (.ptr 30 0)] n p (.bool true):=by
 refine CtU.intro 99 [30,31,32] func153 rfl ntmps153 rfl rfl ⟨⟨rfl,(SupX.lit rfl)⟩,⟨rfl,xb2⟩,⟨rfl,xb2⟩,trivial⟩ rfl ?_;intro w η hU;refine A6 ?_;dsimp only [List.append];refine A5 ?_;refine RE (z8 (q:=31) hU ht1 (zcq _) lmI_at (zw1 ls.length (fun j=>(ls.getD j lmI0).2) hu hul) fi230) ⟨rfl,trivial⟩ ⟨rfl,rfl,trivial⟩ trivial ?_;refine A2 ?_;refine RGon rfl rfl xa9 rfl ⟨rfl,trivial⟩ trivial trivial ?_;refine A1 ?_;refine RGon rfl rfl (x7 (1) ti77 rfl rfl) rfl ⟨rfl,trivial⟩ ⟨rfl,trivial⟩ trivial ?_;refine RGon rfl rfl (xb4 (ts:=[tE (.slice none 0 0)]) qb0 fi231 rfl ⟨leNil rfl,trivial⟩) rfl ⟨rfl,trivial⟩ trivial trivial ?_;refine A3 ?_;refine RGon rfl rfl xa9 rfl ⟨rfl,trivial⟩ trivial trivial ?_;refine A1 ?_;refine RGon rfl rfl (x7 (2) ti167 rfl rfl) rfl ⟨rfl,trivial⟩ ⟨rfl,trivial⟩ trivial ?_;refine RGon rfl rfl (xb4 (ts:=[tE (.slice none 0 0)]) yr9 fi232 rfl ⟨leNil rfl,trivial⟩) rfl ⟨rfl,trivial⟩ trivial trivial ?_;refine A3 ?_;refine RGon rfl rfl xa9 rfl ⟨rfl,trivial⟩ trivial trivial ?_;refine A1 ?_;refine RGon rfl rfl (x7 (3) ti168 rfl rfl) rfl ⟨rfl,trivial⟩ ⟨rfl,trivial⟩ trivial ?_;refine RGon rfl rfl (xb4 (ts:=[tE (.slice none 0 0)]) ys0 fi233 rfl ⟨leNil rfl,trivial⟩) rfl ⟨rfl,trivial⟩ trivial trivial ?_;refine A3 ?_;refine RGon rfl rfl xa9 rfl ⟨rfl,trivial⟩ trivial trivial ?_;refine A1 ?_;refine RGon rfl rfl (x7 (4) ti169 rfl rfl) rfl ⟨rfl,trivial⟩ ⟨rfl,trivial⟩ trivial ?_;refine RGon rfl rfl (xb4 (ts:=[tE (.slice none 0 0)]) yp8 fi234 rfl ⟨leNil rfl,trivial⟩) rfl ⟨rfl,trivial⟩ trivial trivial ?_;refine A3 ?_;refine RGon rfl rfl xa9 rfl ⟨rfl,trivial⟩ trivial trivial ?_;refine A1 ?_;refine RGon rfl rfl (x7 (5) ti93 rfl rfl) rfl ⟨rfl,trivial⟩ ⟨rfl,trivial⟩ trivial ?_;refine RGon rfl rfl (z8 (q:=32) hU ht2 (zcq _) frI_at (zq7 qs.length (fun j=>(qs.getD j q00).2.map Zx.raw) hq (fun j=>by rw [zcq];exact zce (hql j) (by decide))) fi235) rfl ⟨rfl,trivial⟩ ⟨rfl,rfl,trivial⟩ trivial ?_;refine A3 ?_;refine RGon rfl rfl xa9 rfl ⟨rfl,trivial⟩ trivial trivial ?_;refine A1 ?_;refine RGon rfl rfl (x7 (6) ti170 rfl rfl) rfl ⟨rfl,trivial⟩ ⟨rfl,trivial⟩ trivial ?_;refine RGon rfl rfl (xb4 (ts:=[tE (.slice none 0 0)]) yp3 fi236 rfl ⟨leNil rfl,trivial⟩) rfl ⟨rfl,trivial⟩ trivial trivial ?_;refine A3 ?_;refine RGon rfl rfl xa9 rfl ⟨rfl,trivial⟩ trivial trivial ?_;refine A1 ?_;refine RGon rfl rfl (x7 (7) ti122 rfl rfl) rfl ⟨rfl,trivial⟩ ⟨rfl,trivial⟩ trivial ?_;refine RGon rfl rfl (xb4 (ts:=[tE (.slice none 0 0)]) yr0 fi237 rfl ⟨leNil rfl,trivial⟩) rfl ⟨rfl,trivial⟩ trivial trivial ?_;refine A3 ?_;refine RGon rfl rfl xa9 rfl ⟨rfl,trivial⟩ trivial trivial ?_;refine A1 ?_;refine RGon rfl rfl (x7 (8) ti133 rfl rfl) rfl ⟨rfl,trivial⟩ ⟨rfl,trivial⟩ trivial ?_;refine RGon rfl rfl (xb4 (ts:=[tE (.slice none 0 0)]) yt5 fi238 rfl ⟨leNil rfl,trivial⟩) rfl ⟨rfl,trivial⟩ trivial trivial ?_;refine A3 ?_;refine RGon rfl rfl xa9 rfl ⟨rfl,trivial⟩ trivial trivial ?_;refine A1 ?_;refine RGon rfl rfl (x7 (9) ti171 rfl rfl) rfl ⟨rfl,trivial⟩ ⟨rfl,trivial⟩ trivial ?_;refine RGon rfl rfl (xb4 (ts:=[tE (.slice none 0 0)]) yr2 fi239 rfl ⟨leNil rfl,trivial⟩) rfl ⟨rfl,trivial⟩ trivial trivial ?_;refine A3 ?_;refine RGon rfl rfl xa9 rfl ⟨rfl,trivial⟩ trivial trivial ?_;refine A1 ?_;refine RGon rfl rfl (x7 (10) ti172 rfl rfl) rfl ⟨rfl,trivial⟩ ⟨rfl,trivial⟩ trivial ?_;refine RGon rfl rfl (xb4 (ts:=[tE (.slice none 0 0)]) yw0 fi240 rfl ⟨leNil rfl,trivial⟩) rfl ⟨rfl,trivial⟩ trivial trivial ?_;refine A3 ?_;refine RGon rfl rfl xa9 rfl ⟨rfl,trivial⟩ trivial trivial ?_;refine A1 ?_;refine RGon rfl rfl (x7 (11) ti173 rfl rfl) rfl ⟨rfl,trivial⟩ ⟨rfl,trivial⟩ trivial ?_;refine RGon rfl rfl (xb4 (ts:=[tE (.slice none 0 0)]) yp5 fi241 rfl ⟨leNil rfl,trivial⟩) rfl ⟨rfl,trivial⟩ trivial trivial ?_;refine A3 ?_;refine RGon rfl rfl xa9 rfl ⟨rfl,trivial⟩ trivial trivial ?_;refine A1 ?_;refine RGon rfl rfl (x7 (12) ti174 rfl rfl) rfl ⟨rfl,trivial⟩ ⟨rfl,trivial⟩ trivial ?_;refine RGon rfl rfl (xb4 (ts:=[tE (.slice none 0 0)]) yr7 fi242 rfl ⟨leNil rfl,trivial⟩) rfl ⟨rfl,trivial⟩ trivial trivial ?_
 refine A3 ?_;refine RGon rfl rfl xa9 rfl ⟨rfl,trivial⟩ trivial trivial ?_;refine A1 ?_;refine RGon rfl rfl (x7 (13) ti175 rfl rfl) rfl ⟨rfl,trivial⟩ ⟨rfl,trivial⟩ trivial ?_;refine RGon rfl rfl (xb4 (ts:=[tE (.slice none 0 0)]) yi9 fi243 rfl ⟨leNil rfl,trivial⟩) rfl ⟨rfl,trivial⟩ trivial trivial ?_;refine A3 ?_;refine RGon rfl rfl xa9 rfl ⟨rfl,trivial⟩ trivial trivial ?_;refine A1 ?_;refine RGon rfl rfl (x7 (14) ti176 rfl rfl) rfl ⟨rfl,trivial⟩ ⟨rfl,trivial⟩ trivial ?_;refine RGon rfl rfl (xb4 (ts:=[tE (.slice none 0 0)]) yw5 fi244 rfl ⟨leNil rfl,trivial⟩) rfl ⟨rfl,trivial⟩ trivial trivial ?_;refine A3 ?_;refine RGon rfl rfl xa9 rfl ⟨rfl,trivial⟩ trivial trivial ?_;refine A1 ?_;refine RGon rfl rfl (x7 (15) ti177 rfl rfl) rfl ⟨rfl,trivial⟩ ⟨rfl,trivial⟩ trivial ?_;refine RGon rfl rfl (xb4 (ts:=[tE (.slice none 0 0)]) yt2 fi245 rfl ⟨leNil rfl,trivial⟩) rfl ⟨rfl,trivial⟩ trivial trivial ?_;refine A3 ?_;refine RGon rfl rfl xa9 rfl ⟨rfl,trivial⟩ trivial trivial ?_;refine A1 ?_;refine RGon rfl rfl (x7 (16) ti178 rfl rfl) rfl ⟨rfl,trivial⟩ ⟨rfl,trivial⟩ trivial ?_;refine RGon rfl rfl (xb4 (ts:=[tE (.slice none 0 0)]) yh6 fi246 rfl ⟨leNil rfl,trivial⟩) rfl ⟨rfl,trivial⟩ trivial trivial ?_;refine A3 ?_;refine RGon rfl rfl xa9 rfl ⟨rfl,trivial⟩ trivial trivial ?_;refine A1 ?_;refine RGon rfl rfl (x7 (17) ti179 rfl rfl) rfl ⟨rfl,trivial⟩ ⟨rfl,trivial⟩ trivial ?_;refine RGon rfl rfl (xb4 (ts:=[tE (.slice none 0 0)]) yp4 fi247 rfl ⟨leNil rfl,trivial⟩) rfl ⟨rfl,trivial⟩ trivial trivial ?_;refine A3 ?_;refine RGon rfl rfl xa9 rfl ⟨rfl,trivial⟩ trivial trivial ?_;refine A1 ?_;refine RGon rfl rfl (x7 (18) ti180 rfl rfl) rfl ⟨rfl,trivial⟩ ⟨rfl,trivial⟩ trivial ?_;refine RGon rfl rfl (xb4 (ts:=[tE (.slice none 0 0)]) yq1 fi248 rfl ⟨leNil rfl,trivial⟩) rfl ⟨rfl,trivial⟩ trivial trivial ?_;refine A3 ?_;refine RGon rfl rfl xa9 rfl ⟨rfl,trivial⟩ trivial trivial ?_;refine A1 ?_;refine RGon rfl rfl (x7 (19) ti181 rfl rfl) rfl ⟨rfl,trivial⟩ ⟨rfl,trivial⟩ trivial ?_;refine RGon rfl rfl (xb4 (ts:=[tE (.slice none 0 0)]) yk3 fi249 rfl ⟨leNil rfl,trivial⟩) rfl ⟨rfl,trivial⟩ trivial trivial ?_;refine A3 ?_;refine RGon rfl rfl xa9 rfl ⟨rfl,trivial⟩ trivial trivial ?_;refine A1 ?_;refine RGon rfl rfl (x7 (20) ti182 rfl rfl) rfl ⟨rfl,trivial⟩ ⟨rfl,trivial⟩ trivial ?_;refine RGon rfl rfl (xb4 (ts:=[tE (.slice none 0 0)]) ys6 fi250 rfl ⟨leNil rfl,trivial⟩) rfl ⟨rfl,trivial⟩ trivial trivial ?_;refine A3 ?_;refine RGon rfl rfl xa9 rfl ⟨rfl,trivial⟩ trivial trivial ?_;refine A1 ?_;refine RGon rfl rfl (x7 (21) ti183 rfl rfl) rfl ⟨rfl,trivial⟩ ⟨rfl,trivial⟩ trivial ?_;refine RGon rfl rfl (xb4 (ts:=[tE (.slice none 0 0)]) yj1 fi251 rfl ⟨leNil rfl,trivial⟩) rfl ⟨rfl,trivial⟩ trivial trivial ?_;refine A3 ?_;refine RGon rfl rfl xa9 rfl ⟨rfl,trivial⟩ trivial trivial ?_;refine A1 ?_;refine RGon rfl rfl (x7 (22) ti184 rfl rfl) rfl ⟨rfl,trivial⟩ ⟨rfl,trivial⟩ trivial ?_;refine RGon rfl rfl (xb4 (ts:=[tE (.slice none 0 0)]) yp6 fi252 rfl ⟨leNil rfl,trivial⟩) rfl ⟨rfl,trivial⟩ trivial trivial ?_;refine A5 ?_;exact zc6 hU rfl rfl rfl
theorem handQ {X:OvJ} {n:Nat} {qs:List (Hd×List Zh)} {i:Nat} (hJ0: ∀w,X.J n w-> ∀q∈frI qs,HdOk w q.1 q.2) (hD: ∀p∈frI qs,∀b,p.1.b=some b->X.D b) (hi:i < qs.length) {F:Dom} {w:World} {η:Env} {vs:List Value} (hJ:X.J n w) (hv:SatL F w η [.own (.ptr 30 0),.val (tH (qs.getD i q00).1)] vs):
  SatL (fun b=>F b∨X.D b) w η [.own (.ptr 30 0),.val (tLX 41 4 true tZh (qs.getD i q00).1 (qs.getD i q00).2 [])] vs:=by
 have hm:((qs.getD i q00).1,(⟨41,4,true,rV tZh (qs.getD i q00).2⟩:HEnt))∈frI qs:=by
  rw [zbh,zbk hi];exact zcb.2 ⟨qs[i],zdw hi,rfl⟩
 match vs,hv with
 | [x,y],hv=>
  obtain ⟨h1,h2,h3⟩:=hv;have h2:y=(qs.getD i q00).1.v:=h2;refine ⟨h1,?_,trivial⟩;rw [h2];exact HdOk.lxp (fun _=>Free.zh) (fun b hb=> .inr (hD _ hm b hb)) (hJ0 w hJ _ hm)
 | [],hv=>exact hv.elim
 | [_],hv=>exact hv.2.elim
 | _::_::_::_,hv=>exact hv.2.2.elim
theorem hd_at {qs:List (Hd×List Zh)} {i:Nat} (h:i < qs.length):(rV tH (qs.map (·.1)))[i]? =some (.val (tH (qs.getD i q00).1)):=by
 rw [zbh,zbk h];simp [rV,h]
theorem qe3 {qs:List (Hd×List Zh)} {i:Nat} (h:i < qs.length):((qs.take (i+1)).flatMap fun q=>hdH q.2)=((qs.take i).flatMap fun q=>hdH q.2)++hdH (qs.getD i q00).2:=by
 rw [zcn h,zfk,zbh,zbk h];simp
theorem fq_hd {qs:List (Hd×List Zh)} {i:Nat} (h:i < qs.length):(qs.map (·.1)).take (i+1)=(qs.map (·.1)).take i++[(qs.getD i q00).1]:=by
 rw [zcn (by simpa using h),zbh,zbk h];simp
theorem fq_len {qs:List (Hd×List Zh)} {i:Nat}:((qs.take i).flatMap fun q=>hdH q.2).length<=(qs.flatMap fun q=>hdH q.2).length:=by
 have h:(qs.flatMap fun q=>hdH q.2)=((qs.take i).flatMap fun q=>hdH q.2)++((qs.drop i).flatMap fun q=>hdH q.2):=by rw [<-zfk,List.take_append_drop]
 rw [h,zck];omega
theorem zu3 (X:OvJ) (n m p:Nat) (qs:List (Hd×List Zh)) (ls:List (Hd×List Nat)) (ht1:Takes X n m (lmI 64 ls)) (ht2:Takes X m p (frI qs)) (hu:ls.length<=900) (hul: ∀j,((ls.getD j lmI0).2).length<=1000000) (hq:qs.length<=900) (hql: ∀j,((qs.getD j q00).2).length<=10000) (hls:ls.map (·.1)=qs.flatMap fun q=>hdH q.2) (hJ0: ∀w,X.J n w-> ∀q∈frI qs,HdOk w q.1 q.2):
  CtU Tryz.prog X 69 [(20,⟨71,1,false,rV tH (qs.map (·.1))⟩)] [.own (.sl 20 1 0 qs.length)] n p (.bool true):=by
 have hml:(qs.map (·.1)).length=qs.length:=zcq _;have hlsl:(qs.flatMap fun q=>hdH q.2).length<=900:=by rw [<-hls,zcq];exact hu
 have hLb: ∀i,i<=qs.length->(((qs.take i).flatMap fun q=>hdH q.2).length)<=50000:=fun i _=>by have:=fq_len (qs:=qs) (i:=i);omega
 refine CtU.intro 99 [20] func69 rfl ntmps69 rfl rfl ⟨⟨rfl,xb2⟩,trivial⟩ rfl ?_;intro w η hU;refine A7 ?_;refine R0 (z6 (vs:=[]) (r:= .agg #[.slice none 0 0,.slice none 0 0,.slice none 0 0,.slice none 0 0,.slice none 0 0,.slice none 0 0,.slice none 0 0,.slice none 0 0,.slice none 0 0,.slice none 0 0,.slice none 0 0,.slice none 0 0,.slice none 0 0,.slice none 0 0,.slice none 0 0,.slice none 0 0,.slice none 0 0,.slice none 0 0,.slice none 0 0,.slice none 0 0,.slice none 0 0,.slice none 0 0,.slice none 0 0]) rfl (fun w=>by kernel_rfl)) ?_;refine RE (qt0 (k:=6) (n:=23) _ rfl rfl rfl rfl) ⟨rfl,trivial⟩ trivial ⟨rfl,trivial⟩ ?_;refine A5 ?_;refine zv7 (q:=6) 33 37 1 false 0 rfl rfl rfl rfl (fun _=>rfl) rfl rfl ?_;refine zv7 (q:=6) 34 71 1 false 5 rfl rfl rfl rfl (fun _=>rfl) rfl rfl ?_;refine A5 ?_;refine xf6 (fun (i:Nat)=>i<=qs.length) (fun (i:Nat)=>upd (upd (upd (fun _=>none) 0 (some (.own (.sl 20 1 0 qs.length)))) 3 (some (.own (.ptr 6 0)))) 4 (some (.val (tI i)))) (fun (i:Nat)=>upd (upd (upd (upd (upd (fun _=>none) 6 (some ((bgF (.own (.sl 33 1 0 (((qs.take i).flatMap fun q=>hdH q.2).length))) (.own (.sl 34 1 0 i)))))) 33 (some (⟨37,1,false,rV tH ((qs.take i).flatMap fun q=>hdH q.2)⟩))) 34 (some (⟨71,1,false,rV tH ((qs.map (·.1)).take i)⟩))) 20 (some (⟨71,1,false,rV tH (qs.map (·.1))⟩))) 99 (some (⟨n,1,false,[]⟩))) (nm [6,33,34,20,99,33,34]) (fun (i:Nat)=>qs.length - i) (0) (zbs _) (zae rfl (zan rfl (zan rfl zay))) ((zaq rfl zap) ((zaq rfl zap) ((zaq rfl zap) ((zaq rfl zap) ((zaq rfl zap) zax))))) (zaj (zak rfl (zak rfl zar))) (zam rfl (supJL rfl) (zam rfl (supJ xb2) (zam rfl (supJ xb2) (zam rfl (supJ xb2) (zam rfl (supJL rfl) zaz))))) (lkOk rfl) ?_;intro i hI;refine A9 ?_;refine xa6 rfl (fun h318=> ?_) (fun h318=> ?_)
 ·
  refine A8 ?_;refine R2 (zag sl93 rfl) rfl rfl ?_;refine RE (x7 (i) ti71 (hd_at (by omega)) (by omega)) ⟨rfl,trivial⟩ ⟨rfl,trivial⟩ trivial ?_;refine RE (jb4 (ps':=[.own (.ptr 30 0),.val (tH (qs.getD i q00).1)]) (fun j=>cond (Nat.beq j 30) 6 (cond (Nat.beq j 31) 33 (cond (Nat.beq j 32) 34 (cond (Nat.beq j 11) 41 (cond (Nat.beq j 12) 42 j))))) hU (c_putF ((qs.take i).flatMap fun q=>hdH q.2) ((qs.map (·.1)).take i) (qs.getD i q00).1 (qs.getD i q00).2 ((qs.take i).flatMap fun q=>hdH q.2).length i rfl (by rw [zcz];omega) (hLb i (by omega)) (hql i) (by omega)) fi154 rfl (fun F w1 η1 vs hJ hv=>handQ hJ0 ht2.D (by omega) hJ hv) (krC (ρ:=(fun j=>cond (Nat.beq j 30) 6 (cond (Nat.beq j 31) 33 (cond (Nat.beq j 32) 34 (cond (Nat.beq j 11) 41 (cond (Nat.beq j 12) 42 j)))))) (k:=30) rfl (krC (ρ:=(fun j=>cond (Nat.beq j 30) 6 (cond (Nat.beq j 31) 33 (cond (Nat.beq j 32) 34 (cond (Nat.beq j 11) 41 (cond (Nat.beq j 12) 42 j)))))) (k:=31) xc2 (krC (ρ:=(fun j=>cond (Nat.beq j 30) 6 (cond (Nat.beq j 31) 33 (cond (Nat.beq j 32) 34 (cond (Nat.beq j 11) 41 (cond (Nat.beq j 12) 42 j)))))) (k:=32) xc2 (krN (ρ:=(fun j=>cond (Nat.beq j 30) 6 (cond (Nat.beq j 31) 33 (cond (Nat.beq j 32) 34 (cond (Nat.beq j 11) 41 (cond (Nat.beq j 12) 42 j)))))))))) (krC (ρ:=(fun j=>cond (Nat.beq j 30) 6 (cond (Nat.beq j 31) 33 (cond (Nat.beq j 32) 34 (cond (Nat.beq j 11) 41 (cond (Nat.beq j 12) 42 j)))))) (k:=30) rfl (krC (ρ:=(fun j=>cond (Nat.beq j 30) 6 (cond (Nat.beq j 31) 33 (cond (Nat.beq j 32) 34 (cond (Nat.beq j 11) 41 (cond (Nat.beq j 12) 42 j)))))) (k:=11) xc2 (krC (ρ:=(fun j=>cond (Nat.beq j 30) 6 (cond (Nat.beq j 31) 33 (cond (Nat.beq j 32) 34 (cond (Nat.beq j 11) 41 (cond (Nat.beq j 12) 42 j)))))) (k:=12) xc2 (krN (ρ:=(fun j=>cond (Nat.beq j 30) 6 (cond (Nat.beq j 31) 33 (cond (Nat.beq j 32) 34 (cond (Nat.beq j 11) 41 (cond (Nat.beq j 12) 42 j)))))))))) (fun x hx=>(by
    simp only [zbt,zed,or_false] at hx;rcases hx with rfl | rfl | rfl
    ·exact qq9
    ·exact ye0
    ·exact ye0)) (.val zao jq0) ⟨⟨rfl,SupX.lit rfl⟩,⟨rfl,xb2⟩,⟨rfl,xb2⟩,trivial⟩ rfl) ⟨rfl,rfl,trivial⟩ ⟨rfl,rfl,rfl,rfl,trivial⟩ ⟨rfl,rfl,trivial⟩ ?_
  refine A8 ?_;have e4:(((qs.take (i+1)).flatMap fun q=>hdH q.2).length)=(((qs.take i).flatMap fun q=>hdH q.2).length)+2*(qs.getD i q00).2.length:=by rw [qe3 (by omega),zck,zh6]
  exact xh0 (l:=[6,33,34,20,99,33,34]) (zaa 34 42 (zab 33 41)) (i+1) ⟨(by omega),(by omega)⟩ (zaf rfl (zas rfl (zas rfl zbd))) ((zbb rfl zap) ((zbb rfl (zat xc2.symm)) ((zbb rfl (zat (by rw [fq_hd (by omega)];exact xc2.symm))) ((zbb rfl (zat (by rw [qe3 (by omega)];exact xc2.symm))) ((zbb rfl (zat (by dsimp only;rw [e4];rfl))) zbe))))) (zaj (zak rfl (zak rfl zar))) (zam rfl (supJL rfl) (zam rfl (supJ xb2) (zam rfl (supJ xb2) (zam rfl (supJ xb2) (zam rfl (supJL rfl) zaz))))) (lkOk rfl) rfl rfl (fun _ h=>by cases h;rfl)
 ·
  refine A6 ?_;have hil:i=qs.length:=by omega
  subst hil;have hfree: ∀x∈([(30,(bgF (.own (.sl 31 1 0 ls.length)) (.own (.sl 32 1 0 qs.length)))),(31,⟨37,1,false,rV tH ((lmI 64 ls).map (·.1))⟩),(32,⟨71,1,false,rV tH ((frI qs).map (·.1))⟩)]:List (Nat×HEnt)),∀e∈x.2.ts,Wk e e:=fun x hx=>by
   simp only [zbt,zed,or_false] at hx;rcases hx with rfl | rfl | rfl
   ·exact qq9
   ·exact ye0
   ·exact ye0
  have e1:((qs.take qs.length).flatMap fun q=>hdH q.2)=(lmI 64 ls).map (·.1):=by rw [zci,zv5,hls]
  have e2:((qs.map (·.1)).take qs.length)=(frI qs).map (·.1):=by rw [List.take_of_length_le (by omega),zp9]
  have e3:(((qs.take qs.length).flatMap fun q=>hdH q.2).length)=ls.length:=by rw [zci,<-hls,zcq]
  refine xp2 (k:=33) (e':=⟨37,1,false,rV tH ((lmI 64 ls).map (·.1))⟩) rfl (by rw [e1]) ?_;refine xp2 (k:=34) (e':=⟨71,1,false,rV tH ((frI qs).map (·.1))⟩) rfl (by rw [e2]) ?_;refine xp2 (k:=6) (e':=(bgF (.own (.sl 33 1 0 ls.length)) (.own (.sl 34 1 0 qs.length)))) rfl (by rw [e3]) ?_;refine A2 ?_;refine RE (yv7 (fun j=>cond (Nat.beq j 30) 6 (cond (Nat.beq j 31) 33 (cond (Nat.beq j 32) 34 j))) hU (jb6 X n m p qs ls ht1 ht2 hu hul hq hql) fi153 rfl (krC (ρ:=(fun j=>cond (Nat.beq j 30) 6 (cond (Nat.beq j 31) 33 (cond (Nat.beq j 32) 34 j)))) (k:=30) rfl (krC (ρ:=(fun j=>cond (Nat.beq j 30) 6 (cond (Nat.beq j 31) 33 (cond (Nat.beq j 32) 34 j)))) (k:=31) xc2 (krC (ρ:=(fun j=>cond (Nat.beq j 30) 6 (cond (Nat.beq j 31) 33 (cond (Nat.beq j 32) 34 j)))) (k:=32) xc2 (krN (ρ:=(fun j=>cond (Nat.beq j 30) 6 (cond (Nat.beq j 31) 33 (cond (Nat.beq j 32) 34 j)))))))) rfl (by intro e he;rw [zbq.1 he];exact .ptr) hfree) ⟨rfl,trivial⟩ ⟨rfl,rfl,rfl,rfl,trivial⟩ trivial ?_;refine A4 ?_;exact zc6 hU rfl rfl rfl
abbrev tIX (u:Hd) (l ms:List Int):Ty:=tLX 3 1 false tIb u l ms
abbrev tStX (o:Int) (b p ms:List Int) (u v:Hd):Ty:=tS [⟨1,false,tI o⟩,⟨1,false,tIX u b ms⟩,⟨1,false,tIX v p ms⟩]
theorem ys2 {o:Int} {b p ms:List Int} {u v:Hd}:Le (tStX o b p ms u v) (tState o b p):=Le.tS ⟨⟨rfl,rfl,zao⟩,⟨rfl,rfl,zb9⟩,⟨rfl,rfl,zb9⟩,trivial⟩
theorem ya4 {l:List Int} (h:l=[]):Le (tE (.slice none 0 0)) (tIX hd0 l []):=by subst h;exact lx_nil (by decide) fun _=>rfl
theorem yc2 {o:Int} {b p:List Int} (ho:o=0) (hb:b=[]) (hp:p=[]):Le (tS [⟨1,false,tI 0⟩,⟨1,false,tE (.slice none 0 0)⟩,⟨1,false,tE (.slice none 0 0)⟩]) (tStX o b p [] hd0 hd0):=by
 subst ho hb hp;exact Le.tS ⟨⟨rfl,rfl,zao⟩,⟨rfl,rfl,ya4 rfl⟩,⟨rfl,rfl,ya4 rfl⟩,trivial⟩
theorem NewH.one0 {n:Nat}:NewH n [hd0]:=fun u hu b hb=>by cases zbq.1 hu;cases hb
abbrev hdS (nw:Nat) (a:Hd×Hd×Hd):Prop:=NewH nw [a.1,a.2.1,a.2.2]/\SepH [a.1,a.2.1,a.2.2]
theorem hdS.none {n:Nat}:hdS n (hd0,hd0,hd0):=by
 have h0: ∀u∈[hd0,hd0,hd0],u.b=Option.none:=fun u hu=>by
  have e:u=hd0:=by simpa using hu
  subst e;rfl
 refine ⟨fun u hu b hb=> ?_,zu7 h0⟩;rw [h0 u hu] at hb;cases hb
theorem yd4 {F:Dom} {w:World}:(tS [⟨1,false,tI 0⟩,⟨1,false,tE (.slice none 0 0)⟩,⟨1,false,tE (.slice none 0 0)⟩]).p F w (.agg #[.int .i64 0,.slice none 0 0,.slice none 0 0]):=⟨_,rfl,rfl,⟨fun _=>rfl,rfl⟩,⟨fun _=>rfl,rfl⟩,⟨fun _=>rfl,rfl⟩,trivial⟩
theorem hdS.mk {n:Nat} {u v q:Hd} (h1:NewH n [u]) (h2:NewH n [v]) (h3:NewH n [q]) (f1:FreshH [q] [u]) (f2:FreshH [q,u] [v]):hdS n (u,v,q):=⟨NewH.app (us:=[u]) (vs:=[v,q]) h1 (NewH.app (us:=[v]) (vs:=[q]) h2 h3),
 zgn.2 ⟨fun x hx b hb e=>by
   rcases zbt.1 hx with rfl | hx
   ·exact f2 u (by simp) b hb _ (by simp) e
   ·cases zbq.1 hx;exact f1 q (by simp) b e u (by simp) hb,zgn.2 ⟨fun x hx b hb e=>by
   cases zbq.1 hx;exact f2 q (by simp) b e v (by simp) hb,SepH.one⟩⟩⟩
theorem js1 (l:List Deal) (hD: ∀d∈l,d.share.dig):
  CtN Tryz.prog 21 [tL 7 true tDeal l] (fun nw=>tEx (hdI nw) (fun u:Hd×Hd=>tT [tStX 0 (if validL l then (List.replicate l.length (0:Int)) else []) (if validL l then (List.replicate l.length (0:Int)) else []) [] u.1 u.2,tI (if validL l then 0 else 2)])):=by
 refine CtN.intro func21 rfl ntmps21 rfl ?_;intro w F;refine A2 ?_;refine RE (xa3 (k:=2) (n:=3) (agg:=true) zr25.1 zr25.2 rfl) trivial trivial qA ?_;refine A7 ?_;refine R1 (x3 (xw1 l hD) fi13 rfl) rfl ?_;refine A3 ?_;refine xc7 rfl (fun h93=> ?_) (fun h93=> ?_)
 ·
  have hvl:validL l=false:=by simpa using h93
  refine A2 ?_;refine R0 (xq9 (r:=tS [⟨1,false,tI 0⟩,⟨1,false,tE (.slice none 0 0)⟩,⟨1,false,tE (.slice none 0 0)⟩]) (ts:=[]) bu25 (fun _ _=>yd4) ⟨_,rfl⟩ rfl zao) ?_;refine A6 ?_;refine yq2 (r:=tT [tStX 0 [] [] [] hd0 hd0,tI 2]) (by rw [hvl];exact xo7 (I:=hdI w.heap.size) (r:=fun u:Hd×Hd=>tT [tStX 0 [] [] [] u.1 u.2,tI 2]) (hd0,hd0) hdI.none) ?_;exact EN (rs:=[.cell 2 25,.tmp 3]) rfl rfl ⟨⟨_,_,_,_,_,rfl,rfl,ti25,(yc2 rfl rfl rfl)⟩,⟨_,rfl,zao⟩,trivial⟩
 ·
  have hvl:validL l=true:=by simpa using h93
  have hl16:=xf8 hvl;refine A3 ?_;refine qd3 (n:=6) mixed ?_;refine A2 ?_;refine RE (xe5 (k:=10) (t:=tIb 0) (ts:=rV tIb (List.replicate l.length (0:Int))) l.length l.length zgt el3 (fun _ _=>rfl) rfl (by omega) (by omega) (zbm _) (by omega) (by omega) (yd8 l.length 0 rfl)) qB trivial qA ?_;refine A2 ?_;refine RE (xe5 (k:=13) (t:=tIb 0) (ts:=rV tIb (List.replicate l.length (0:Int))) l.length l.length zgt el3 (fun _ _=>rfl) rfl (by omega) (by omega) (zbm _) (by omega) (by omega) (yd8 l.length 0 rfl)) qB trivial qA (qo7 (by kernel_rfl) ?_);refine yg2 (t:=10) (k:=10) (f:=tIb) (xs:=(List.replicate l.length (0:Int))) (ms:=[]) [] rfl rfl (NoLb.mk') .nil (by rw [zfg]) (by simp) (fun u1 nu1 fu1=> ?_);refine yg2 (t:=13) (k:=13) (f:=tIb) (xs:=(List.replicate l.length (0:Int))) (ms:=[]) [u1] rfl rfl (NoLb.mk') (.slot (s:=10) rfl WitT.lx) (by rw [zfg]) (by simp) (fun u2 nu2 fu2=> ?_);refine xa5 (xb7 (r:=tS [⟨1,false,(tE (.int .i64 0))⟩,⟨1,false,tIX u1 (List.replicate l.length (0:Int)) []⟩,⟨1,false,tIX u2 (List.replicate l.length (0:Int)) []⟩]) (ts:=[(1,tIX u1 (List.replicate l.length (0:Int)) []),(2,tIX u2 (List.replicate l.length (0:Int)) [])]) bu25 zr25.2 (Bc 1 rfl rfl rfl (Bc 2 rfl rfl rfl zao))) qB trivial trivial rfl (xa5 (xa8 (es:=3) (agg:=true) (0) ti25 rfl rfl rfl) qB qA trivial rfl (xa5 xb8 qA trivial trivial rfl (xd1 ?_)));refine A2 ?_;refine yq2 (r:=tT [tStX 0 (List.replicate l.length (0:Int)) (List.replicate l.length (0:Int)) [] u1 u2,tI 0]) (by rw [hvl];exact xo7 (I:=hdI w.heap.size) (r:=fun u:Hd×Hd=>tT [tStX 0 (List.replicate l.length (0:Int)) (List.replicate l.length (0:Int)) [] u.1 u.2,tI 0]) (u1,u2) ⟨NewH.app (us:=[u1]) (vs:=[u2]) nu1 nu2,SepH.fresh SepH.one SepH.one fu2⟩) ?_;exact EN (rs:=[.cell 2 25,.tmp 3]) rfl rfl ⟨⟨_,_,_,_,_,rfl,rfl,ti25,zao⟩,⟨_,rfl,zao⟩,trivial⟩
theorem qw1 (l:List Deal) (m a o:Int) (b p:List Int) (hv:validL l=true) (hd: ∀d∈l,d.share.dig) (hb:b.length=l.length) (hp:p.length=l.length) (hw0: ∀i,i < l.length->wIn (b.getD i 0)=true/\wIn (p.getD i 0)=true) (ho:wIn o=true) (ha:wIn a=true):
  CtX Tryz.prog 73 [(100,⟨99,1,false,[.val (tI o),.own (.sl 101 1 0 l.length),.own (.sl 102 1 0 l.length),.val (tL 7 true tDeal l)]⟩),(101,⟨3,1,false,rI b⟩),(102,⟨3,1,false,rI p⟩)] [.own (.ptr 100 0),.val (tI m),.val (tI a)] (fun (nw:Nat) (u:Hd)=>NewH nw [u]) (fun u=> .val (tT [tIX u (bif (dvAll l m b p a).2 then (dvAll l m b p a).1.q.set 0 (dvAll l m b p a).1.r else []) [],tB ((dvAll l m b p a).2 && wIn (o+(dvAll l m b p a).1.r))])) (fun _=>[(100,⟨99,1,false,[.val (tI (bif (dvAll l m b p a).2 then o+(dvAll l m b p a).1.r else o)),.own (.sl 101 1 0 l.length),.own (.sl 102 1 0 l.length),.val (tL 7 true tDeal l)]⟩),(101,⟨3,1,false,rI (dvAll l m b p a).1.b⟩),(102,⟨3,1,false,rI (dvAll l m b p a).1.p⟩)]) []:=by
 refine CtX.intro [100,101,102] func73 rfl ntmps73 rfl rfl ⟨⟨rfl,(SupX.lit rfl)⟩,⟨rfl,xd2⟩,⟨rfl,xd2⟩,trivial⟩ ?_;intro w F η;have hl16:=xf8 hv;obtain ⟨a1,a2⟩:=xd0.1 ha;obtain ⟨o1,o2⟩:=xd0.1 ho;have hI0:DvI l 0 ⟨b,p,List.replicate (l.length+1) 0,a⟩:=⟨hb,hp,List.length_replicate,hw0,by simp only [Int.natCast_zero];omega⟩
 refine A3 ?_;refine RE (xa3 (k:=6) (n:=1) (agg:=false) zr23.1 zr23.2 rfl) trivial trivial ⟨rfl,trivial⟩ ?_;refine RE (xa3 (k:=7) (n:=1) (agg:=false) zr4.1 zr4.2 rfl) trivial trivial ⟨rfl,trivial⟩ ?_;refine A7 ?_;refine RE (x7 (3) ti22 rfl rfl) ⟨rfl,trivial⟩ ⟨rfl,trivial⟩ trivial ?_;refine A2 ?_;refine RE (xe5 (k:=19) (t:=tE (.int .i64 0)) (ts:=rI (List.replicate (l.length+1) 0)) (l.length+1) (l.length+1) zgt el3 (fun _ _=>rfl) rfl (by omega) (by omega) (zbm _) (by omega) (by omega) (qr0 _)) ⟨rfl,rfl,trivial⟩ trivial ⟨rfl,trivial⟩ ?_;refine RE (xa3 (k:=8) (n:=1) (agg:=false) zr23.1 zr23.2 rfl) trivial trivial ⟨rfl,trivial⟩ ?_;refine A6 ?_;refine RE (xa3 (k:=9) (n:=1) (agg:=false) zr3.1 zr3.2 rfl) trivial trivial ⟨rfl,trivial⟩ ?_;refine A9 ?_;refine RE (x7 (3) ti22 rfl rfl) ⟨rfl,trivial⟩ ⟨rfl,trivial⟩ trivial ?_;refine A1 ?_;refine RE (xe9 (fun j=>cond (Nat.beq j 2) 26 (1026)) (yb7 l m) fi126 rfl (krN (ρ:=fun j=>cond (Nat.beq j 2) 26 (1026))) (krC (ρ:=fun j=>cond (Nat.beq j 2) 26 (1026)) (k:=2) rfl (krC (ρ:=fun j=>cond (Nat.beq j 2) 26 (1026)) (k:=3) rfl (krN (ρ:=fun j=>cond (Nat.beq j 2) 26 (1026))))) ⟨⟨rfl,(SupX.lit rfl)⟩,⟨rfl,(SupX.lit rfl)⟩,trivial⟩ rfl) ⟨rfl,rfl,trivial⟩ trivial ⟨rfl,rfl,trivial⟩ ?_;refine A3 ?_;refine yi1 (caps:=[.ptr 1 0,.ptr 2 0]) (κ:=Unit) (zaa 2 1026 (zab 1 26)) rfl (fun _ h=>h) trivial (yb6 l m hl16) fi200 rfl ⟨rfl,rfl,trivial⟩ rfl rfl (fun _ _=>rfl) (upd (upd (upd (upd (upd (fun _=>none) 3 (some (.own (.ptr 3 0)))) 6 (some (.own (.ptr 6 0)))) 7 (some (.own (.ptr 7 0)))) 8 (some (.own (.ptr 8 0)))) 9 (some (.own (.ptr 9 0)))) [3,6,7,8,9,19,100,101,102] [3,6,7,8,9] (zan rfl (zan rfl (zan rfl (zan rfl (zan rfl zay))))) (zak rfl (zak rfl (zak rfl (zak rfl (zak rfl zar))))) rfl (lkOk rfl) (fun (k:Nat) (s:Dv)=>DvI l k s/\dvRun l s ((apl l m).drop k)=(dvAll l m b p a)) (fun (k:Nat) (s:Dv)=>upd (upd (upd (upd (upd (upd (upd (upd (upd (fun _=>none) 3 (some (⟨192,1,false,[.own (.ptr 100 0)]⟩))) 6 (some (⟨23,1,false,[.val (tIs [])]⟩))) 7 (some (⟨4,1,false,[.val (tE (.bool false))]⟩))) 8 (some (⟨23,1,false,[.own (.sl 19 1 0 (l.length+1))]⟩))) 9 (some (⟨3,1,false,[.val (tI s.r)]⟩))) 19 (some (⟨3,1,false,rI s.q⟩))) 100 (some (⟨99,1,false,[.val (tI o),.own (.sl 101 1 0 l.length),.own (.sl 102 1 0 l.length),.val (tL 7 true tDeal l)]⟩))) 101 (some (⟨3,1,false,rI s.b⟩))) 102 (some (⟨3,1,false,rI s.p⟩))) (fun k x=>(zam rfl (supJ xd2) (zam rfl (supJ xd2) (zam rfl (supJL rfl) (zam rfl (supJ xd2) (zam rfl (supJL rfl) (zam rfl (supJL rfl) (zam rfl (supJL rfl) (zam rfl (supJL rfl) (zam rfl (supJL rfl) zaz)))))))))) (fun k x y hy=>by simp only [zbt,zed,or_false] at hy;rcases hy with rfl | rfl <;> rfl) (fun e (_:Unit)=>e= .ret/\(dvAll l m b p a).2=false) (fun (_:Unit)=>upd (upd (upd (upd (upd (fun _=>none) 6 (some (⟨23,1,false,[.val (tE (.slice none 0 0))]⟩))) 7 (some (⟨4,1,false,[.val (tE (.bool false))]⟩))) 100 (some (⟨99,1,false,[.val (tI o),.own (.sl 101 1 0 l.length),.own (.sl 102 1 0 l.length),.val (tL 7 true tDeal l)]⟩))) 101 (some (⟨3,1,false,rI (dvAll l m b p a).1.b⟩))) 102 (some (⟨3,1,false,rI (dvAll l m b p a).1.p⟩))) (fun _ _ h=> .inl h.1) (⟨b,p,List.replicate (l.length+1) 0,a⟩) ⟨hI0,rfl⟩ (SubK.cons rfl (SubK.cons rfl (SubK.cons rfl (SubK.cons rfl (SubK.cons rfl (SubK.cons rfl (SubK.cons rfl (SubK.cons rfl (SubK.cons rfl zax))))))))) ?_ ?_ ?_
 ·
  intro D lp o1 o2 O W lη lb V0 k s hk hI;obtain ⟨hv1,hrun⟩:=hI;have hbl:=hv1.b;have hpl:=hv1.p;have hql:=hv1.q;have hr:=hv1.r;have hN:=yd1 (l:=l) (m:=m);obtain ⟨hi,hon⟩:=zg3 hk;have hbw:=xd0.1 (hv1.w _ hi).1;have hpw:=xd0.1 (hv1.w _ hi).2;apply yi3
  ·
   refine A6 ?_;refine RE (xa3 (k:=11) (n:=7) (agg:=true) zr44.1 zr44.2 rfl) trivial trivial ⟨rfl,trivial⟩ ?_;refine A2 ?_;exact yc6 fun _ _ h=>h
  ·
   refine A7 ?_;refine RE (x7 (1) ti23 rfl rfl) ⟨rfl,trivial⟩ ⟨rfl,trivial⟩ trivial ?_;refine A1 ?_;refine R2 (zag sl23 rfl) rfl rfl ?_;refine RE (x7 (((apl l m).getD k 0)) ti3 (za8 (by omega)) (by omega)) ⟨rfl,trivial⟩ ⟨rfl,trivial⟩ trivial ?_;refine A2 ?_;refine R2 (zag sl23 rfl) rfl rfl ?_;refine RE (xa8 (((apl l m).getD k 0)) ti3 (yg5 (by omega)) (by omega) (ya1 (m:=(s.n ((apl l m).getD k 0))) rfl)) ⟨rfl,rfl,trivial⟩ ⟨rfl,trivial⟩ trivial ?_;refine A9 ?_;refine RE (x7 (1) ti23 rfl rfl) ⟨rfl,trivial⟩ ⟨rfl,trivial⟩ trivial ?_;refine A1 ?_;refine R2 (zag sl23 rfl) rfl rfl ?_;refine RE (x7 (((apl l m).getD k 0)) ti3 (xq8 (by omega)) (by omega)) ⟨rfl,trivial⟩ ⟨rfl,trivial⟩ trivial ?_;refine R1 (x3 (xp4 _) fi54 rfl) rfl ?_;refine A3 ?_;refine xc7 rfl (fun h116=> ?_) (fun h116=> ?_)
   ·
    have hw:wIn (s.n ((apl l m).getD k 0))=false:=by rw [zen] at h116;exact h116
    refine A9 ?_;exact qv2 (()) (.inl rfl) (⟨rfl,by rw [yj0 hk hrun hw]⟩) ((SubK.cons (by rw [yj0 hk hrun hw];rfl)) ((SubK.cons (by rw [yj0 hk hrun hw];rfl)) (SubK.cons rfl (SubK.cons rfl (SubK.cons rfl zax))))) (zam rfl (supJ xd2) (zam rfl (supJ xd2) (zam rfl (supJL rfl) (zam rfl (supJL rfl) (zam rfl (supJL rfl) zaz))))) (lkOk rfl)
   ·
    have hw:wIn (s.n ((apl l m).getD k 0))=true:=by rw [Bool.not_eq_false'] at h116;exact h116
    have hpd2:=xd0.1 (DvI.pd (s:=s) hv hd hi hw);have hpd: -1099511627776<=take (l.getD ((apl l m).getD k 0) deal0).share.rat (s.n ((apl l m).getD k 0))/\take (l.getD ((apl l m).getD k 0) deal0).share.rat (s.n ((apl l m).getD k 0))<=1099511627776:=xd0.1 (DvI.pd hv hd hi hw);refine A9 ?_;refine A1 ?_;refine RE (x7 (1) ti23 rfl rfl) ⟨rfl,trivial⟩ ⟨rfl,trivial⟩ trivial ?_;refine A1 ?_;refine R2 (zag sl23 rfl) rfl rfl ?_;refine RE (x7 (((apl l m).getD k 0)) ti3 (xq8 (by omega)) (by omega)) ⟨rfl,trivial⟩ ⟨rfl,trivial⟩ trivial ?_;refine R2 (x3 (zi7 _ (hd _ (xp9 (l:=l) (i:=((apl l m).getD k 0)) (d:=deal0) (by omega))) (xq6 hv (by omega)) _ hw) fi55 rfl) rfl rfl ?_;refine A9 ?_;refine A4 ?_;refine RE (x7 (2) ti23 rfl rfl) ⟨rfl,trivial⟩ ⟨rfl,trivial⟩ trivial ?_;refine A1 ?_;refine R2 (zag sl23 rfl) rfl rfl ?_;refine RE (x7 (((apl l m).getD k 0)) ti3 (za8 (by omega)) (by omega)) ⟨rfl,trivial⟩ ⟨rfl,trivial⟩ trivial ?_;refine A1 ?_;refine R2 (zag sl23 rfl) rfl rfl ?_;refine RE (xa8 (((apl l m).getD k 0)+1) ti3 (yg5 (by omega)) (by omega) (ya1 (m:=(s.pd l ((apl l m).getD k 0) - s.p.getD ((apl l m).getD k 0) 0)) rfl)) ⟨rfl,rfl,trivial⟩ ⟨rfl,trivial⟩ trivial ?_;refine A8 ?_;refine RE (x7 (2) ti23 rfl rfl) ⟨rfl,trivial⟩ ⟨rfl,trivial⟩ trivial ?_;refine A2 ?_;refine R2 (zag sl23 rfl) rfl rfl ?_;refine RE (xa8 (((apl l m).getD k 0)) ti3 (yg5 (by omega)) (by omega) (ya1 (m:=(s.pd l ((apl l m).getD k 0))) rfl)) ⟨rfl,rfl,trivial⟩ ⟨rfl,trivial⟩ trivial ?_;refine A7 ?_;refine R2 (zag sl23 rfl) rfl rfl ?_;refine RE (x7 (((apl l m).getD k 0)+1) ti3 (xq8 (by omega)) (by omega)) ⟨rfl,trivial⟩ ⟨rfl,trivial⟩ trivial ?_;refine A4 ?_;exact yu4 (dv1 l s ((apl l m).getD k 0)) ⟨hv1.next hv hd hi hw,qd8 hk hrun hw⟩ (SubK.cons rfl (SubK.cons rfl (SubK.cons rfl (SubK.cons rfl (SubK.cons rfl (SubK.cons rfl (SubK.cons rfl (SubK.cons rfl (SubK.cons rfl zax))))))))) (zam rfl (supJ xd2) (zam rfl (supJ xd2) (zam rfl (supJL rfl) (zam rfl (supJ xd2) (zam rfl (supJL rfl) (zam rfl (supJL rfl) (zam rfl (supJL rfl) (zam rfl (supJL rfl) (zam rfl (supJL rfl) zaz))))))))) (lkOk rfl)
 ·
  intro D hD s hI;obtain ⟨hv1,hrun⟩:=hI;have hbl:=hv1.b;have hpl:=hv1.p;have hql:=hv1.q;have hr:=hv1.r;have hN:=yd1 (l:=l) (m:=m);have hR:=qg7 hrun;refine A6 ?_;refine R2 (zag sl23 rfl) rfl rfl ?_;refine RE (xa8 (0) ti3 (yg5 (by omega)) (by omega) (ya1 (m:=s.r) rfl)) ⟨rfl,rfl,trivial⟩ ⟨rfl,trivial⟩ trivial ?_;refine A9 ?_;refine A9 ?_;refine A7 ?_;refine R1 (x3 (xp4 _) fi54 rfl) rfl ?_;refine A4 ?_;refine ye4 (q:=6) (j:=19) (f:=tIb) (xs:=s.q.set 0 s.r) (ms:=[]) (us':=fun u=>[.val (tIX u (s.q.set 0 s.r) [])]) [] 0 rfl rfl rfl rfl (NoLbK.lent (LentC.loop LentC.mk' hD) rfl rfl rfl) .nil (by rw [zfg];rfl) (by rw [zdx];exact hql) (fun _=>rfl) (fun u hu _=> ?_);refine A1 ?_;refine E_X (u) (hu) ?_;exact yv2 (LentC.loop LentC.mk' hD) (rs:=[.cell 6 23,.cell 7 4]) rfl rfl ⟨⟨_,_,_,_,_,rfl,rfl,ti23,(Le.of (by rw [hR];rfl))⟩,⟨_,_,_,_,_,rfl,rfl,ti4,(zau (by rw [hR];rfl))⟩,trivial⟩ ⟨(by rw [hR];rfl),(by rw [hR];rfl),(by rw [hR];rfl),trivial⟩ ⟨⟨rfl,(SupX.lit rfl)⟩,⟨rfl,xd2⟩,⟨rfl,xd2⟩,trivial⟩ rfl
 ·
  intro D hD e i hi;obtain ⟨rfl,hx⟩:=hi;refine A2 ?_;refine E_X (hd0) (NewH.one0) ?_;exact yv2 (LentC.loop LentC.mk' hD) (rs:=[.cell 6 23,.cell 7 4]) rfl rfl ⟨⟨_,_,_,_,_,rfl,rfl,ti23,(ya4 (by rw [hx];rfl))⟩,⟨_,_,_,_,_,rfl,rfl,ti4,(zau (by rw [hx];rfl))⟩,trivial⟩ ⟨(by rw [hx];rfl),rfl,rfl,trivial⟩ ⟨⟨rfl,(SupX.lit rfl)⟩,⟨rfl,xd2⟩,⟨rfl,xd2⟩,trivial⟩ rfl
theorem jq5 (l:List Deal) (o:Int) (b p:List Int) (m a:Int) (hd: ∀d∈l,d.share.dig):
  CtN Tryz.prog 22 [tL 7 true tDeal l,tState o b p,tI m,tI a] (fun nw=>tEx (hdS nw) (fun a1=>tT [tStX (stepO l o b p m a) (stepB l o b p m a) (stepP l o b p m a) [] a1.1 a1.2.1,tIX a1.2.2 (stepQ l o b p m a) [],tI (stepE l o b p m a)])):=by
 refine CtN.intro func22 rfl ntmps22 rfl ?_;intro w F;refine A3 ?_;refine RE (xa3 (k:=8) (n:=3) (agg:=true) zr25.1 zr25.2 rfl) trivial trivial qA ?_;refine A9 ?_;refine R2 (x3 (yn9 l o b p hd) fi16 rfl) rfl rfl ?_;refine A2 ?_;refine RGcase (t:=18) rfl (fun h131=> ?_) (fun h131=> ?_)
 ·
  have hB:stepBad l o b p m a=true:=by rw [stepBad,h131];rfl
  obtain ⟨e1,e2,e3,e4,e5⟩:=xj8 hB;refine A17 ?_;refine R0 (xq9 (r:=tS [⟨1,false,tI 0⟩,⟨1,false,tE (.slice none 0 0)⟩,⟨1,false,tE (.slice none 0 0)⟩]) (ts:=[]) bu25 (fun _ _=>yd4) ⟨_,rfl⟩ rfl zao) ?_;refine A7 ?_;refine yq2 (r:=tT [tStX (stepO l o b p m a) (stepB l o b p m a) (stepP l o b p m a) [] hd0 hd0,tIX hd0 (stepQ l o b p m a) [],tI (stepE l o b p m a)]) (xo7 (I:=hdS w.heap.size) (r:=fun a1:Hd×Hd×Hd=>tT [tStX (stepO l o b p m a) (stepB l o b p m a) (stepP l o b p m a) [] a1.1 a1.2.1,tIX a1.2.2 (stepQ l o b p m a) [],tI (stepE l o b p m a)]) (hd0,hd0,hd0) hdS.none) ?_;exact EN (rs:=[.cell 8 25,.tmp 9,.tmp 10]) rfl rfl ⟨⟨_,_,_,_,_,rfl,rfl,ti25,(yc2 e1 e2 e3)⟩,⟨_,rfl,(ya4 e4)⟩,⟨_,rfl,(zba (by rw [e5]))⟩,trivial⟩
 ·
  have hr:rightL l o b p=true:=by rw [Bool.not_eq_false'] at h131;exact h131
  refine A4 ?_;refine RGcaseD (t:=22) rfl (fun h131_2=> ?_) (fun h131_2=> ?_)
  ·
   have hB:stepBad l o b p m a=true:=by rw [stepBad,zbg h131_2];simp
   obtain ⟨e1,e2,e3,e4,e5⟩:=xj8 hB;refine A13 ?_;refine R0 (xq9 (r:=tS [⟨1,false,tI 0⟩,⟨1,false,tE (.slice none 0 0)⟩,⟨1,false,tE (.slice none 0 0)⟩]) (ts:=[]) bu25 (fun _ _=>yd4) ⟨_,rfl⟩ rfl zao) ?_;refine A7 ?_;refine yq2 (r:=tT [tStX (stepO l o b p m a) (stepB l o b p m a) (stepP l o b p m a) [] hd0 hd0,tIX hd0 (stepQ l o b p m a) [],tI (stepE l o b p m a)]) (xo7 (I:=hdS w.heap.size) (r:=fun a1:Hd×Hd×Hd=>tT [tStX (stepO l o b p m a) (stepB l o b p m a) (stepP l o b p m a) [] a1.1 a1.2.1,tIX a1.2.2 (stepQ l o b p m a) [],tI (stepE l o b p m a)]) (hd0,hd0,hd0) hdS.none) ?_;exact EN (rs:=[.cell 8 25,.tmp 9,.tmp 10]) rfl rfl ⟨⟨_,_,_,_,_,rfl,rfl,ti25,(yc2 e1 e2 e3)⟩,⟨_,rfl,(ya4 e4)⟩,⟨_,rfl,(zba (by rw [e5]))⟩,trivial⟩
  ·
   refine A4 ?_;refine RGcaseD (t:=26) rfl (fun h131_3=> ?_) (fun h131_3=> ?_)
   ·
    have hB:stepBad l o b p m a=true:=by rw [stepBad,zbg h131_3];simp
    obtain ⟨e1,e2,e3,e4,e5⟩:=xj8 hB;refine A9 ?_;refine R0 (xq9 (r:=tS [⟨1,false,tI 0⟩,⟨1,false,tE (.slice none 0 0)⟩,⟨1,false,tE (.slice none 0 0)⟩]) (ts:=[]) bu25 (fun _ _=>yd4) ⟨_,rfl⟩ rfl zao) ?_;refine A7 ?_;refine yq2 (r:=tT [tStX (stepO l o b p m a) (stepB l o b p m a) (stepP l o b p m a) [] hd0 hd0,tIX hd0 (stepQ l o b p m a) [],tI (stepE l o b p m a)]) (xo7 (I:=hdS w.heap.size) (r:=fun a1:Hd×Hd×Hd=>tT [tStX (stepO l o b p m a) (stepB l o b p m a) (stepP l o b p m a) [] a1.1 a1.2.1,tIX a1.2.2 (stepQ l o b p m a) [],tI (stepE l o b p m a)]) (hd0,hd0,hd0) hdS.none) ?_;exact EN (rs:=[.cell 8 25,.tmp 9,.tmp 10]) rfl rfl ⟨⟨_,_,_,_,_,rfl,rfl,ti25,(yc2 e1 e2 e3)⟩,⟨_,rfl,(ya4 e4)⟩,⟨_,rfl,(zba (by rw [e5]))⟩,trivial⟩
   ·
    refine A1 ?_;refine Rg (zbf h131_3) rfl (x3 (xp4 _) fi54 rfl) rfl qA ?_;refine A4 ?_;refine xc7 rfl (fun h131_4=> ?_) (fun h131_4=> ?_)
    ·
     have hB:stepBad l o b p m a=true:=by rw [stepBad,h131_4];simp
     obtain ⟨e1,e2,e3,e4,e5⟩:=xj8 hB;refine A2 ?_;refine R0 (xq9 (r:=tS [⟨1,false,tI 0⟩,⟨1,false,tE (.slice none 0 0)⟩,⟨1,false,tE (.slice none 0 0)⟩]) (ts:=[]) bu25 (fun _ _=>yd4) ⟨_,rfl⟩ rfl zao) ?_;refine A7 ?_;refine yq2 (r:=tT [tStX (stepO l o b p m a) (stepB l o b p m a) (stepP l o b p m a) [] hd0 hd0,tIX hd0 (stepQ l o b p m a) [],tI (stepE l o b p m a)]) (xo7 (I:=hdS w.heap.size) (r:=fun a1:Hd×Hd×Hd=>tT [tStX (stepO l o b p m a) (stepB l o b p m a) (stepP l o b p m a) [] a1.1 a1.2.1,tIX a1.2.2 (stepQ l o b p m a) [],tI (stepE l o b p m a)]) (hd0,hd0,hd0) hdS.none) ?_;exact EN (rs:=[.cell 8 25,.tmp 9,.tmp 10]) rfl rfl ⟨⟨_,_,_,_,_,rfl,rfl,ti25,(yc2 e1 e2 e3)⟩,⟨_,rfl,(ya4 e4)⟩,⟨_,rfl,(zba (by rw [e5]))⟩,trivial⟩
    ·
     have ha:wIn a=true:=by rw [Bool.not_eq_false'] at h131_4;exact h131_4
     have hB:stepBad l o b p m a=false:=by rw [stepBad,hr,ha,zbf h131_2,zbf h131_3];rfl
     refine A3 ?_;obtain ⟨hv,hbl,hpl,ho,_⟩:=xo9 hd hr;have hl16:=xf8 hv;refine A5 ?_;refine RE (xe9 (fun _=>36) (yk8 _ (by omega)) fi72 rfl (krN (ρ:=fun _=>36)) (krC (ρ:=fun _=>36) (k:=2) xo5 (krN (ρ:=fun _=>36))) ⟨⟨rfl,xd2⟩,trivial⟩ rfl) qA trivial qA ?_;refine A2 ?_;refine RE (xe9 (fun _=>39) (yk8 _ (by omega)) fi72 rfl (krN (ρ:=fun _=>39)) (krC (ρ:=fun _=>39) (k:=2) xo5 (krN (ρ:=fun _=>39))) ⟨⟨rfl,xd2⟩,trivial⟩ rfl) qA trivial qA (R3 (xz6 (es:=[.val (tI o),.own (.sl 36 1 0 b.length),.own (.sl 39 1 0 p.length)]) (r:=[.val (tI o),.own (.sl 36 1 0 b.length),.own (.sl 39 1 0 p.length)]) bu25 rfl rfl rfl rfl) rfl rfl rfl ?_);refine A1 ?_;refine R2 (xz6 (es:=[.own (An.rowV [.val (tI o),.own (.sl 36 1 0 b.length),.own (.sl 39 1 0 p.length)]),.val (tL 7 true tDeal l)]) (r:=[.val (tI o),.own (.sl 36 1 0 b.length),.own (.sl 39 1 0 p.length),.val (tL 7 true tDeal l)]) bu99 rfl rfl rfl rfl) rfl rfl (RE (ym5 (k:=11) (n:=4) [.int .i64 0,.slice none 0 0,.slice none 0 0,.slice none 0 0] zr99.1 rfl rfl rfl rfl) trivial trivial qA (RE (ym9 ti99 rfl rfl rfl) qB qA trivial ?_));refine A3 ?_;refine xp2 (k:=11) rfl (e':=⟨99,1,false,[.val (tI o),.own (.sl 36 1 0 l.length),.own (.sl 39 1 0 l.length),.val (tL 7 true tDeal l)]⟩) (by rw [hbl,hpl]) ?_;refine xe3 ?_;refine xa5 xa4 qA trivial trivial rfl (xa5 xa4 qA trivial trivial rfl ?_);refine za0 [] (fun j=>cond (Nat.beq j 100) 11 (cond (Nat.beq j 101) 36 (cond (Nat.beq j 102) 39 j))) (qw1 l m a o b p hv hd hbl hpl (zr9 hd hr) ho ha) fi73 rfl (krC (ρ:=(fun j=>cond (Nat.beq j 100) 11 (cond (Nat.beq j 101) 36 (cond (Nat.beq j 102) 39 j)))) (k:=100) rfl (krC (ρ:=(fun j=>cond (Nat.beq j 100) 11 (cond (Nat.beq j 101) 36 (cond (Nat.beq j 102) 39 j)))) (k:=101) xo5 (krC (ρ:=(fun j=>cond (Nat.beq j 100) 11 (cond (Nat.beq j 101) 36 (cond (Nat.beq j 102) 39 j)))) (k:=102) xo5 (krN (ρ:=(fun j=>cond (Nat.beq j 100) 11 (cond (Nat.beq j 101) 36 (cond (Nat.beq j 102) 39 j)))))))) (fun _=>(krC (ρ:=(fun j=>cond (Nat.beq j 100) 11 (cond (Nat.beq j 101) 36 (cond (Nat.beq j 102) 39 j)))) (k:=100) rfl (krC (ρ:=(fun j=>cond (Nat.beq j 100) 11 (cond (Nat.beq j 101) 36 (cond (Nat.beq j 102) 39 j)))) (k:=101) xo5 (krC (ρ:=(fun j=>cond (Nat.beq j 100) 11 (cond (Nat.beq j 101) 36 (cond (Nat.beq j 102) 39 j)))) (k:=102) xo5 (krN (ρ:=(fun j=>cond (Nat.beq j 100) 11 (cond (Nat.beq j 101) 36 (cond (Nat.beq j 102) 39 j))))))))) (fun _=>⟨⟨rfl,SupX.lit rfl⟩,⟨rfl,xb2⟩,⟨rfl,xb2⟩,trivial⟩) rfl (fun _=>rfl) qC qC trivial .nil rfl (fun u n hn _ hR=> ?_);refine xa5 xa4 qA trivial trivial rfl (xa5 (xd9 rfl) qA trivial trivial rfl (xa5 (xd9 rfl) qA trivial trivial rfl (xa5 xb8 qA trivial trivial rfl (xa5 xb8 qA trivial trivial rfl (xd1 ?_)))));refine A8 ?_;refine xc7 rfl (fun h139=> ?_) (fun h139=> ?_)
     ·
      have hF:stepOk l o b p m a=false:=by rw [zen] at h139;exact h139
      obtain ⟨e1,e2,e3,e4,e5⟩:=yh2 hB hF;refine A2 ?_;refine R0 (xq9 (r:=tS [⟨1,false,tI 0⟩,⟨1,false,tE (.slice none 0 0)⟩,⟨1,false,tE (.slice none 0 0)⟩]) (ts:=[]) bu25 (fun _ _=>yd4) ⟨_,rfl⟩ rfl zao) ?_;refine A7 ?_;refine yq2 (r:=tT [tStX (stepO l o b p m a) (stepB l o b p m a) (stepP l o b p m a) [] hd0 hd0,tIX hd0 (stepQ l o b p m a) [],tI (stepE l o b p m a)]) (xo7 (I:=hdS w.heap.size) (r:=fun a1:Hd×Hd×Hd=>tT [tStX (stepO l o b p m a) (stepB l o b p m a) (stepP l o b p m a) [] a1.1 a1.2.1,tIX a1.2.2 (stepQ l o b p m a) [],tI (stepE l o b p m a)]) (hd0,hd0,hd0) hdS.none) ?_;exact EN (rs:=[.cell 8 25,.tmp 9,.tmp 10]) rfl rfl ⟨⟨_,_,_,_,_,rfl,rfl,ti25,(yc2 e1 e2 e3)⟩,⟨_,rfl,(ya4 e4)⟩,⟨_,rfl,(zba (by rw [e5]))⟩,trivial⟩
     ·
      have hF:stepOk l o b p m a=true:=by rw [Bool.not_eq_false'] at h139;exact h139
      obtain ⟨e1,e2,e3,e4,e5,e6⟩:=yt0 hB hF;refine A3 ?_;obtain ⟨hl1,hl2,_⟩:=yu1 (l:=l) (apl l m) ⟨b,p,List.replicate (l.length+1) 0,a⟩;replace hl1:(dvAll l m b p a).1.b.length=l.length:=hl1.trans hbl;replace hl2:(dvAll l m b p a).1.p.length=l.length:=hl2.trans hpl;refine ye4 (q:=11) (j:=36) (f:=tIb) (xs:=(dvAll l m b p a).1.b) (ms:=[]) (us':=fun u1=>[.val (tI (bif (dvAll l m b p a).2 then o+(dvAll l m b p a).1.r else o)),.val (tIX u1 (dvAll l m b p a).1.b []),.own (.sl 39 1 0 l.length),.val (tL 7 true tDeal l)]) [u] 1 rfl rfl rfl rfl (NoLbK.of fun _ h=>h) (.slot (s:=12) rfl WitT.lx) (by rw [zfg];rfl) hl1 (fun _=>rfl) (fun u1 nu1 fu1=> ?_);refine ye4 (q:=11) (j:=39) (f:=tIb) (xs:=(dvAll l m b p a).1.p) (ms:=[]) (us':=fun u2=>[.val (tI (bif (dvAll l m b p a).2 then o+(dvAll l m b p a).1.r else o)),.val (tIX u1 (dvAll l m b p a).1.b []),.val (tIX u2 (dvAll l m b p a).1.p []),.val (tL 7 true tDeal l)]) ([u]++[u1]) 2 rfl rfl rfl rfl (NoLbK.of fun _ h=>h) (.app (.slot (s:=12) rfl WitT.lx) (.keyAt (k:=11) (i:=1) rfl rfl WitT.lx)) (by rw [zfg];rfl) hl2 (fun _=>rfl) (fun u2 nu2 fu2=> ?_);refine A2 ?_;refine RE (yc7 (us:=[tI (bif (dvAll l m b p a).2 then o+(dvAll l m b p a).1.r else o),tIX u1 (dvAll l m b p a).1.b [],tIX u2 (dvAll l m b p a).1.p []]) (t:=tStX (bif (dvAll l m b p a).2 then o+(dvAll l m b p a).1.r else o) (dvAll l m b p a).1.b (dvAll l m b p a).1.p [] u1 u2) ti25 rfl rfl rfl rfl) qA qA trivial ?_;refine A7 ?_;refine yq2 (r:=tT [tStX (stepO l o b p m a) (stepB l o b p m a) (stepP l o b p m a) [] u1 u2,tIX u (stepQ l o b p m a) [],tI (stepE l o b p m a)]) (xo7 (I:=hdS w.heap.size) (r:=fun a1:Hd×Hd×Hd=>tT [tStX (stepO l o b p m a) (stepB l o b p m a) (stepP l o b p m a) [] a1.1 a1.2.1,tIX a1.2.2 (stepQ l o b p m a) [],tI (stepE l o b p m a)]) (u1,u2,u) (hdS.mk nu1 nu2 (hR.le hn) fu1 fu2)) ?_;exact EN (rs:=[.cell 8 25,.tmp 9,.tmp 10]) rfl rfl ⟨⟨_,_,_,_,_,rfl,rfl,ti25,(Le.of (by rw [e1,e2,e3,e6];rfl))⟩,⟨_,rfl,(Le.of (by rw [e4,e6];rfl))⟩,⟨_,rfl,(zba (by rw [e5]))⟩,trivial⟩
theorem yf0 {l m:List Int} {i:Nat} (h:i < l.length):(l++m).getD i 0=l.getD i 0:=by
 rw [zbh,zda h,<-zbh]
theorem appI_r {l m:List Int} {i:Nat} (h:l.length<=i):(l++m).getD i 0=m.getD (i - l.length) 0:=by
 rw [zbh,zds h,<-zbh]
theorem jj0 {j:Nat} (h:j < 12):mksI.getD j 0=1000003*(((1:Nat):Int)+7)+(j:Int):=by
 rw [mksI,zbh,zbp,zeh h];rfl
theorem zd3 (l:List Int) (hl:l.length<=1000):
  Ct Tryz.prog 67 [tLK 1 false tIb l mksI,tIs l] (tB true):=by
 have hml:(l++mksI).length=l.length+12:=by rw [zck,yn8]
 refine Ct.intro func67 rfl ntmps67 rfl ?_;intro w F;refine A9 ?_;refine R1 (d_lenK zgt) rfl ?_;refine A5 ?_;refine xi9 rfl (zbf (by omega)) ?_;refine A8 ?_;refine R2 (jd3 sl23 (by rw [yn8];omega)) rfl rfl ?_;refine A10 ?_;refine cL (fun (i:Nat)=>i<=(l++mksI).length) (fun (i:Nat)=>uV (uV (uV uN 1 (tIs l)) 5 (tIs (l++mksI))) 6 (tI i)) (fun (i:Nat)=>fun _=>none) [] (fun (i:Nat)=>(l++mksI).length - i) (0) (zbs _) ?_;intro i hI;refine A9 ?_;refine xa6 rfl (fun h105=> ?_) (fun h105=> ?_)
 ·
  refine A11 ?_;refine RGcaseD (t:=27) rfl (fun h106=> ?_) (fun h106=> ?_)
  ·
   refine A2 ?_;refine Rg (zbg h106) rfl (x8 sl23 (i) (by omega) (gZ (by omega))) rfl qB ?_;refine A3 ?_;refine Rg (zbg h106) rfl (x8 sl23 (i) (by omega) (gZ (by omega))) rfl qB ?_;refine A5 ?_;refine Rg (xb9 (by rw [yf0 (by omega)])) rfl xa4 rfl qA (Rg (xb9 (by rw [yf0 (by omega)])) rfl xa4 rfl qA (Rg (xb9 (by rw [yf0 (by omega)])) rfl (yh7 zgt) rfl qA (Rg (xb9 (by rw [yf0 (by omega)])) rfl qk9 rfl qB (Rg (xb9 (by rw [yf0 (by omega)])) rfl xa4 rfl qA (RGoff (zbf (by omega)) rfl rfl (RGoff (zbf (by omega)) rfl rfl (RGoff (zbf (by omega)) rfl rfl (RGoff (zbf (by omega)) rfl rfl (RGoff (zbf (by omega)) rfl rfl (RGoff (zbf (by omega)) rfl rfl (RGoff (zbf (by omega)) rfl rfl (RGoff (zbf (by omega)) rfl rfl (RGoff (zbf (by omega)) rfl rfl (RGoff (zbf (by omega)) rfl rfl (RGoff (zbf (by omega)) rfl rfl ?_)))))))))))))));refine Rg (xb9 (by rw [yf0 (by omega)])) rfl (xc8 (zbf (by omega))) rfl qB (R2 (xc8 (xb9 (by rw [yf0 (by omega)]))) rfl rfl ?_);refine A11 ?_;exact kF (i+1) ⟨(by omega),(by omega)⟩
  ·
   refine A17 ?_;refine Rg (zbg (by omega)) rfl xa4 rfl qA (Rg (zbg (by omega)) rfl xa4 rfl qA (Rg (zbg (by omega)) rfl (x8 sl23 (i) (by omega) (gZ (by omega))) rfl qB (Rg (zbg (by omega)) rfl (xi6 ti3) rfl qA (Rg (zbg (by omega)) rfl xa4 rfl qA (Rg (zbg (by omega)) rfl xa4 rfl qA (Rg (zbg (by omega)) rfl (yh7 zgt) rfl qA (Rg (zbg (by omega)) rfl (xf9 (r:=((i - l.length:Nat):Int)) (by rw [wr64 (by omega) (by omega)];omega)) rfl qB (Rg (zbg (by omega)) rfl (x3 (qf2 1 (i - l.length) (by decide) (by omega)) fi146 rfl) rfl qB (Rg (zbg (by omega)) rfl zp6 rfl qB (Rg (zbg (by omega)) rfl xm4 rfl qA (Rg rfl rfl (xm0 (zbg (by omega))) rfl qB ?_)))))))))));refine A3 ?_;refine xi9 rfl (xb9 (by rw [appI_r (by omega),jj0 (by omega)])) ?_;refine A8 ?_;exact kF (i+1) ⟨(by omega),(by omega)⟩
 ·
  refine A11 ?_;exact E1 rfl rfl zao
instance fi58:FnI Tryz.prog 58:=⟨_,func58,by kernel_rfl,rfl⟩
instance fi59:FnI Tryz.prog 59:=⟨_,func59,by kernel_rfl,rfl⟩
instance fi60:FnI Tryz.prog 60:=⟨_,func60,by kernel_rfl,rfl⟩
instance fi61:FnI Tryz.prog 61:=⟨_,func61,by kernel_rfl,rfl⟩
instance fi62:FnI Tryz.prog 62:=⟨_,func62,by kernel_rfl,rfl⟩
instance fi63:FnI Tryz.prog 63:=⟨_,func63,by kernel_rfl,rfl⟩
instance fi65:FnI Tryz.prog 65:=⟨_,func65,by kernel_rfl,rfl⟩
instance fi66:FnI Tryz.prog 66:=⟨_,func66,by kernel_rfl,rfl⟩
instance fi67:FnI Tryz.prog 67:=⟨_,func67,by kernel_rfl,rfl⟩
instance fi68:FnI Tryz.prog 68:=⟨_,func68,by kernel_rfl,rfl⟩
instance fi69:FnI Tryz.prog 69:=⟨_,func69,by kernel_rfl,rfl⟩
def zd0:Zd:=⟨deal0,hd0,hd0⟩
theorem yi7 {zs:List Zd} {l:List Deal} (h:zs.map Zd.s=l):Le (tL 7 true tZd zs) (tL 7 true tDeal l):=fun F w v ⟨A,c,h1,h2,h3,h4⟩=>by
 subst h;refine ⟨A,c,by rw [zcq];exact h1,by rw [zcq];exact h2,h3,h4.imp (fun e=>by rw [e];rfl) fun ⟨b,o,e,hb,hx⟩=>⟨b,o,e,hb,fun i x hi=> ?_⟩⟩;rw [zbp] at hi;obtain ⟨z,hz,rfl⟩:=zdo.1 hi;obtain ⟨u,hm,hu⟩:=hx i z hz;exact ⟨u,hm,zd_le _ _ _ hu⟩
theorem ltf_le {T:Nat} {u:Hd} {zs:List Zf} {l:List Fr} (h:zs.map Zf.f=l):Le (tLX T 4 true tZf u zs []) (tL 4 true tFr l):=zav zb9 fun F w v ⟨A,c,h1,h2,h3,h4⟩=>by
 subst h;refine ⟨A,c,by rw [zcq];exact h1,by rw [zcq];exact h2,h3,h4.imp (fun e=>by rw [e];rfl) fun ⟨b,o,e,hb,hx⟩=>⟨b,o,e,hb,fun i x hi=> ?_⟩⟩;rw [zbp] at hi;obtain ⟨z,hz,rfl⟩:=zdo.1 hi;obtain ⟨u,hm,hu⟩:=hx i z hz;exact ⟨u,hm,ye8 _ _ _ hu⟩
theorem zd_get {zs:List Zd} {l:List Deal} {i:Nat} (h:zs.map Zd.s=l) (hi:i < zs.length):(zs.getD i zd0).s=l.getD i deal0:=by
 subst h;rw [zbh,zbh,zbp,zbk hi];rfl
def zL (z:Zd):List Zf:=[⟨z.s.share,z.n,z.d⟩]
abbrev tFL (q:Hd×List Zf):Ty:=tLX 41 4 true tZf q.1 q.2 []
def toH (z:Zf):Zh:=⟨z.f.n.neg,z.n,z.f.d.neg,z.d⟩
theorem zf_h {z:Zf}:Le (tZf z) (tZh (toH z)):=Le.tS ⟨⟨rfl,rfl,Le.tS ⟨⟨rfl,rfl,zao⟩,⟨rfl,rfl,lmX_h⟩,trivial⟩⟩,⟨rfl,rfl,Le.tS ⟨⟨rfl,rfl,zao⟩,⟨rfl,rfl,lmX_h⟩,trivial⟩⟩,trivial⟩
def qH (qs:List (Hd×List Zf)):List (Hd×List Zh):=qs.map fun q=>(q.1,q.2.map toH)
theorem qh9: ∀{zs:List Zf},hdH (zs.map toH)=hdZ zs
 | []=>rfl
 | z::r=>by rw [zcx,hdH,zdu,<-hdH,qh9 (zs:=r)];rfl
theorem qk5 {qs:List (Hd×List Zf)}:(qH qs).map (·.1)=qs.map (·.1):=by simp [qH]
theorem ji5 {qs:List (Hd×List Zf)}:((qH qs).flatMap fun q=>hdH q.2)=(qs.map (·.2)).flatMap hdZ:=by
 rw [qH,List.flatMap_map,List.flatMap_map]
 congr 1;funext q
 exact qh9
theorem qi7: ∀{x:List Zd},(x.map zL).flatMap hdZ=hdD x
 | []=>rfl
 | z::r=>by rw [zcx,zdu,qi7 (x:=r)];rfl
theorem fl_it {q:Hd×List Zf}:ItT (tFL q) [(q.1,⟨41,4,true,rV tZh (q.2.map toH)⟩)]:=fun F w v h p hp=>by
 cases zbq.1 hp;have h2:=HdOk.lx (f':=fun z=>tZh (toH z)) (fun _=>zf_h) (fun _=>Free.zh) h;rw [show rV (fun z=>tZh (toH z)) q.2=rV tZh (q.2.map toH) by simp [rV]] at h2;exact ⟨h2,fun b hb=>(qk2 h hb).1⟩
theorem fl_wit {q:Hd×List Zf}:WitT (tFL q) [q.1]:=WitT.lx
theorem qa0: ∀{qs:List (Hd×List Zf)},(qs.flatMap fun q=>[(q.1,(⟨41,4,true,rV tZh (q.2.map toH)⟩:HEnt))])=frI (qH qs)
 | []=>rfl
 | q::r=>by rw [zdu,qa0 (qs:=r)];rfl
def itQ (qs:List (Hd×List Zf)):List (Hd×List Nat):=(qs.map (·.2)).flatMap fun zs=>zs.flatMap itZ
theorem zs4: ∀{qs:List (Hd×List Zf)},(itQ qs).map (·.1)=(qs.map (·.2)).flatMap hdZ
 | []=>rfl
 | q::r=>by rw [itQ,zcx,zdu,zer,<-itQ,zs4 (qs:=r),zdu,zh5]
theorem fl_lim {q:Hd×List Zf}:ItT (tFL q) (lmI 64 (q.2.flatMap itZ)):=by
 have h:ItT (tFL q) (q.2.flatMap fun z=>lmI 64 (itZ z)):=ItT.el fun z _=>ItT.lm yu9;have e:(q.2.flatMap fun z=>lmI 64 (itZ z))=lmI 64 (q.2.flatMap itZ):=by rw [lmI,List.map_flatMap];rfl
 rwa [e] at h
theorem jb7 {qs:List (Hd×List Zf)}:(qs.flatMap fun q=>lmI 64 (q.2.flatMap itZ))=lmI 64 (itQ qs):=by rw [itQ,List.flatMap_map,lmI,List.map_flatMap];rfl
theorem jk9 {o:Int} {b p ms:List Int} {u v:Hd}:WitT (tStX o b p ms u v) ([u]++[v]):= .app (.fd 1 rfl .lx) (.fd 2 rfl .lx)
theorem zc1 {u:Hd} {l ms:List Int}:ItT (tIX u l ms) (inI [(u,l)]):=ItT.lx (fun _=>zao) fun _=>Free.E
theorem qw5 {o:Int} {b p ms:List Int} {u v:Hd}:ItT (tStX o b p ms u v) (inI [(u,b)]++inI [(v,p)]):= .app (.fd 1 rfl zc1) (.fd 2 rfl zc1)
theorem zg7 {α:Type} {c:Bool} {x:List α} {k:Nat} (h:x.length<=k):(bif c then x else []).length<=k:=by cases c <;> simp [h]
theorem zo8 {l:List Deal} {o:Int} {b p:List Int} {m a:Int}:(stepB l o b p m a).length<=b.length/\(stepP l o b p m a).length<=p.length/\(stepQ l o b p m a).length<=l.length+1:=by
 obtain ⟨h1,h2,h3⟩:=yu1 (l:=l) (apl l m) ⟨b,p,List.replicate (l.length+1) 0,a⟩;exact ⟨zg7 (Nat.le_of_eq h1),zg7 (Nat.le_of_eq h2),zg7 (by rw [zdx];exact Nat.le_of_eq (h3.trans (by simp)))⟩
theorem jn9 {l:List Deal} {m:Int} (hd: ∀d∈l,d.share.dig): ∀f∈(bif shBad l m then [] else (shAll l m).q.set 0 (fr (shAll l m).r)),f.n.l.length<=256/\f.d.l.length<=256:=fun f hf=>by
 cases hB:shBad l m with
 | true=>rw [hB] at hf;cases hf
 | false=>
  rw [hB] at hf;have hf:f∈shQ l m:=hf;have hv:validL l=true:=by
   cases h:validL l with
   | true=>rfl
   | false=>rw [shBad,h] at hB;simp at hB
  obtain ⟨i,hi,rfl⟩:=List.getElem_of_mem hf;have hi2:i < l.length+1:=by rw [<-zj4 (m:=m) hv hd];exact hi
  have e:=qw7 (m:=m) hv hd hi2;rw [zbh,zbk hi,Option.getD_some] at e;rw [e];have hs:short (xv24 l m i):=by
   rw [xv24];split
   ·exact yo7 (m:=m) hv hd (zbm _)
   ·exact zz5 hv hd (by omega)
  exact hs
theorem jp2 {l:List Deal} {m:Int} (hd: ∀d∈l,d.share.dig):(bif shBad l m then [] else (shAll l m).q.set 0 (fr (shAll l m).r)).length<=l.length+1:=by
 cases hB:shBad l m with
 | true=>exact zbs _
 | false=>
  have hv:validL l=true:=by
   cases h:validL l with
   | true=>rfl
   | false=>rw [shBad,h] at hB;simp at hB
  exact Nat.le_of_eq (zj4 (m:=m) hv hd)
theorem jr2 {qs:List (Hd×List Zf)} (h: ∀zs∈qs.map (·.2),∀z∈zs,z.f.n.l.length<=1000000/\z.f.d.l.length<=1000000) (j:Nat):(((itQ qs).getD j lmI0).2).length<=1000000:=by
 rw [zbh];cases hj:(itQ qs)[j]? with
 | none=>show 0<=_;omega
 | some u=>
  obtain ⟨zs,h1,h2⟩:=zbw.1 (zdc hj);obtain ⟨z,h3,h4⟩:=zbw.1 h2;have:=h zs h1 z h3;simp only [itZ,zbt,zed,or_false] at h4;rcases h4 with rfl | rfl
  ·exact this.1
  ·exact this.2
theorem jo0 {qs:List (Hd×List Zf)} {k:Nat} (h: ∀zs∈qs.map (·.2),zs.length<=k):(itQ qs).length<=qs.length*(2*k):=by
 induction qs with
 | nil=>simp [itQ]
 | cons q r ih=>
  have h1:=h q.2 (by simp);have h2:=ih fun zs hz=>h zs (by simp only [zcx,zbt];exact .inr hz);have e:(q.2.flatMap itZ).length=2*q.2.length:=by
   generalize q.2=zs
   induction zs with
   | nil=>rfl
   | cons z s ihz=>rw [zdu,zck,ihz];simp [itZ];omega
  rw [itQ,zcx,zdu,zck,<-itQ,e,zek,zch];omega
theorem qs_all {qs:List (Hd×List Zf)} {zs:List Zf} {x:List Zd} (h:qs.map (·.2)=zs::x.map zL): ∀ys∈qs.map (·.2),ys=zs∨ ∃z∈x,ys=zL z:=fun ys hy=>by
 rw [h] at hy;rcases zbt.1 hy with rfl | hy
 ·exact .inl rfl
 ·obtain ⟨z,hz,rfl⟩:=zcb.1 hy;exact .inr ⟨z,hz,rfl⟩
theorem in_lim {us:List (Hd×List Int)} (h: ∀u∈us,u.2.length<=1000000) (j:Nat):((us.getD j (⟨none,0,0⟩,[])).2).length<=1000000:=by
 rw [zbh];cases hj:us[j]? with
 | none=>show 0<=_;omega
 | some u=>exact h u (zdc hj)
theorem qH_lim {qs:List (Hd×List Zf)} {k:Nat} (h: ∀zs∈qs.map (·.2),zs.length<=k) (hk:k<=10000) (j:Nat):(((qH qs).getD j q00).2).length<=10000:=by
 rw [zbh];cases hj:(qH qs)[j]? with
 | none=>show 0<=_;omega
 | some q=>
  obtain ⟨q',hq,rfl⟩:=zcb.1 (zdc hj);have:=h q'.2 (zcr hq);show (q'.2.map toH).length<=_;rw [zcq];omega
theorem zs3 (X:OvJ) (n m:Nat) (us:List (Hd×List Int)) (k:Nat) (hk:us.length=k) (ht:Takes X n m (inI us)) (hu:k<=900) (hul: ∀j,((us.getD j (⟨none,0,0⟩,[])).2).length<=1000000):
  CtU Tryz.prog X 68 [(20,⟨23,1,false,rV tH (us.map (·.1))⟩)] [.own (.sl 20 1 0 k)] n m (.bool true):=by
 subst hk;exact qb2 X n m us ht hu hul
theorem zp4 (X:OvJ) (n m p:Nat) (qs:List (Hd×List Zh)) (ls:List (Hd×List Nat)) (k:Nat) (hk:qs.length=k) (ht1:Takes X n m (lmI 64 ls)) (ht2:Takes X m p (frI qs)) (hu:ls.length<=900) (hul: ∀j,((ls.getD j lmI0).2).length<=1000000) (hq:k<=900) (hql: ∀j,((qs.getD j q00).2).length<=10000) (hls:ls.map (·.1)=qs.flatMap fun q=>hdH q.2) (hJ0: ∀w,X.J n w-> ∀q∈frI qs,HdOk w q.1 q.2):
  CtU Tryz.prog X 69 [(20,⟨71,1,false,rV tH (qs.map (·.1))⟩)] [.own (.sl 20 1 0 k)] n p (.bool true):=by
 subst hk;exact zu3 X n m p qs ls ht1 ht2 hu hul hq hql hls hJ0
theorem in_T {us:List (Hd×List Int)}: ∀p∈inI us,p.2.T=3:=fun p hp=>by obtain ⟨u,_,rfl⟩:=zcb.1 hp;rfl
theorem lm_T {us:List (Hd×List Nat)}: ∀p∈lmI 64 us,p.2.T=64:=fun p hp=>by obtain ⟨u,_,rfl⟩:=zcb.1 hp;rfl
theorem fq_T {qs:List (Hd×List Zh)}: ∀p∈frI qs,p.2.T=41:=fun p hp=>by obtain ⟨u,_,rfl⟩:=zcb.1 hp;rfl
theorem wit_x {x:List Zd}:WitT (tL 7 true tZd x) (hdD x):=(ItT.tL (us:=fun z=>lmI 64 (itD z)) fun z _=>ItT.lm qo5).wit (by
 rw [List.map_flatMap,hdD]
 congr 1)
theorem jj8 {x:List Zd} {i:Nat} {zs:List Zf} (h:i < x.length):zs::(x.take (i+1)).map zL=(zs::(x.take i).map zL)++[zL (x.getD i zd0)]:=by
 have e:x.getD i zd0=x[i]:=by rw [zbh,zbk h];rfl
 rw [e,zcn h,zer];rfl
theorem ji0 (l:List Deal) (o:Int) (b p:List Int) (m a:Int) (hl:l.length<=16) (hd: ∀d∈l,d.share.dig) (hS: ∀d∈l,d.share.n.l.length<=4/\d.share.d.l.length<=4) (hbl:b.length<=40) (hpl:p.length<=40):
  Ct Tryz.prog 19 [tL 7 true tDeal l,tState o b p,tI m,tI a] (tB true):=by
 refine Ct.intro func19 rfl ntmps19 rfl ?_;intro w F;refine A1 ?_;refine jq9 99 ?_;refine A6 ?_;refine xe3 ?_;refine xa5 xa4 qA trivial trivial rfl (xa5 (x3 (jd0 l (by omega)) fi15 rfl) qA trivial trivial rfl (xa5 xa4 qA trivial trivial rfl ?_));refine za0 [] (fun j=>cond (Nat.beq j 3) 203 j) (qp7 l (by omega) (fun d hdm=>by have:=hS d hdm;omega)) fi58 rfl (krN (ρ:=(fun j=>cond (Nat.beq j 3) 203 j))) (fun _=>krC (ρ:=(fun j=>cond (Nat.beq j 3) 203 j)) (k:=3) xc2 (krN (ρ:=(fun j=>cond (Nat.beq j 3) 203 j)))) (fun _=>⟨⟨rfl,xb2⟩,trivial⟩) rfl (fun _=>rfl) qA trivial qA .nil rfl (fun x n1 hn1 _ hR1=> ?_);obtain ⟨hx,hsx,hnx⟩:=hR1;have hxl:x.length=l.length:=by rw [<-hx,zcq]
 refine ji9 (t:=30) (k:=203) (f:=tZd) (xs:=x) rfl rfl NoLb.ov' (xn8 rfl) rfl (xa5 xb8 qA trivial trivial rfl (xa5 xb8 qA trivial trivial rfl (xd1 ?_)));refine A7 ?_;refine RE (xe9 (fun _=>35) (yw3 b (by omega)) fi59 rfl (krN (ρ:=fun _=>35)) (krC (ρ:=fun _=>35) (k:=11) xc2 (krN (ρ:=fun _=>35))) ⟨⟨rfl,xb2⟩,trivial⟩ rfl) qA trivial qA ?_;refine A2 ?_;refine RE (xe9 (fun _=>38) (yw3 p (by omega)) fi59 rfl (krN (ρ:=fun _=>38)) (krC (ρ:=fun _=>38) (k:=11) xc2 (krN (ρ:=fun _=>38))) ⟨⟨rfl,xb2⟩,trivial⟩ rfl) qA trivial qA (R3 (xz6 (es:=[.val (tI o),.own (.sl 35 1 0 b.length),.own (.sl 38 1 0 p.length)]) (r:=[.val (tI o),.own (.sl 35 1 0 b.length),.own (.sl 38 1 0 p.length)]) bu25 rfl rfl rfl rfl) rfl rfl rfl (RE (ym5 (k:=10) (n:=3) [.int .i64 0,.slice none 0 0,.slice none 0 0] zr25.1 rfl rfl rfl rfl) trivial trivial qA (RE (ym9 ti25 rfl rfl rfl) qB qA trivial ?_)));refine A3 ?_;refine ye4 (q:=10) (j:=35) (f:=tIb) (xs:=b) (ms:=mksI) (us':=fun u=>[.val (tI o),.val (tIX u b mksI),.own (.sl 38 1 0 p.length)]) [] 1 rfl rfl rfl rfl (NoLbK.of NoLb.ov') .nil rfl rfl (fun _=>rfl) (fun ui1 nui1 _=> ?_);refine ye4 (q:=10) (j:=38) (f:=tIb) (xs:=p) (ms:=mksI) (us':=fun u=>[.val (tI o),.val (tIX ui1 b mksI),.val (tIX u p mksI)]) [ui1] 2 rfl rfl rfl rfl (NoLbK.of NoLb.ov') (.keyAt (k:=10) (i:=1) rfl rfl WitT.lx) rfl rfl (fun _=>rfl) (fun ui2 nui2 fui2=> ?_);refine xe3 ?_;refine xa5 xa4 qA trivial trivial rfl ?_;refine yo0 (ts:=[_]) ([ui1]++[ui2]) (js1 l hd) fi21 ⟨yi7 hx,trivial⟩ rfl qA (.app (.keyAt (k:=10) (i:=1) rfl rfl WitT.lx) (.keyAt (k:=10) (i:=2) rfl rfl WitT.lx)) rfl (fun un n2 hn2 ho2 hun=> ?_);refine xa5 xa4 qA trivial trivial rfl (xa5 (xd9 rfl) qA trivial trivial rfl (xa5 (xd9 rfl) qA trivial trivial rfl (xa5 (xa3 (k:=11) (n:=3) (agg:=true) zr25.1 zr25.2 rfl) trivial trivial qA rfl (xa5 (xa8 (es:=3) (agg:=true) (0) ti25 rfl rfl rfl) qB qA trivial rfl (xa5 xb8 qA trivial trivial rfl (xd1 ?_))))));refine A4 ?_;refine R1 (x3 (jc4 l hd) fi60 rfl) rfl ?_;refine A3 ?_;refine RE (xa3 (k:=13) (n:=3) (agg:=true) zr34.1 zr34.2 rfl) trivial trivial qA ?_;refine A5 ?_;refine xe3 ?_;refine xa5 xa4 qA trivial trivial rfl (xa5 (yc7 (us:=[tI o,tIX ui1 b mksI,tIX ui2 p mksI]) (t:=tStX o b p mksI ui1 ui2) ti25 rfl rfl rfl rfl) qA qA trivial rfl (xa5 xa4 qA trivial trivial rfl (xa5 xa4 qA trivial trivial rfl ?_)));refine yo0 (ts:=[_,_,_,_]) (([ui1]++[ui2])++([un.1]++[un.2])) (jq5 l o b p m a hd) fi22 ⟨yi7 hx,ys2,zao,zao,trivial⟩ rfl qD (.app (.app (.keyAt (k:=10) (i:=1) rfl rfl WitT.lx) (.keyAt (k:=10) (i:=2) rfl rfl WitT.lx)) (.keyAt (k:=11) (i:=0) rfl rfl jk9)) rfl (fun us n3 hn3 ho3 hus=> ?_);refine xa5 xa4 qA trivial trivial rfl (xa5 (xd9 rfl) qA trivial trivial rfl (xa5 (xd9 rfl) qA trivial trivial rfl (xa5 (xd9 rfl) qA trivial trivial rfl (xa5 (xa3 (k:=15) (n:=3) (agg:=true) zr25.1 zr25.2 rfl) trivial trivial qA rfl (xa5 (xa8 (es:=3) (agg:=true) (0) ti25 rfl rfl rfl) qB qA trivial rfl (xa5 xb8 qA trivial trivial rfl (xa5 xb8 qA trivial trivial rfl (xd1 ?_))))))));refine A5 ?_;refine R1 (x3 (y8 o b p) fi18 rfl) rfl ?_;refine A2 ?_;refine Rt (x3 (qz1 l o b p m a hd) fi61 rfl) qD ?_;refine A4 ?_;refine RE (xa3 (k:=18) (n:=3) (agg:=true) zr34.1 zr34.2 rfl) trivial trivial qA ?_;refine A6 ?_;refine xe3 ?_;refine xa5 xa4 qA trivial trivial rfl (xa5 xa4 qA trivial trivial rfl (wl_imp (t:=70) rfl (Imp.le (yi7 hx)) (fun k hk=>by cases hk) ?_));refine za0 (hdD x) (fun j=>cond (Nat.beq j 25) 225 j) (qo3 l m hd) fi44 rfl (krN (ρ:=(fun j=>cond (Nat.beq j 25) 225 j))) (fun _=>krC (ρ:=(fun j=>cond (Nat.beq j 25) 225 j)) (k:=25) xc2 (krN (ρ:=(fun j=>cond (Nat.beq j 25) 225 j)))) (fun _=>⟨⟨rfl,xb2⟩,trivial⟩) rfl (fun _=>rfl) qB trivial qA (.slot (s:=0) rfl wit_x) rfl (fun z4 n4 hn4 ho4 hR4=> ?_);obtain ⟨zs,e4⟩:=z4;obtain ⟨hz,he4,hsz,hwz⟩:=hR4;replace he4:e4=_:=he4;subst he4;refine xa5 xa4 qA trivial trivial rfl (xa5 (zf7 rfl) qA trivial trivial rfl (xa5 (zf7 rfl) qA trivial trivial rfl (xa5 xb8 qA trivial trivial rfl ?_)));refine yg2 (t:=21) (k:=225) (f:=tZf) (xs:=zs) (ms:=[]) [] rfl rfl NoLb.ov' .nil (by rw [zfg]) rfl (fun uz nuz _=> ?_)
 refine xa5 xb8 qA trivial trivial rfl (xd1 ?_);refine A5 ?_;refine R2 (x3 (qb5 l m hd) fi62 rfl) rfl rfl ?_;refine A14 ?_;refine Rg (zbf (by exact fun h=>h rfl)) rfl xa4 rfl qA (Rg (zbf (by exact fun h=>h rfl)) rfl xa4 rfl qA (Rg (zbf (by exact fun h=>h rfl)) rfl yb3 rfl qB (R2 (xc8 (zbf (by exact fun h=>h rfl))) rfl rfl ?_)));refine A1 ?_;refine Rg (zbf (by exact fun h=>h rfl)) rfl xa4 rfl qA (Rg (zbf (by exact fun h=>h rfl)) rfl xa4 rfl qA (Rg (zbf (by exact fun h=>h rfl)) rfl yb3 rfl qB (R2 (xc8 (zbf (by exact fun h=>h rfl))) rfl rfl ?_)));refine A1 ?_;refine RGon (zbf (by exact fun h=>h rfl)) rfl (x7 (0) ti25 rfl rfl) rfl qA qA trivial (Rg (zbf (by exact fun h=>h rfl)) rfl (xb4 (ts:=[_]) (y8 0 (if validL l then (List.replicate l.length (0:Int)) else []) (if validL l then (List.replicate l.length (0:Int)) else [])) fi18 rfl ⟨ys2,trivial⟩) rfl qA (RGon (zbf (by exact fun h=>h rfl)) rfl (x7 (0) ti34 rfl rfl) rfl qA qA trivial (Rg (zbf (by exact fun h=>h rfl)) rfl (x3 (zq2 0 (if validL l then (List.replicate l.length (0:Int)) else []) (if validL l then (List.replicate l.length (0:Int)) else [])) fi63 rfl) rfl qB (Rg (zbf (by exact fun h=>h rfl)) rfl xm4 rfl qA (R2 (xc8 (zbf (by exact fun h=>h rfl))) rfl rfl ?_)))));refine A2 ?_;refine Rg rfl rfl (xb4 (ts:=[_]) (y8 (stepO l o b p m a) (stepB l o b p m a) (stepP l o b p m a)) fi18 rfl ⟨ys2,trivial⟩) rfl qA ?_;refine A1 ?_;refine Rg rfl rfl (x3 (zq2 (stepO l o b p m a) (stepB l o b p m a) (stepP l o b p m a)) fi63 rfl) rfl qB ?_;refine A5 ?_;refine Rg rfl rfl (xb4 (ts:=[tIX us.2.2 (stepQ l o b p m a) [],tIs (stepQ l o b p m a)]) (yz5 (stepQ l o b p m a)) fi64 rfl ⟨zb9,zao,trivial⟩) rfl qB ?_;refine A5 ?_;refine Rg rfl rfl (xb4 (ts:=[tFL (uz,zs),tL 4 true tFr (bif shBad l m then [] else (shAll l m).q.set 0 (fr (shAll l m).r))]) (jb9 (bif shBad l m then [] else (shAll l m).q.set 0 (fr (shAll l m).r))) fi65 rfl ⟨ltf_le hz,zao,trivial⟩) rfl qB ?_;refine A4 ?_;refine RGon rfl rfl (yc7 (us:=[tI o,tIX ui1 b mksI,tIX ui2 p mksI]) (t:=tStX o b p mksI ui1 ui2) ti25 rfl rfl rfl rfl) rfl qA qA trivial (Rg rfl rfl (xb4 (ts:=[_,_]) (qn0 l o b p hd hl) fi66 rfl ⟨yi7 hx,ys2,trivial⟩) rfl qB ?_);refine A11 ?_;refine R1 (xb4 (ts:=[_]) (xw1 l hd) fi13 rfl ⟨yi7 hx,trivial⟩) rfl ?_;refine A1 ?_;refine R1 (x3 (ya9 l hd) fi14 rfl) rfl ?_;refine A2 ?_;refine Rg (by simp) rfl xa4 rfl qA (RGon (by simp) rfl (yc7 (us:=[tI o,tIX ui1 b mksI,tIX ui2 p mksI]) (t:=tStX o b p mksI ui1 ui2) ti25 rfl rfl rfl rfl) rfl qA qA trivial (Rg (by simp) rfl (xb4 (ts:=[_,_]) (yn9 l o b p hd) fi16 rfl ⟨yi7 hx,ys2,trivial⟩) rfl qB (Rg (by simp) rfl xa4 rfl qA (RGon (by simp) rfl (x7 (0) ti25 rfl rfl) rfl qA qA trivial (Rg (by simp) rfl (x3 (y8 o b p) fi18 rfl) rfl qA (Rg (by simp) rfl (x3 (ym1 l o b p hd) fi17 rfl) rfl qB (Rg (by simp) rfl (qo0 zhb) rfl qB (R2 (xc8 (by simp)) rfl rfl ?_))))))));refine A1 ?_;refine Rg (by simp) rfl (xf4 fo25_1.h rfl) rfl qA (RGon (by simp) rfl (x7 (1) ti23 rfl rfl) rfl qA qA trivial (Rg (by simp) rfl (xf4 fo25_1.h rfl) rfl qA (xg1 (by simp) rfl rfl (0) ti23 rfl rfl rfl (At.g 1 rfl rfl) rfl (Rg (by simp) rfl (xb4 (ts:=[tIX ui1 b mksI,tIs b]) (zd3 b (by omega)) fi67 rfl ⟨lx_K,zao,trivial⟩) rfl qB (Rg (by simp) rfl xm4 rfl qA (R2 (xc8 (by simp)) rfl rfl ?_))))));refine A2 ?_;refine RGon rfl rfl (x7 (2) ti23 rfl rfl) rfl qA qA trivial ?_;refine A2 ?_;refine Rg rfl rfl (xb4 (ts:=[tIX ui2 p mksI,tIs p]) (zd3 p (by omega)) fi67 rfl ⟨lx_K,zao,trivial⟩) rfl qB ?_;refine A10 ?_;refine RE (xi0 (k:=158) (ents:=rV tFL [(uz,zs)]) zhi el71 zf71 rfl (fun e he=>by simp only [rV,zcx,zfn,zbq] at he;subst he;infer_instance) rfl rfl rfl) qA trivial qA ?_;refine A10 ?_;refine cL (fun (fm:(Nat)×(List (Hd×List Zf)))=>(fun (i:Nat) (qs:List (Hd×List Zf))=>i<=x.length/\qs.map (·.2)=zs::(x.take i).map zL/\SepH (qs.map (·.1))/\NewH w.heap.size (qs.map (·.1))) fm.1 fm.2) (wB fun (i:Nat) (qs:List (Hd×List Zf))=>uV (uO (uV (uO (uO (uO (uV (uV uN 0 (tL 7 true tZd x)) 9 (tL 7 true tDeal l)) 10 (.ptr 10 0)) 11 (.ptr 11 0)) 15 (.ptr 15 0)) 16 (tIX us.2.2 (stepQ l o b p m a) [])) 25 (.sl 158 1 0 qs.length)) 26 (tI i)) (wB fun (i:Nat) (qs:List (Hd×List Zf))=>uK (uK (uK (uK (uK uN 10 25 1 false [.val (tI o),.val (tIX ui1 b mksI),.val (tIX ui2 p mksI)]) 11 25 3 true [.val (tStX 0 (if validL l then (List.replicate l.length (0:Int)) else []) (if validL l then (List.replicate l.length (0:Int)) else []) [] un.1 un.2)]) 15 25 3 true [.val (tStX (stepO l o b p m a) (stepB l o b p m a) (stepP l o b p m a) [] us.1 us.2.1)]) 158 71 1 false (rV tFL qs)) 99 0 1 false []) [10,11,15,158,99,158] (fun (fm:(Nat)×(List (Hd×List Zf)))=>(fun (i:Nat) (qs:List (Hd×List Zf))=>x.length - i) fm.1 fm.2) ((0,[(uz,zs)])) (by dsimp only;exact ⟨zbs _,rfl,SepH.one,nuz⟩) ?_
 intro fm hI;obtain ⟨i,qs⟩:=fm;replace hI:i<=x.length/\qs.map (·.2)=zs::(x.take i).map zL/\SepH (qs.map (·.1))/\NewH w.heap.size (qs.map (·.1)):=hI;show wc _ _ _ _ (uV (uO (uV (uO (uO (uO (uV (uV uN 0 (tL 7 true tZd x)) 9 (tL 7 true tDeal l)) 10 (.ptr 10 0)) 11 (.ptr 11 0)) 15 (.ptr 15 0)) 16 (tIX us.2.2 (stepQ l o b p m a) [])) 25 (.sl 158 1 0 qs.length)) 26 (tI i)) (uK (uK (uK (uK (uK uN 10 25 1 false [.val (tI o),.val (tIX ui1 b mksI),.val (tIX ui2 p mksI)]) 11 25 3 true [.val (tStX 0 (if validL l then (List.replicate l.length (0:Int)) else []) (if validL l then (List.replicate l.length (0:Int)) else []) [] un.1 un.2)]) 15 25 3 true [.val (tStX (stepO l o b p m a) (stepB l o b p m a) (stepP l o b p m a) [] us.1 us.2.1)]) 158 71 1 false (rV tFL qs)) 99 0 1 false []) _;obtain ⟨hi,hq2,hqs,hqn⟩:=hI;have hqe0:qs.length=i+1:=by
  have e:=congrArg List.length hq2;simp only [zcq,zek,zcz] at e;omega
 refine A9 ?_;refine xa6 rfl (fun h112=> ?_) (fun h112=> ?_)
 ·
  refine A9 ?_;refine R2 (x8 sl22 (i) (by omega) (zai (l:=x) (n:=i) (d:=zd0))) rfl rfl (R1 (xf1 fo44_2.h (At.f 2 rfl rfl) rfl) rfl ?_);refine A3 ?_;refine R2 (x8 sl30 (i) (by omega) (zai (l:=l) (n:=i) (d:=deal0))) rfl rfl (R1 (xf1 fo79_2.h (At.f 2 rfl rfl) rfl) rfl ?_);refine A1 ?_;refine R2 (xb4 (ts:=[_,_]) (zi3 (x.getD i zd0).s.share) fi46 rfl ⟨ye8,(Le.of (by rw [zd_get hx (by omega)])),trivial⟩) rfl rfl ?_;refine A6 ?_;refine xe3 ?_;refine xa5 xa4 ⟨rfl,trivial⟩ trivial trivial rfl (xa5 xa4 ⟨rfl,trivial⟩ trivial trivial rfl (xa5 xa4 ⟨rfl,trivial⟩ trivial trivial rfl (xa5 (x8 sl22 (i) (by omega) (zai (l:=x) (n:=i) (d:=zd0))) ⟨rfl,rfl,trivial⟩ trivial trivial rfl (xa5 (xf1 fo44_2.h (At.f 2 rfl rfl) rfl) ⟨rfl,trivial⟩ trivial trivial rfl (xa5 (xi6 ti41) ⟨rfl,trivial⟩ trivial trivial rfl (xa5 (xi0 (k:=183) (ents:=rV tZf (zL (x.getD i zd0))) zhc el41 zf41 rfl (fun e he=>by simp only [rV,zL,zcx,zfn,zbq] at he;subst he;infer_instance) rfl rfl rfl) ⟨rfl,trivial⟩ trivial ⟨rfl,trivial⟩ rfl ?_))))));refine yg2 (t:=183) (k:=183) (f:=tZf) (xs:=zL (x.getD i zd0)) (ms:=[]) (qs.map (·.1)) rfl rfl NoLb.ov' (by rw [<-zs8];exact WitSt.keyV (k:=158) rfl fun q _=>fl_wit) (by rw [zfg]) rfl (fun u nu fu=> ?_);refine xa5 (xb6 (n:=1) (f:=tFL) [(u,zL (x.getD i zd0))] zhi el71 zf71 rfl (fun _=>inferInstance) rfl rfl rfl) qA trivial trivial rfl (xa5 (xc5 (k:=158) (k':=185) (f:=tFL) (ys:=[(u,zL (x.getD i zd0))]) (ts':=rV tFL (qs++[(u,zL (x.getD i zd0))])) zhi el71 zf71 rfl rfl (fun _=>inferInstance) xe0 (by simp;omega) (by simp;omega) (by simp [rV]) (n':=qs.length+1) rfl) qB qA qA rfl (xa5 xb8 qA trivial trivial rfl (xd1 ?_)));refine A7 ?_;exact xh0 (l:=[10,11,15,158,99,158]) (zab 158 185) ((i+1,(qs++[(u,zL (x.getD i zd0))]))) ⟨(by dsimp only;exact ⟨by omega,by rw [zer,hq2,jj8 (by omega)];rfl,by rw [zer];exact hqs.fresh SepH.one fu,by rw [zer];exact hqn.app nu⟩),(by dsimp only;omega)⟩ (zaf rfl ((zbc rfl (zaw (by dsimp only;rw [zck];rfl))) (zas rfl (zas rfl (zas rfl (zas rfl (zas rfl (zas rfl zbd)))))))) ((zbb rfl zap) ((zbb rfl (zat xc2.symm)) ((zbb rfl zap) ((zbb rfl zap) ((zbb rfl zap) zbe))))) (zaj (zak rfl (zaj (zak rfl (zak rfl (zak rfl (zaj (zaj zar)))))))) (zam rfl (supJL rfl) (zam rfl (supJ xb2) (zam rfl (supJL rfl) (zam rfl (supJL rfl) (zam rfl (supJL rfl) zaz))))) (lkOk rfl) rfl rfl (fun _ h=>by cases h;rfl)
 ·
  refine A6 ?_;refine xe3 ?_;refine xa5 (xf4 fo25_1.h rfl) qA trivial trivial rfl (xq4 (0) ti23 rfl rfl rfl (At.g 1 rfl rfl) rfl rfl (xa5 (xf4 fo25_2.h rfl) qA trivial trivial rfl (xq4 (0) ti23 rfl rfl rfl (At.g 2 rfl rfl) rfl rfl (xa5 (xf4 fo25_1.h rfl) qA trivial trivial rfl (xq4 (0) ti23 rfl rfl rfl (At.g 1 rfl rfl) rfl rfl (xa5 (xf4 fo25_2.h rfl) qA trivial trivial rfl (xq4 (0) ti23 rfl rfl rfl (At.g 2 rfl rfl) rfl rfl (xa5 xa4 qA trivial trivial rfl (xa5 (xf4 fo25_1.h rfl) qA trivial trivial rfl (xa5 (x7 (1) ti23 rfl rfl) qA qA trivial rfl (xa5 (xf4 fo25_2.h rfl) qA trivial trivial rfl (xa5 (x7 (2) ti23 rfl rfl) qA qA trivial rfl (xa5 (xi0 (k:=199) (ents:=[.val (tIX un.1 (if validL l then (List.replicate l.length (0:Int)) else []) []),.val (tIX un.2 (if validL l then (List.replicate l.length (0:Int)) else []) []),.val (tIX us.1 (stepB l o b p m a) []),.val (tIX us.2.1 (stepP l o b p m a) []),.val (tIX us.2.2 (stepQ l o b p m a) []),.val (tIX ui1 b mksI),.val (tIX ui2 p mksI)]) zhe el23 zf23 rfl (by intro e he;simp only [zbt,zed,or_false] at he;rcases he with rfl | rfl | rfl | rfl | rfl | rfl | rfl <;> infer_instance) rfl rfl rfl) ⟨rfl,rfl,rfl,rfl,rfl,rfl,rfl,trivial⟩ trivial qA rfl ?_)))))))))))));have hil:i=x.length:=by omega
  subst hil;rw [zci] at hq2;obtain ⟨us7,h7⟩: ∃us7:List (Hd×List Int),us7=[(un.1,(if validL l then (List.replicate l.length (0:Int)) else [])),(un.2,(if validL l then (List.replicate l.length (0:Int)) else [])),(us.1,(stepB l o b p m a)),(us.2.1,(stepP l o b p m a)),(us.2.2,(stepQ l o b p m a)),(ui1,b),(ui2,p)]:=⟨_,rfl⟩
  have hqe:qs.length=x.length+1:=by
   have e:=congrArg List.length hq2;simpa using e
  have hall:=qs_all hq2;have hzl:zs.length<=17:=by
   have e:(zs.map Zf.f).length<=l.length+1:=by
    have e:=jp2 (m:=m) hd;rw [<-hz] at e;exact e
   rw [zcq] at e;omega
  have hlq: ∀ys∈qs.map (·.2),ys.length<=17:=fun ys hy=>by
   rcases hall ys hy with rfl | ⟨z,_,rfl⟩
   ·exact hzl
   ·show 1<=17;omega
  have hll:=jo0 hlq;have hlim: ∀ys∈qs.map (·.2),∀z∈ys,z.f.n.l.length<=1000000/\z.f.d.l.length<=1000000:=fun ys hy z hzm=>by
   rcases hall ys hy with rfl | ⟨y,hym,rfl⟩
   ·have:=jn9 (m:=m) hd z.f (by rw [<-hz];exact zcr hzm);omega
   ·have hzm:z=⟨y.s.share,y.n,y.d⟩:=by simpa [zL] using hzm
    subst hzm;have:=hS y.s (by rw [<-hx];exact zcr hym);show y.s.share.n.l.length<=_/\y.s.share.d.l.length<=_;omega
  obtain ⟨stl1,stl2,stl3⟩:=zo8 (l:=l) (o:=o) (b:=b) (p:=p) (m:=m) (a:=a);have hzi:(if validL l then (List.replicate l.length (0:Int)) else []).length<=16:=by split <;> simp <;> omega
  have h7l: ∀u∈us7,u.2.length<=1000000:=fun u hu=>by
   rw [h7] at hu;simp only [zbt,zed,or_false] at hu;rcases hu with rfl | rfl | rfl | rfl | rfl | rfl | rfl <;> dsimp only <;> omega
  have h7e:us7.map (·.1)=[un.1,un.2,us.1,us.2.1,us.2.2,ui1,ui2]:=by rw [h7];rfl
  have hsi:SepH ([ui1]++[ui2]):=SepH.fresh SepH.one SepH.one fui2;have hs7:SepH [un.1,un.2,us.1,us.2.1,us.2.2,ui1,ui2]:=by
   have h1:SepH (([ui1]++[ui2])++([un.1,un.2]++[us.1,us.2.1,us.2.2])):=by
    rw [<-zfz];exact (hsi.app hun.2 ho2 hun.1).app hus.2 ho3 hus.1
   exact h1.swap
  have hn7:NewH w.heap.size [un.1,un.2,us.1,us.2.1,us.2.2,ui1,ui2]:=(((hun.1.le hn2).app (hus.1.le hn3)).app (nui1.app nui2):NewH w.heap.size (([un.1,un.2]++[us.1,us.2.1,us.2.2])++([ui1]++[ui2])))
  have hlh:(itQ qs).map (·.1)=hdZ zs++hdD x:=by rw [zs4,hq2,zdu,qi7]
  have hsl:SepH (hdZ zs++hdD x):=(hsx.app hsz ho4 hwz).swap;have hnl:NewH w.heap.size (hdZ zs++hdD x):=(hwz.le hn4).app (hnx.le hn1);have hnew:NewH w.heap.size (((inI us7)++((lmI 64 (itQ qs))++(frI (qH qs)))).map (·.1)):=by
   rw [zer,zer,zw3,zv5,zp9,qk5,h7e,hlh];exact hn7.app (hnl.app hqn)
  have ht1: ∀V:Dom,Takes (XG V (inI us7) (lmI 64 (itQ qs)) (frI (qH qs))) 0 1 (inI us7):=fun V=>XG.first (by rw [zw3,h7e];exact hs7) (.of _ _ in_T lm_T rfl) (.of _ _ in_T fq_T rfl);have ht2: ∀V:Dom,Takes (XG V (inI us7) (lmI 64 (itQ qs)) (frI (qH qs))) 1 2 (lmI 64 (itQ qs)):=fun V=>XG.second (by rw [zv5,hlh];exact hsl) (.of _ _ lm_T fq_T rfl);have ht3: ∀V:Dom,Takes (XG V (inI us7) (lmI 64 (itQ qs)) (frI (qH qs))) 2 3 (frI (qH qs)):=fun V=>XG.third (by rw [zp9,qk5];exact hqs);refine jh6 (ps:=(inI us7)) (qs:=(lmI 64 (itQ qs))) (rs:=(frI (qH qs))) (g':=(uO (uO uN 25 (.sl 158 1 0 qs.length)) 199 (.sl 199 1 0 7))) (h':=(upd (upd (fun _=>none) 158 (some ⟨71,1,false,rV tH (qs.map (·.1))⟩)) 199 (some ⟨23,1,false,rV tH [un.1,un.2,us.1,us.2.1,us.2.2,ui1,ui2]⟩))) (fun _ hb=>hb.elim) ?hit hnew (SlW.cons rfl .sl (SlW.cons rfl .sl SlW.nil)) (KyW.cons rfl (.cons (.val yn5 Free.E) (.cons (.val yn5 Free.E) (.cons (.val yn5 Free.E) (.cons (.val yn5 Free.E) (.cons (.val yn5 Free.E) (.cons (.val yn5 Free.E) (.cons (.val yn5 Free.E) (.nil)))))))) (KyW.cons rfl (WkL.map (fun _=>yn5) fun _=>Free.E) KyW.nil)) (fun V hV=> ?_)
  case hit=>
   refine ItG.app ?_ (ItG.app ?_ ?_)
   ·rw [h7];exact (ItG.keyAt (k:=11) (i:=0) rfl rfl qw5).app ((ItG.keyAt (k:=15) (i:=0) rfl rfl qw5).app ((ItG.keyAt (k:=199) (i:=4) rfl rfl zc1).app ((ItG.keyAt (k:=199) (i:=5) rfl rfl zc1).app (ItG.keyAt (k:=199) (i:=6) rfl rfl zc1))))
   ·rw [<-jb7];exact ItG.key (k:=158) rfl fun q _=>fl_lim
   ·rw [<-qa0];exact ItG.key (k:=158) rfl fun q _=>fl_it
  have hV2:=XG_new (ps:=(inI us7)) (qs:=(lmI 64 (itQ qs))) (rs:=(frI (qH qs))) hV hnew;refine xa5 (yv7 (fun j=>cond (Nat.beq j 20) 199 j) OvC.mk' (zs3 (XG V (inI us7) (lmI 64 (itQ qs)) (frI (qH qs))) 0 1 us7 7 (by rw [h7];rfl) (ht1 V) (by decide) (in_lim h7l)) fi68 rfl (krC (ρ:=(fun j=>cond (Nat.beq j 20) 199 j)) (k:=20) (by rw [h7e];exact xc2) (krN (ρ:=(fun j=>cond (Nat.beq j 20) 199 j)))) rfl (by intro e he;rw [zbq.1 he];exact .sl) (by
   intro y hy;rw [zbq.1 hy];exact ye0)) qA qB trivial rfl ?_
  refine xa5 xa4 qA trivial trivial rfl (xu2 rfl rfl xa4 rfl qA trivial trivial rfl ?_);refine xu2 rfl rfl (yv7 (fun j=>cond (Nat.beq j 20) 158 j) OvC.mk' (zp4 (XG V (inI us7) (lmI 64 (itQ qs)) (frI (qH qs))) 1 2 3 (qH qs) (itQ qs) qs.length (by rw [qH,zcq]) (ht2 V) (ht3 V) (by omega) (jr2 hlim) (by omega) (qH_lim hlq (by decide)) (by rw [zs4,ji5]) (fun w1 hJ=>hJ.2.2 (by omega))) fi69 rfl (krC (ρ:=(fun j=>cond (Nat.beq j 20) 158 j)) (k:=20) (by rw [qk5];exact xc2) (krN (ρ:=(fun j=>cond (Nat.beq j 20) 158 j)))) rfl (by intro e he;rw [zbq.1 he];exact .sl) (by
   intro y hy;rw [zbq.1 hy];exact ye0)) rfl qA qB trivial rfl ?_
  refine xa5 (xm0 rfl) qB trivial trivial rfl (xa5 xb8 qA trivial trivial rfl (xd1 ?_));refine A2 ?_;exact E_retB (RBase.ov hV2) trivial rfl rfl
instance fi12:FnI Tryz.prog 12:=⟨_,func12,by kernel_rfl,rfl⟩
instance fi19:FnI Tryz.prog 19:=⟨_,func19,by kernel_rfl,rfl⟩
abbrev dS (n d:Nat):List Deal:=[⟨2,5,fr (Rat.divInt (n:Int) (d:Int)),4⟩,⟨3,9,fr (Rat.divInt 1 (1+(n:Int))),4 - (n:Int)%2⟩]
def kS (j:Nat):Nat:=1+(j+1)%2
def lS (n d j:Nat):List Deal:=(dS n d).take (kS j)
def zS (n d j:Nat):List Int:=List.replicate (lS n d j).length 0
theorem qw9: ∀d:Fin 7,∀n:Fin 7,1<=d.val->n.val<=d.val-> ∀j:Fin 15,(validL (lS n.val d.val j.val) && decide (stepE (lS n.val d.val j.val) 0 (zS n.val d.val j.val) (zS n.val d.val j.val) 4 ((j.val:Int) - 7)=0))=true:=by decide+kernel
theorem jr9: ∀j:Fin 15,bits .and .i64 ((j.val:Int) - 7) 1=(((j.val+1)%2:Nat):Int):=by decide+kernel
theorem za2 {n d j:Nat} (h1:1<=d) (h2:d<=6) (h3:n<=d) (hj:j < 15):validL (lS n d j)=true/\stepE (lS n d j) 0 (zS n d j) (zS n d j) 4 ((j:Int) - 7)=0:=by
 have h:=qw9 ⟨d,by omega⟩ ⟨n,by omega⟩ h1 h3 ⟨j,hj⟩;simp only [zcf,zee] at h;exact h
theorem qm6 {j:Nat} (hj:j < 15):bits .and .i64 ((j:Int) - 7) 1=(((j+1)%2:Nat):Int):=jr9 ⟨j,hj⟩
def okDl (l:List Deal):Prop:=l.length<=16/\(∀d∈l,d.share.dig)/\ ∀d∈l,d.share.n.l.length<=4/\d.share.d.l.length<=4
theorem ze5 {n d:Int} (hd:0 < d) (h1: -9223372036854775808<=n) (h2:n<=9223372036854775807) (h3:d<=9223372036854775807):(fr (Rat.divInt n d)).n.l.length<=4/\(fr (Rat.divInt n d)).d.l.length<=4:=by
 rw [xt1 hd];exact ⟨len16_div (len16_64 h1 h2),len16_div (len16_64 (by omega) h3)⟩
theorem zz4 {x:Deal} (h1:x.share.dig) (h2:x.share.n.l.length<=4/\x.share.d.l.length<=4):okDl [x]:=⟨by simp,fun d hd=>by rw [zbq.1 hd];exact h1,fun d hd=>by rw [zbq.1 hd];exact h2⟩
theorem zv4 {n d j:Nat} (h1:1<=d) (h2:d<=6) (h3:n<=d):okDl (lS n d j):=by
 have hm: ∀x∈lS n d j,x.share.dig/\x.share.n.l.length<=4/\x.share.d.l.length<=4:=fun x hx=>by
  have hx:=List.mem_of_mem_take hx;simp only [zbt,zed,or_false] at hx;rcases hx with rfl | rfl
  ·exact ⟨yd7 _,ze5 (by omega) (by omega) (by omega) (by omega)⟩
  ·exact ⟨yd7 _,ze5 (by omega) (by omega) (by omega) (by omega)⟩
 refine ⟨?_,fun x hx=>(hm x hx).1,fun x hx=>(hm x hx).2⟩;rw [lS,zcz];show min _ 2<=16;omega
theorem ye5 (l:List Deal) (o:Int) (b p:List Int) (m a:Int) (h:okDl l) (hb:b.length<=40) (hp:p.length<=40):Ct Tryz.prog 19 [tL 7 true tDeal l,tState o b p,tI m,tI a] (tB true):=ji0 l o b p m a h.1 h.2.1 h.2.2 hb hp
theorem jr6 {n d j:Nat} (h1:1<=d) (h2:d<=6) (h3:n<=d) (hj:j < 15):Ct Tryz.prog 21 [tL 7 true tDeal (lS n d j)] (tT [tState 0 (zS n d j) (zS n d j),tI 0]):=by
 have h:=qr4 (lS n d j) (zv4 (j:=j) h1 h2 h3).2.1;rw [if_pos (za2 h1 h2 h3 hj).1,if_pos (za2 h1 h2 h3 hj).1] at h;exact h
theorem ji7 {n d j:Nat} (h1:1<=d) (h2:d<=6) (h3:n<=d) (hj:j < 15):Ct Tryz.prog 22 [tL 7 true tDeal (lS n d j),tState 0 (zS n d j) (zS n d j),tI 4,tI ((j:Int) - 7)]
  (tT [tState (stepO (lS n d j) 0 (zS n d j) (zS n d j) 4 ((j:Int) - 7)) (stepB (lS n d j) 0 (zS n d j) (zS n d j) 4 ((j:Int) - 7)) (stepP (lS n d j) 0 (zS n d j) (zS n d j) 4 ((j:Int) - 7)),tIs (stepQ (lS n d j) 0 (zS n d j) (zS n d j) 4 ((j:Int) - 7)),tI 0]):=by
 have h:=qp5 (lS n d j) 0 (zS n d j) (zS n d j) 4 ((j:Int) - 7) (zv4 (j:=j) h1 h2 h3).2.1;rw [(za2 h1 h2 h3 hj).2] at h;exact h
theorem qc9 {n d j:Nat}:(stepB (lS n d j) 0 (zS n d j) (zS n d j) 4 ((j:Int) - 7)).length<=40/\(stepP (lS n d j) 0 (zS n d j) (zS n d j) 4 ((j:Int) - 7)).length<=40:=by
 obtain ⟨h1,h2,_⟩:=zo8 (l:=lS n d j) (o:=0) (b:=zS n d j) (p:=zS n d j) (m:=4) (a:=(j:Int) - 7);have hz:(zS n d j).length<=2:=by
  rw [zS,List.length_replicate,lS,zcz];show min _ 2<=2;omega
 omega
def endsS:List Int:=[-1099511627777, -1099511627776, -1099511627775, -1,0,1,1099511627775,1099511627776,1099511627777]
theorem xo1:endsS.length=9:=rfl
abbrev dT:Deal:=⟨0,1048576,fr ((1:Int):Rat),1⟩
theorem qt7:okDl [dT]:=zz4 (yd7 _) (by
 have h:=ze5 (n:=1) (d:=1) (by decide) (by decide) (by decide) (by decide)
 rwa [show Rat.divInt 1 1=((1:Int):Rat) by decide+kernel] at h)
abbrev bT (i:Nat):Deal:=⟨(i:Int) - 1,7 - (i:Int),fr (Rat.divInt (i:Int) 5),endsS.getD i 0⟩
theorem qo8 {i:Nat} (h:i < 9):okDl [bT i]:=zz4 (yd7 _) (ze5 (by decide) (by omega) (by omega) (by decide))
theorem qm4 {n d j:Nat}:kS j<=(dS n d).length:=by show 1+(j+1)%2<=2;omega
theorem zu1:
  Ct Tryz.prog 4 [] (tB true):=by
 refine Ct.intro func4 rfl ntmps4 rfl ?_;intro w F;refine xd7 ?_;refine xg4 ?_;refine R1 xb8 rfl (xg5 (by kernel_rfl) (xc6 (xd7 (xd7 ?_))));refine xg4 ?_;refine R1 xb8 rfl (xg5 (by kernel_rfl) (xc6 (xe4 ?_)));refine cL (fun (d:Nat)=>1<=d/\d<=7) (fun (d:Nat)=>uV uN 1 (tI d)) (fun (d:Nat)=>fun _=>none) [] (fun (d:Nat)=>7 - d) (1) ⟨zbm _,by decide⟩ ?_;intro d hI;obtain ⟨hd1,hd7⟩:=hI;refine xd7 (xd7 ?_);refine xg4 ?_;refine R1 xa4 rfl (R2 yo4 rfl rfl (xg5 (by kernel_rfl) (xc6 ?_)));refine xa6 rfl (fun h157=> ?_) (fun h157=> ?_)
 ·
  refine xq3 (xc6 (xd7 (xe4 (xd7 ?_))));refine xg4 ?_;refine R1 xb8 rfl (xg5 (by kernel_rfl) (xc6 (xe4 ?_)));refine cL (fun (n:Nat)=>n<=d+1) (fun (n:Nat)=>uV (uV uN 1 (tI d)) 2 (tI n)) (fun (n:Nat)=>fun _=>none) [] (fun (n:Nat)=>d+1 - n) (0) (zbs _) ?_;intro n hI2;refine xd7 (xd7 ?_);refine xg4 ?_;refine R1 xa4 rfl (R1 xa4 rfl (R2 yo4 rfl rfl (xg5 (by kernel_rfl) (xc6 ?_))));refine xa6 rfl (fun h158=> ?_) (fun h158=> ?_)
  ·
   refine xq3 (xc6 (xd7 (xe4 (xd7 ?_))));have hd6:d<=6:=by omega
   have hnd:n<=d:=by omega
   refine xg4 ?_;refine R1 xa4 rfl (R1 xa4 rfl (R2 (x3 (xq5 (n:Int) (d:Int) (by omega) (by omega) (by omega) (by omega) (by omega)) fi20 rfl) rfl rfl (Rt (xb7 (r:=tS [⟨1,false,tI 2⟩,⟨1,false,tI 5⟩,⟨4,true,tFr (fr (Rat.divInt (n:Int) (d:Int)))⟩,⟨1,false,tI 4⟩]) (ts:=[(0,tI 2),(1,tI 5),(2,tFr (fr (Rat.divInt (n:Int) (d:Int)))),(3,tI 4)]) bu44 zr44.2 (Bc 0 rfl rfl rfl (Bc 1 rfl rfl rfl (Bc 2 rfl rfl rfl (Bc 3 rfl rfl rfl zao))))) qD (R1 xa4 rfl (R2 (xc9 zah) rfl rfl (R2 (x3 (xq5 1 (1+(n:Int)) (by omega) (by omega) (by omega) (by omega) (by omega)) fi20 rfl) rfl rfl (R1 xa4 rfl (R2 (ze3 (by omega) (by omega)) rfl rfl (R2 (xf9 zah) rfl rfl (Rt (xb7 (r:=tS [⟨1,false,tI 3⟩,⟨1,false,tI 9⟩,⟨4,true,tFr (fr (Rat.divInt 1 (1+(n:Int))))⟩,⟨1,false,tI (4 - (n:Int)%2)⟩]) (ts:=[(0,tI 3),(1,tI 9),(2,tFr (fr (Rat.divInt 1 (1+(n:Int))))),(3,tI (4 - (n:Int)%2))]) bu44 zr44.2 (Bc 0 rfl rfl rfl (Bc 1 rfl rfl rfl (Bc 2 rfl rfl rfl (Bc 3 rfl rfl rfl zao))))) qD (R2 (xb6 (n:=2) (f:=tDeal) [⟨2,5,fr (Rat.divInt (n:Int) (d:Int)),4⟩,⟨3,9,fr (Rat.divInt 1 (1+(n:Int))),4 - (n:Int)%2⟩] zhd el44 zf44 rfl (fun _=>inferInstance) rfl rfl rfl) rfl rfl (R1 xb8 rfl (xg5 (by kernel_rfl) (xc6 (xd7 ?_)))))))))))))));refine xg4 ?_;refine R1 xb8 rfl (xg5 (by kernel_rfl) (xc6 (xe4 ?_)));refine cL (fun (j:Nat)=>j<=15) (fun (j:Nat)=>uV (uV (uV (uV uN 1 (tI d)) 2 (tI n)) 3 (tL 7 true tDeal (dS n d))) 4 (tI ((j:Int) - 7))) (fun (j:Nat)=>fun _=>none) [] (fun (j:Nat)=>15 - j) (0) (zbs _) (hg:=(Sub.int rfl (by decide) (sC (sI (sI zay))))) ?_;intro j hI3;refine xd7 (xd7 ?_);refine xg4 ?_;refine R1 xa4 rfl (R2 yo4 rfl rfl (xg5 (by kernel_rfl) (xc6 ?_)));refine xa6 rfl (fun h160=> ?_) (fun h160=> ?_)
   ·
    refine xq3 (xc6 (xd7 (xe4 (xd7 ?_))));have hj:j < 15:=by omega
    refine xg4 ?_;refine R1 xa4 rfl (R1 xa4 rfl (R2 (zc2 (r:=(((j+1)%2:Nat):Int)) (qm6 hj)) rfl rfl (R2 (xc9 zah) rfl rfl (R2 (xs9 (xs:=dS n d) (ys:=lS n d j) sl22 (kS j) (by rw [kS];omega) qm4 rfl) rfl rfl (R1 (x3 (jr6 hd1 hd6 hnd hj) fi21 rfl) rfl (R1 xa4 rfl (R1 (xd9 rfl) rfl (R1 (xd9 rfl) rfl (RE (xa3 (k:=5) (n:=3) (agg:=true) zr25.1 zr25.2 rfl) trivial trivial qA (RE (xa8 (es:=3) (agg:=true) (0) ti25 rfl rfl rfl) qB qA trivial (R1 xb8 rfl (xg5 (by kernel_rfl) (xc6 (xd7 ?_))))))))))))));refine yq5 mixed ?_;refine R1 xa4 rfl (R1 xa4 rfl (R2 (zc2 (r:=(((j+1)%2:Nat):Int)) (qm6 hj)) rfl rfl (R2 (xc9 zah) rfl rfl (R2 (xs9 (xs:=dS n d) (ys:=lS n d j) sl22 (kS j) (by rw [kS];omega) qm4 rfl) rfl rfl (RE (x7 (0) ti25 rfl rfl) qA qA trivial (R1 xa4 rfl (Rt (x3 (ji7 hd1 hd6 hnd hj) fi22 rfl) qD (R1 xa4 rfl (R1 (xd9 rfl) rfl (R1 (xd9 rfl) rfl (R1 (xd9 rfl) rfl (RE (xa3 (k:=7) (n:=3) (agg:=true) zr25.1 zr25.2 rfl) trivial trivial qA (RE (xa8 (es:=3) (agg:=true) (0) ti25 rfl rfl rfl) qB qA trivial (R1 xb8 rfl (R1 xb8 rfl ?_)))))))))))))));refine zf0 (by kernel_rfl) (xc6 (xd7 (xd7 ?_)));refine xg4 ?_;refine R1 xa4 rfl (R2 yb3 rfl rfl (R1 xa4 rfl (Rg (zbf (by exact fun h=>h rfl)) rfl xa4 rfl qA (Rg (zbf (by exact fun h=>h rfl)) rfl yb3 rfl qB (R2 (xc8 (zbf (by exact fun h=>h rfl))) rfl rfl (xg5 (by kernel_rfl) (xc6 ?_)))))));refine xa6 rfl (fun h163_2=> ?_) (fun h163_2=> ?_)
    ·
     exact absurd h163_2 (by omega)
    ·
     refine xq3 (xc6 (xd7 ?_));refine xg4 ?_;refine R1 xb8 rfl (xg5 (by kernel_rfl) (xc6 (xe4 ?_)));refine cL (fun (q:Nat)=>q<=9) (fun (q:Nat)=>uV (uO (uV (uV (uV (uV uN 1 (tI d)) 2 (tI n)) 3 (tL 7 true tDeal (dS n d))) 4 (tI ((j:Int) - 7))) 7 (.ptr 7 0)) 10 (tI ((q:Int) - 4))) (fun (q:Nat)=>uK uN 7 25 3 true [.val (tState (stepO (lS n d j) 0 (zS n d j) (zS n d j) 4 ((j:Int) - 7)) (stepB (lS n d j) 0 (zS n d j) (zS n d j) 4 ((j:Int) - 7)) (stepP (lS n d j) 0 (zS n d j) (zS n d j) 4 ((j:Int) - 7)))]) [7] (fun (q:Nat)=>9 - q) (0) (zbs _) (hg:=(Sub.int rfl (by decide) (sC (sI (sC (sI (sI zay))))))) ?_;intro q hI4;refine xd7 (xd7 ?_);refine xg4 ?_;refine R1 xa4 rfl (R2 yo4 rfl rfl (xg5 (by kernel_rfl) (xc6 ?_)));refine xa6 rfl (fun h166=> ?_) (fun h166=> ?_)
     ·
      refine xq3 (xc6 (xd7 (xe4 (xd7 ?_))));refine yq5 mixed ?_;refine R1 xa4 rfl (R1 xa4 rfl (R2 (zc2 (r:=(((j+1)%2:Nat):Int)) (qm6 hj)) rfl rfl (R2 (xc9 zah) rfl rfl (R2 (xs9 (xs:=dS n d) (ys:=lS n d j) sl22 (kS j) (by rw [kS];omega) qm4 rfl) rfl rfl (RE (x7 (0) ti25 rfl rfl) qA qA trivial (R1 xa4 rfl (R2 (xc9 zah) rfl rfl (R2 (ze3 (by omega) (by decide)) rfl rfl (R2 (xc9 zah) rfl rfl (R1 xa4 rfl (Rt (x3 (ye5 (lS n d j) (stepO (lS n d j) 0 (zS n d j) (zS n d j) 4 ((j:Int) - 7)) (stepB (lS n d j) 0 (zS n d j) (zS n d j) 4 ((j:Int) - 7)) (stepP (lS n d j) 0 (zS n d j) (zS n d j) 4 ((j:Int) - 7)) _ _ (zv4 hd1 hd6 hnd) qc9.1 qc9.2) fi19 rfl) qD (R1 xm4 rfl (zf0 (by kernel_rfl) (xc6 (xi9 rfl rfl ?_)))))))))))))));refine xq3 (ye9 (xc6 ?_));refine xg4 ?_;refine R1 xa4 rfl (R2 (xc9 zah) rfl rfl (R1 xb8 rfl (xg5 (by kernel_rfl) ?_)));exact kF (q+1) ⟨(by omega),(by omega)⟩ (hg:=(Sub.int rfl (by omega) (sC (sI (sC (sI (sI zay)))))))
     ·
      refine ye7 (xr6 (xr6 (yo9 (ye9 (xc6 ?_)))));refine xg4 ?_;refine R1 xa4 rfl (R2 (xc9 zah) rfl rfl (R1 xb8 rfl (xg5 (by kernel_rfl) ?_)));exact kF (j+1) ⟨(by omega),(by omega)⟩ (hg:=(Sub.int rfl (by omega) (sC (sI (sI zay)))))
   ·
    refine ye7 (xr6 (xr6 (yo9 (ye9 (xc6 ?_)))));refine xg4 ?_;refine R1 xa4 rfl (R2 (xc9 zah) rfl rfl (R1 xb8 rfl (xg5 (by kernel_rfl) ?_)));exact kF (n+1) ⟨(by omega),(by omega)⟩
  ·
   refine ye7 (xr6 (xr6 (yo9 (ye9 (xc6 ?_)))));refine xg4 ?_;refine R1 xa4 rfl (R2 (xc9 zah) rfl rfl (R1 xb8 rfl (xg5 (by kernel_rfl) ?_)));exact kF (d+1) ⟨⟨by omega,by omega⟩,(by omega)⟩
 ·
  refine ye7 (xr6 (xr6 (yo9 (xc6 (xd7 ?_)))));refine xg4 ?_;refine R1 xb8 rfl (xg5 (by kernel_rfl) (xc6 (xd7 ?_)));refine xg4 ?_;refine R1 xa4 rfl (R1 (yb4 (r:= -1099511627776) (by decide)) rfl (R2 (xf9 (r:= -1099511627777) (by decide)) rfl rfl (R1 xa4 rfl (R1 (yb4 (r:= -1099511627776) (by decide)) rfl (R1 xa4 rfl (R1 (yb4 (r:= -1099511627776) (by decide)) rfl (R2 (xc9 (r:= -1099511627775) (by decide)) rfl rfl (R1 xa4 rfl (R2 (xf9 (r:=1099511627775) (by decide)) rfl rfl (R1 xa4 rfl (R1 xa4 rfl (R2 (xc9 (r:=1099511627777) (by decide)) rfl rfl (Rt (xb6 (n:=9) (f:=(fun n:Int=>tI n)) endsS zgt el3 zf3 rfl (fun _=>inferInstance) rfl rfl rfl) ⟨rfl,rfl,rfl,rfl,rfl,rfl,rfl,rfl,rfl,trivial⟩ (R1 xb8 rfl (xg5 (by kernel_rfl) ?_)))))))))))))));refine xc6 (xd7 ?_);refine xg4 ?_;refine R1 (x3 (xs0 1 (by decide) (by decide)) fi23 rfl) rfl (R3 (xb7 (r:=tS [⟨1,false,(tE (.int .i64 0))⟩,⟨1,false,tI 1048576⟩,⟨4,true,tFr (fr ((1:Int):Rat))⟩,⟨1,false,tI 1⟩]) (ts:=[(1,tI 1048576),(2,tFr (fr ((1:Int):Rat))),(3,tI 1)]) bu44 zr44.2 (Bc 1 rfl rfl rfl (Bc 2 rfl rfl rfl (Bc 3 rfl rfl rfl zao)))) rfl rfl rfl (R1 (xb6 (n:=1) (f:=tDeal) [dT] zhd el44 zf44 rfl (fun _=>inferInstance) rfl rfl rfl) rfl (R1 xb8 rfl (xg5 (by kernel_rfl) (xc6 (xd7 (xd7 ?_)))))));refine xg4 ?_;refine R1 xb8 rfl (xg5 (by kernel_rfl) (xc6 (xe4 ?_)));refine cL (fun (i:Nat)=>i<=9) (fun (i:Nat)=>uV (uV (uV uN 12 (tL 1 false (fun n:Int=>tI n) endsS)) 13 (tL 7 true tDeal [dT])) 14 (tI i)) (fun (i:Nat)=>fun _=>none) [] (fun (i:Nat)=>9 - i) (0) (zbs _) ?_;intro i hI;have hel:=xo1;refine xd7 (xd7 ?_);refine xg4 ?_;refine R1 xa4 rfl (R1 xa4 rfl (R1 (yh7 zgt) rfl (R2 yo2 rfl rfl (xg5 (by kernel_rfl) (xc6 ?_)))));refine xa6 rfl (fun h177=> ?_) (fun h177=> ?_)
  ·
   refine xq3 (xc6 (xd7 (xe4 (xd7 (xd7 ?_)))));refine xg4 ?_;refine R1 xb8 rfl (xg5 (by kernel_rfl) (xc6 (xe4 ?_)));refine cL (fun (k:Nat)=>k<=9) (fun (k:Nat)=>uV (uV (uV (uV uN 12 (tL 1 false (fun n:Int=>tI n) endsS)) 13 (tL 7 true tDeal [dT])) 14 (tI i)) 15 (tI k)) (fun (k:Nat)=>fun _=>none) [] (fun (k:Nat)=>9 - k) (0) (zbs _) ?_;intro k hI2;refine xd7 (xd7 ?_);refine xg4 ?_;refine R1 xa4 rfl (R1 xa4 rfl (R1 (yh7 zgt) rfl (R2 yo2 rfl rfl (xg5 (by kernel_rfl) (xc6 ?_)))));refine xa6 rfl (fun h178=> ?_) (fun h178=> ?_)
   ·
    refine xq3 (xc6 (xd7 (xe4 (xd7 ?_))));refine yq5 mixed ?_;refine R1 xa4 rfl (R1 xa4 rfl (R1 xa4 rfl (R2 (x8 sl23 (k) (by omega) (gD (l:=endsS) (n:=k) (d:=0) (by rw [xo1];omega))) rfl rfl (R1 (xi6 ti3) rfl (R1 xa4 rfl (R1 xa4 rfl (R2 (x8 sl23 (i) (by omega) (gD (l:=endsS) (n:=i) (d:=0) (by rw [xo1];omega))) rfl rfl (R1 (xi6 ti3) rfl (R1 (xb6 (n:=1) (f:=(fun n:Int=>tI n)) [(endsS.getD i 0)] zgt el3 zf3 rfl (fun _=>inferInstance) rfl rfl rfl) rfl (R1 xa4 rfl (R1 xa4 rfl (R2 (x8 sl23 (i) (by omega) (gD (l:=endsS) (n:=i) (d:=0) (by rw [xo1];omega))) rfl rfl (R1 (xi6 ti3) rfl (R1 (xb6 (n:=1) (f:=(fun n:Int=>tI n)) [(endsS.getD i 0)] zgt el3 zf3 rfl (fun _=>inferInstance) rfl rfl rfl) rfl (R3 (xb7 (r:=tS [⟨1,false,tI (endsS.getD k 0)⟩,⟨1,false,tIs [(endsS.getD i 0)]⟩,⟨1,false,tIs [(endsS.getD i 0)]⟩]) (ts:=[(0,tI (endsS.getD k 0)),(1,tIs [(endsS.getD i 0)]),(2,tIs [(endsS.getD i 0)])]) bu25 zr25.2 (Bc 0 rfl rfl rfl (Bc 1 rfl rfl rfl (Bc 2 rfl rfl rfl zao)))) rfl rfl rfl ?_)))))))))))))));refine R1 xa4 rfl (R1 xa4 rfl (R2 (x8 sl23 (k) (by omega) (gD (l:=endsS) (n:=k) (d:=0) (by rw [xo1];omega))) rfl rfl (R1 (xi6 ti3) rfl (Rt (x3 (ye5 [dT] (endsS.getD k 0) [(endsS.getD i 0)] [(endsS.getD i 0)] _ _ qt7 (by simp) (by simp)) fi19 rfl) qD (R1 xm4 rfl (R1 xa4 rfl (Rg rfl rfl xa4 rfl qA (Rg rfl rfl xa4 rfl qA (Rg rfl rfl xa4 rfl qA (Rg rfl rfl (x8 sl23 (i) (by omega) (gD (l:=endsS) (n:=i) (d:=0) (by rw [xo1];omega))) rfl qB (Rg rfl rfl (xi6 ti3) rfl qA (Rg rfl rfl (xb6 (n:=1) (f:=(fun n:Int=>tI n)) [0] zgt el3 zf3 rfl (fun _=>inferInstance) rfl rfl rfl) rfl qA (Rg rfl rfl (xb6 (n:=1) (f:=(fun n:Int=>tI n)) [0] zgt el3 zf3 rfl (fun _=>inferInstance) rfl rfl rfl) rfl qA (Rg rfl rfl (xb7 (r:=tS [⟨1,false,tI (endsS.getD i 0)⟩,⟨1,false,tIs [0]⟩,⟨1,false,tIs [0]⟩]) (ts:=[(0,tI (endsS.getD i 0)),(1,tIs [0]),(2,tIs [0])]) bu25 zr25.2 (Bc 0 rfl rfl rfl (Bc 1 rfl rfl rfl (Bc 2 rfl rfl rfl zao)))) rfl qC (Rg rfl rfl xa4 rfl qA ?_)))))))))))))));refine Rg rfl rfl xa4 rfl qA (Rg rfl rfl (x8 sl23 (k) (by omega) (gD (l:=endsS) (n:=k) (d:=0) (by rw [xo1];omega))) rfl qB (Rg rfl rfl (xi6 ti3) rfl qA (Rg rfl rfl (x3 (ye5 [dT] (endsS.getD i 0) [0] [0] _ _ qt7 (by simp) (by simp)) fi19 rfl) rfl qD (Rg rfl rfl xm4 rfl qA (R2 (xc8 rfl) rfl rfl (zf0 (by kernel_rfl) (xc6 (xi9 rfl rfl (xq3 (ye9 (xc6 ?_)))))))))));refine xg4 ?_;refine R1 xa4 rfl (R2 (xc9 zah) rfl rfl (R1 xb8 rfl (xg5 (by kernel_rfl) ?_)));exact kF (k+1) ⟨(by omega),(by omega)⟩
   ·
    refine ye7 (xr6 (xr6 (yo9 (xc6 (xd7 ?_)))));refine yq5 mixed ?_;refine R1 xa4 rfl (R2 (xf9 zah) rfl rfl (R1 xa4 rfl (R2 (xf9 zah) rfl rfl (R1 xa4 rfl (R2 (x3 (xq5 (i:Int) 5 (by decide) (by omega) (by omega) (by decide) (by decide)) fi20 rfl) rfl rfl (R1 xa4 rfl (R1 xa4 rfl (R2 (x8 sl23 (i) (by omega) (gD (l:=endsS) (n:=i) (d:=0) (by rw [xo1];omega))) rfl rfl (R1 (xi6 ti3) rfl (Rt (xb7 (r:=tS [⟨1,false,tI ((i:Int) - 1)⟩,⟨1,false,tI (7 - (i:Int))⟩,⟨4,true,tFr (fr (Rat.divInt (i:Int) 5))⟩,⟨1,false,tI (endsS.getD i 0)⟩]) (ts:=[(0,tI ((i:Int) - 1)),(1,tI (7 - (i:Int))),(2,tFr (fr (Rat.divInt (i:Int) 5))),(3,tI (endsS.getD i 0))]) bu44 zr44.2 (Bc 0 rfl rfl rfl (Bc 1 rfl rfl rfl (Bc 2 rfl rfl rfl (Bc 3 rfl rfl rfl zao))))) qD (R1 (xb6 (n:=1) (f:=tDeal) [bT i] zhd el44 zf44 rfl (fun _=>inferInstance) rfl rfl rfl) rfl (R1 xb8 rfl (zf0 (by kernel_rfl) (xc6 (xd7 ?_)))))))))))))));refine xg4 ?_;refine R1 xa4 rfl (R1 (xb6 (n:=1) (f:=(fun n:Int=>tI n)) [0] zgt el3 zf3 rfl (fun _=>inferInstance) rfl rfl rfl) rfl (R1 (xb6 (n:=1) (f:=(fun n:Int=>tI n)) [0] zgt el3 zf3 rfl (fun _=>inferInstance) rfl rfl rfl) rfl (R2 (xb7 (r:=tS [⟨1,false,(tE (.int .i64 0))⟩,⟨1,false,tIs [0]⟩,⟨1,false,tIs [0]⟩]) (ts:=[(1,tIs [0]),(2,tIs [0])]) bu25 zr25.2 (Bc 1 rfl rfl rfl (Bc 2 rfl rfl rfl zao))) rfl rfl (R1 xa4 rfl (R2 (xc9 zah) rfl rfl (R2 (xf9 zah) rfl rfl (Rt (x3 (ye5 [bT i] 0 [0] [0] _ _ (qo8 (i:=i) (by omega)) (by decide) (by decide)) fi19 rfl) qD (R1 xm4 rfl (R1 xa4 rfl (Rg rfl rfl xa4 rfl qA (Rg rfl rfl (xb7 (r:=tS [⟨1,false,(tE (.int .i64 0))⟩,⟨1,false,(tIs [])⟩,⟨1,false,(tIs [])⟩]) (ts:=[]) bu25 zr25.2 zao) rfl trivial (Rg rfl rfl xa4 rfl qA (Rg rfl rfl (xf9 zah) rfl qB (Rg rfl rfl (x3 (ye5 [bT i] 0 [] [] _ _ (qo8 (i:=i) (by omega)) (by decide) (by decide)) fi19 rfl) rfl qD (Rg rfl rfl xm4 rfl qA ?_)))))))))))))));refine R2 (xc8 rfl) rfl rfl (xg5 (by kernel_rfl) (xc6 (xi9 rfl rfl (xq3 (ye9 (xc6 ?_))))));refine xg4 ?_;refine R1 xa4 rfl (R2 (xc9 zah) rfl rfl (R1 xb8 rfl (xg5 (by kernel_rfl) ?_)));exact kF (i+1) ⟨(by omega),(by omega)⟩
  ·
   refine ye7 (xr6 (xr6 (yo9 (xc6 (xd7 ?_)))));refine xg4 ?_;refine R0 (x3 qu8 fi12 rfl) (R1 xb8 rfl (xg5 (by kernel_rfl) (xc6 (C_ret ?_))));exact E1 rfl rfl zao
end An.S
