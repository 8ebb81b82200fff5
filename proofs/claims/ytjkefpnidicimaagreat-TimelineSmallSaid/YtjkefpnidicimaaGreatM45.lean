/- Part 5 of a proof: J2, LibFd, LibFe, LibAr, LibAs, J3, J4, Y0, R5, Y1, R5b, Y3, R5c, LibGv, J5, X4, X5. -/
import Derived.Test.YtjkefpnidicimaaGreatM44
set_option maxHeartbeats 4000000
set_option maxRecDepth 100000
namespace An.S
open Go Go.Proofs An Tryz
instance sl166:SlI Tryz.prog 166 37 1 false:=⟨zho,ti37⟩
def mLb (k i:Nat):Nat:=(1000003*(k+7)+i)%65536
abbrev tLb (n:Nat):Ty:=tE (.int .u16 (n:Int))
theorem cutLb {k i:Nat}:IntKind.u16.wrap (1000003*((k:Int)+7)+(i:Int))=((mLb k i:Nat):Int):=by rw [mu16,mLb];omega
theorem zf2 {P:Program} {c:Base} {d ty:Nat} {pos:String} {af:Array Edge} {gd:Option (Nat×Bool)} {T yT:TypeId} {x y:Operand} {k:IntKind} {n:Int}:Does P c ⟨some d,.binOp .eql T x y yT,ty,pos,af,gd⟩ ⟨[(x,.val (tE (.int k n))),(y,.val (tE (.int k n)))],[],some (d,some (.val (tB true))),[],[]⟩:=by
 have:=ys3 (P:=P) (c:=c) (d:=d) (t:=ty) (pos:=pos) (af:=af) (gd:=gd) (T:=T) (yT:=yT) (x:=x) (y:=y) (k:=k) (m:=n) (n:=n)
 rwa [zbg rfl] at this
theorem qe4 {n T es:Nat} {len:Nat->Nat} {R:Nat->HEnt} (hRL: ∀k,k < n->(R k).supp=[]):SupHs ((20,⟨T,1,false,owns n es len⟩)::poolL n R) (poolN n):=yw8 fun x hx=>by
 rcases zbr.1 hx with rfl | hx
 ·exact ⟨rfl,fun k hk=>by obtain ⟨j,hj,rfl⟩:=yp2 hk;simp only [poolN,zbr,zcp,zdp];exact .inr ⟨j,hj,rfl⟩⟩
 ·obtain ⟨j,hj,h1,h2⟩:=ye7 (k:=x.1) (x:=x.2) hx;refine ⟨xb6.2 ?_,fun k hk=> ?_⟩
  ·rw [h1];simp only [poolN,zbr,zcp,zdp];exact .inr ⟨j,hj,rfl⟩
  ·have:=hRL j hj;rw [h2] at hk;rw [HEnt.supp] at this;rw [this] at hk;cases hk
abbrev rSL (xs:List Nat):HEnt:=⟨64,1,false,rV tLb xs⟩
abbrev hPL (n:Nat) (L M:Nat->List Nat):Keys:=upd (poolK n fun j=>rSL (M j)) 20 (some ⟨37,1,false,owns n 1 fun j=>(L j).length⟩)
theorem yh2 {xs:List Nat}:(rSL xs).supp=[]:=List.eq_nil_iff_forall_not_mem.2 fun _ hk=>qm2 hk
theorem xn3 {n k:Nat} {L M:Nat->List Nat} (h:k < n):hPL n L M (k+100)=some (rSL (M k)):=by
 rw [hPL,xa4 _ _ _ (by omega)];exact yf6 h
theorem wc1 {n k:Nat} {L M M':Nat->List Nat} (h1: ∀j,j≠k->M' j=M j):SubK (hPL n L M') (upd (hPL n L M) (k+100) (some (rSL (M' k)))):=fun q x hx=>by
 by_cases hq:q=k+100
 ·subst hq;rw [hPL,xa4 _ _ _ (by omega)] at hx;obtain ⟨j,_,h2,rfl⟩:=ya9 hx;have:j=k:=by omega
  subst this;exact ⟨_,xa9 _ _ _,rfl,.refl⟩
 ·rw [xa4 _ _ _ hq];by_cases hq2:q=20
  ·subst hq2;rw [hPL,xa9] at hx ⊢;exact ⟨_,rfl,by cases hx;rfl,by cases hx;exact .refl⟩
  ·rw [hPL,xa4 _ _ _ hq2] at hx ⊢;obtain ⟨j,h1',rfl,rfl⟩:=ya9 hx;refine ⟨_,yf6 h1',rfl,?_⟩;rw [h1 j (by omega)];exact .refl
theorem hP_eqL {n:Nat} {L M M':Nat->List Nat} (h: ∀j,j < n->M' j=M j):SubK (hPL n L M') (hPL n L M):=fun q x hx=>by
 by_cases hq2:q=20
 ·subst hq2;rw [hPL,xa9] at hx ⊢;exact ⟨_,rfl,by cases hx;rfl,by cases hx;exact .refl⟩
 ·rw [hPL,xa4 _ _ _ hq2] at hx ⊢;obtain ⟨j,h1',rfl,rfl⟩:=ya9 hx;exact ⟨_,yf6 h1',rfl,by rw [h j h1'];exact .refl⟩
theorem xo2 {b:Bool} {n m:Nat} {L M:Nat->List Nat} (h:n+100<=m):SupH (hPL n L M) (alP b m):=supP h fun _ _=>yh2
abbrev tN0L:Nat->Ent:=fun _=> .val (tL 1 false tLb ([]:List Nat))
abbrev hBL (n:Nat) (L:Nat->List Nat) (κ:Nat->Nat) (k:Nat):Keys:=upd (hPL n L (cM L mLb 0 n 0)) 21 (some ⟨37,1,false,gsR n 1 κ (fun j=>(L j).length+64) tN0L k⟩)
abbrev hQL (n:Nat) (L:Nat->List Nat) (κ:Nat->Nat) (k:Nat):Keys:=pileK κ (fun j=>rSL (mkL mLb j ((L j).length+64))) k (hBL n L κ k)
section
variable {n k:Nat} {L:Nat->List Nat} {κ:Nat->Nat}
theorem yp7 (hκ: ∀j,j < k->okN j (κ j)):hQL n L κ k 20=some ⟨37,1,false,owns n 1 fun j=>(L j).length⟩:=by
 rw [hQL,xw8 fun j hj=>by rcases hκ j hj with h | h <;> omega];rfl
theorem zd3 (hκ: ∀j,j < k->okN j (κ j)):hQL n L κ k 21=some ⟨37,1,false,gsR n 1 κ (fun j=>(L j).length+64) tN0L k⟩:=by
 rw [hQL,xw8 fun j hj=>by rcases hκ j hj with h | h <;> omega];exact xa9 _ _ _
theorem qh3 (hn:n<=900) (hκ: ∀j,j < k->okN j (κ j)) (hk:k < n):hQL n L κ k (k+100)=some (rSL (mkL mLb k (L k).length)):=by
 rw [hQL,xw8 fun j hj=>okN.ne (.inl rfl) (hκ j hj) (by omega) (by omega) (by omega),hBL,xa4 _ _ _ (by omega),xn3 hk,zc3 hk]
theorem jz9 (hκ: ∀j,j < k->okN j (κ j)) (hn:n<=900) {q:Nat} (h:2000+64*k<=q):hQL n L κ k q=none:=by
 rw [hQL,xw8 fun j hj=>by rcases hκ j hj with h | h <;> omega,hBL,xa4 _ _ _ (by omega),hPL,xa4 _ _ _ (by omega)];exact ym6 fun j hj=>by omega
theorem yf5 {m:Nat} (hκ: ∀j,j < k->okN j (κ j)) (hn:n<=900) (hk:k<=n) (hm:2000+64*k<=m):SupH (hQL n L κ k) (alP true m):=fun q x hx=>by
 have hin: ∀j,j < k->alP true m (κ j)=true:=fun j hj=>yb1 ((hκ j hj).lt (m:=m) (by omega) (by omega)).1 ((hκ j hj).lt (by omega) (by omega)).2;rcases yi4 hx with ⟨j,hj,rfl,rfl⟩ | hx
 ·exact ⟨hin j hj,fun i hi=>by rw [yh2] at hi;cases hi⟩
 ·by_cases hq:q=21
  ·subst hq;rw [hBL,xa9] at hx;cases hx;refine ⟨rfl,fun i hi=> ?_⟩;rcases yn9 hi with ⟨j,_,hj,rfl⟩ | ⟨j,_,hj⟩
   ·exact hin j hj
   ·cases hj
  ·rw [hBL,xa4 _ _ _ hq] at hx;exact xo2 (by omega) q x hx
theorem qg8 {m v:Nat} {r:List Nat} (hκ: ∀j,j < k->okN j (κ j)) (hn:n<=900) (hk:k<=n) (hm:2000+64*k<=m) (hv:100<=v/\v < m):SupH (upd (hQL n L κ k) v (some (rSL r))) (alP true m):=fun q x hx=>by
 by_cases hq:q=v
 ·subst hq;rw [xa9] at hx;cases hx;exact ⟨yb1 hv.1 hv.2,fun i hi=>by rw [yh2] at hi;cases hi⟩
 ·rw [xa4 _ _ _ hq] at hx;exact yf5 hκ hn hk hm q x hx
theorem jq5 {v:Nat} (hκ: ∀j,j < k->okN j (κ j)) (hv:100<=v):SubK (hQL n L (setN κ k v) (k+1)) (upd (upd (hQL n L κ k) v (some (rSL (mkL mLb k ((L k).length+64))))) 21 (some ⟨37,1,false,gsR n 1 (setN κ k v) (fun j=>(L j).length+64) tN0L (k+1)⟩)):= .eq fun t x hx=>by
 rw [hQL,pileK,ye9,yg0 (κ:=κ) fun j hj=>yc4 (by omega)] at hx;by_cases ht:t=21
 ·subst ht;rw [xa4 _ _ _ (by omega),xw8 fun j hj=>by rcases hκ j hj with h | h <;> omega,hBL,xa9] at hx;rw [xa9];exact hx
 ·rw [xa4 _ _ _ ht];by_cases htv:t=v
  ·subst htv;rw [xa9] at hx ⊢;exact hx
  ·rw [xa4 _ _ _ htv] at hx ⊢;rw [yh9 (h:=hBL n L κ k) (by rw [hBL,hBL,xa4 _ _ _ ht,xa4 _ _ _ ht])] at hx;exact hx
theorem ja3 {j:Nat} (hn:n<=900) (hk:k<=n) (hκ: ∀j,j < k->okN j (κ j)) (hj:j < k):hQL n L κ k (κ j)=some (rSL (mkL mLb j ((L j).length+64))):=
 xq7 (fun i hi hij=>okN.ne (hκ j hj) (hκ i hi) (by omega) (by omega) (Ne.symm hij)) hj
theorem qu0 {j:Nat} (hn:n<=900) (hk:k<=n) (hκ: ∀j,j < k->okN j (κ j)) (hj:j < k): ∃m,(L j).length<=m/\hQL n L κ k (j+100)=some (rSL (mkL mLb j m)):=by
 rcases hκ j hj with h | h
 ·exact ⟨(L j).length+64,by omega,by rw [<-h];exact ja3 hn hk hκ hj⟩
 ·refine ⟨(L j).length,zbs _,?_⟩;rw [hQL,xw8 fun i hi=>by
   by_cases hij:i=j
   ·subst hij;omega
   ·exact okN.ne (.inl rfl) (hκ i hi) (by omega) (by omega) (Ne.symm hij),hBL,xa4 _ _ _ (by omega),xn3 (by omega),zc3 (by omega)]
theorem zj1 {i m j:Nat} (h:i < m):(rV tLb (mkL mLb j m))[i]? =some (.val (tLb (mLb j i))):=by
 rw [rV,zbu,xp4 h];rfl
theorem qi1 {j i i':Nat} (h:i'<=i):ImpK (rSL (mkL mLb j i)) (rSL (mkL mLb j i')):= .ts (by rw [xd2,xd2,yb9,yb9];exact h) fun t e he=>⟨e,by
 simp only [rV,zbu] at he ⊢;obtain ⟨x,hx,rfl⟩:=zdn.1 he;rw [qk5 h t x hx];rfl,.refl⟩
abbrev tKL (L:Nat->List Nat) (κ:Nat->Nat):Nat->Ent:=fun j=> .own (.sl (κ j) 1 0 ((L j).length+64))
abbrev rML (n:Nat) (L:Nat->List Nat) (j:Nat):HEnt:=rSL (mkL mLb j (L j).length++mkL mLb (j+n) 64)
abbrev hCL (n:Nat) (L:Nat->List Nat) (κ κ2:Nat->Nat) (k:Nat):Keys:=upd (hPL n L (fun j=>mkL mLb j (L j).length)) 21 (some ⟨37,1,false,gsR n 1 κ2 (fun j=>(L j).length+64) (tKL L κ) k⟩)
abbrev hRL (n:Nat) (L:Nat->List Nat) (κ κ2:Nat->Nat) (k:Nat):Keys:=pileK κ2 (rML n L) k (hCL n L κ κ2 k)
variable {κ2:Nat->Nat}
theorem za6 (hκ: ∀j,j < k->okM n j (κ2 j)):hRL n L κ κ2 k 20=some ⟨37,1,false,owns n 1 fun j=>(L j).length⟩:=by
 rw [hRL,xw8 fun j hj=>by rcases hκ j hj with h | h <;> omega];rfl
theorem ja9 (hκ: ∀j,j < k->okM n j (κ2 j)):hRL n L κ κ2 k 21=some ⟨37,1,false,gsR n 1 κ2 (fun j=>(L j).length+64) (tKL L κ) k⟩:=by
 rw [hRL,xw8 fun j hj=>by rcases hκ j hj with h | h <;> omega];exact xa9 _ _ _
theorem jv8 (hn:n<=900) (hκ: ∀j,j < k->okM n j (κ2 j)) (hk:k < n):hRL n L κ κ2 k (k+100)=some (rSL (mkL mLb k (L k).length)):=by
 rw [hRL,xw8 fun j hj=>okM.ne (.inl rfl) (hκ j hj) (by omega) (by omega) (by omega),hCL,xa4 _ _ _ (by omega),xn3 hk]
theorem yf4 {m:Nat} (hκ0: ∀j,j < n->okN j (κ j)) (hκ: ∀j,j < k->okM n j (κ2 j)) (hn:n<=900) (hk:k<=n) (hm:2000+64*n+k<=m):SupH (hRL n L κ κ2 k) (alP true m):=fun q x hx=>by
 have hin: ∀j,j < k->alP true m (κ2 j)=true:=fun j hj=>by rcases hκ j hj with h | h <;> exact yb1 (by omega) (by omega)
 rcases yi4 hx with ⟨j,hj,rfl,rfl⟩ | hx
 ·exact ⟨hin j hj,fun i hi=>by rw [yh2] at hi;cases hi⟩
 ·by_cases hq:q=21
  ·subst hq;rw [hCL,xa9] at hx;cases hx;refine ⟨rfl,fun i hi=> ?_⟩;rcases yn9 hi with ⟨j,_,hj,rfl⟩ | ⟨j,hjn,hj⟩
   ·exact hin j hj
   ·simp only [Ent.supp,VP.supp,zbj] at hj;subst hj;exact yb1 ((hκ0 j hjn).lt (m:=m) (by omega) (by omega)).1 ((hκ0 j hjn).lt (by omega) (by omega)).2
  ·rw [hCL,xa4 _ _ _ hq] at hx;exact xo2 (by omega) q x hx
theorem hR_0L {κ3:Nat->Nat} (hn:n<=900) (hκ: ∀j,j < n->okN j (κ j)):SubK (hRL n L κ κ3 0) (hQL n L κ n):=fun q x hx=>by
 by_cases hq:q=21
 ·subst hq;have hx:hCL n L κ κ3 0 21=some x:=hx;rw [hCL,xa9] at hx;cases hx;refine ⟨_,zd3 hκ,rfl,?_⟩;rw [show gsR n 1 κ (fun j=>(L j).length+64) tN0L n=gsR n 1 κ3 (fun j=>(L j).length+64) (tKL L κ) 0 from by
   apply zgh;intro j hj;rw [zdp] at hj;simp [hj]]
  exact .refl
 ·have hx:hCL n L κ κ3 0 q=some x:=hx;rw [hCL,xa4 _ _ _ hq] at hx;by_cases hq2:q=20
  ·subst hq2;rw [hPL,xa9] at hx;cases hx;exact ⟨_,yp7 hκ,rfl,.refl⟩
  ·rw [hPL,xa4 _ _ _ hq2] at hx;obtain ⟨j,hj,rfl,rfl⟩:=ya9 hx;obtain ⟨m,hm,e⟩:=qu0 (L:=L) hn (zbs n) hκ hj;exact ⟨_,e,rfl,qi1 hm⟩
def fSL (j i:Nat):List Nat:=(List.range 64).map fun t=>if t < i then mLb j t else 0
theorem yd8 {j i:Nat}:(fSL j i).length=64:=by simp [fSL]
theorem fS_0L {j:Nat}:List.replicate 64 (Ent.val (tLb 0))=rV tLb (fSL j 0):=by
 rw [xk0 64 0 rfl];congr 1
theorem w9 {j i:Nat} (hi:i < 64):(fSL j i).set i (mLb j i)=fSL j (i+1):=by
 apply zfk;intro t;rw [zgf];rcases zcx t 64 with h | h
 ·simp only [fSL,zbu,zfd h,zcq,List.length_range,zeb];by_cases hit:i=t
  ·subst hit;simp [h]
  ·rw [if_neg hit];by_cases h1:t < i
   ·simp [h1,show t < i+1 by omega]
   ·simp [h1,show ¬t < i+1 by omega]
 ·rw [if_neg (by omega),zct (by rw [yd8];exact h),zct (by rw [yd8];exact h)]
theorem fS_64L {j:Nat}:fSL j 64=mkL mLb j 64:=zgh fun _ ht=>if_pos (zdp.1 ht)
theorem zu5 {m:Nat} {h:Keys} {r:List Nat} (hs:SupH h (alP true m)):SupH (upd h 22 (some (rSL r))) (alM m):=fun q x hx=>by
 by_cases hq:q=22
 ·subst hq;rw [xa9] at hx;cases hx;exact ⟨rfl,fun i hi=>by rw [yh2] at hi;cases hi⟩
 ·rw [xa4 _ _ _ hq] at hx;exact ⟨yd6 (hs q x hx).1,fun i hi=>yd6 ((hs q x hx).2 i hi)⟩
theorem rM_eqL {j:Nat}:(⟨64,1,false,rV tLb (mkL mLb j (L j).length)++(fSL (j+n) 64).map (fun y=>Ent.val (tLb y))⟩:HEnt)=rML n L j:=by
 rw [rML,rSL,<-fS_64L];simp [rV]
theorem jn8 {v:Nat} {r:HEnt} (hκ: ∀j,j < k->okM n j (κ2 j)) (hv:100<=v):SubK (hRL n L κ (setN κ2 k v) (k+1)) (upd (upd (upd (upd (hRL n L κ κ2 k) 22 (some r)) 22 none) v (some ⟨64,1,false,rV tLb (mkL mLb k (L k).length)++(fSL (k+n) 64).map (fun y=>Ent.val (tLb y))⟩)) 21 (some ⟨37,1,false,gsR n 1 (setN κ2 k v) (fun j=>(L j).length+64) (tKL L κ) (k+1)⟩)):= .eq fun t x hx=>by
 rw [rM_eqL];rw [hRL,pileK,ye9,yg0 (κ:=κ2) fun j hj=>yc4 (by omega)] at hx;by_cases ht:t=21
 ·subst ht;rw [xa4 _ _ _ (by omega),xw8 fun j hj=>by rcases hκ j hj with h | h <;> omega,hCL,xa9] at hx;rw [xa9];exact hx
 ·rw [xa4 _ _ _ ht];by_cases htv:t=v
  ·subst htv;rw [xa9] at hx ⊢;exact hx
  ·rw [xa4 _ _ _ htv] at hx ⊢;rw [yh9 (h:=hCL n L κ κ2 k) (by rw [hCL,hCL,xa4 _ _ _ ht,xa4 _ _ _ ht])] at hx;by_cases h22:t=22
   ·subst h22;rw [xw8 fun j hj=>by rcases hκ j hj with h | h <;> omega,hCL,xa4 _ _ _ (by omega),hPL,xa4 _ _ _ (by omega),ym6 fun j _=>by omega] at hx;cases hx
   ·rw [xa4 _ _ _ h22,xa4 _ _ _ h22];exact hx
theorem jo0 {j:Nat} (_hκ: ∀j,j < k->okM n j (κ2 j)) (hj:j < n): ∃y,hRL n L κ κ2 k (j+100)=some y:=by
 have key: ∀i,∃y,pileK κ2 (rML n L) i (hCL n L κ κ2 k) (j+100)=some y:=fun i=>by
  induction i with
  | zero=>exact ⟨_,by show hCL n L κ κ2 k (j+100)=_;rw [hCL,xa4 _ _ _ (by omega)];exact xn3 hj⟩
  | succ i ih=>
   by_cases h:j+100=κ2 i
   ·exact ⟨_,by rw [pileK,h];exact xa9 _ _ _⟩
   ·obtain ⟨y,hy⟩:=ih;exact ⟨y,by rw [pileK,xa4 _ _ _ h];exact hy⟩
 exact key k
theorem js0 {N:Nat} {w:World} {F:Dom} {η:Env} {R:Nat->HEnt} {X:HEnt} {r:Option HEnt} {b:Nat} (hκ: ∀j,j < k->okM n j (κ2 j)) (_hk:k<=n) (hb:(Base.lent N w F η (poolN n) ((20,X)::poolL n R)).lb b):
  ∃j y,j∈poolN n/\j≠22/\upd (hRL n L κ κ2 k) 22 r j=some y/\0 < η.c j/\b=η.b j:=by
 obtain ⟨x,hx,hc,e⟩:=hb;rcases zbr.1 hx with rfl | hx
 ·exact ⟨20,_,by simp [poolN],by omega,(xa4 _ _ _ (by omega)).trans (za6 hκ),hc,e⟩
 ·obtain ⟨j,hj,h1,_⟩:=ye7 (k:=x.1) (x:=x.2) hx;obtain ⟨y,hy⟩:=jo0 (L:=L) (κ:=κ) hκ hj;refine ⟨j+100,y,by simp only [poolN,zbr,zcp,zdp];exact .inr ⟨j,hj,rfl⟩,by omega,(xa4 _ _ _ (by omega)).trans hy,by rw [<-h1];exact hc,by rw [<-h1];exact e⟩
theorem jg5 {j:Nat} (hn:n<=900) (hκ: ∀j,j < n->okM n j (κ2 j)) (hj:j < n):hRL n L κ κ2 n (κ2 j)=some (rML n L j):=
 xq7 (fun i hi hij=>okM.ne (hκ j hj) (hκ i hi) (by omega) (by omega) (Ne.symm hij)) hj
theorem qm5 {i j:Nat} (h:i < (L j).length):(rV tLb (mkL mLb j (L j).length++mkL mLb (j+n) 64))[i]? =some (.val (tLb (mLb j i))):=by
 rw [rV,zbu,zdo (by rw [yb9];exact h),xp4 h];rfl
theorem hR_lsL {j:Nat} (hn:n<=900) (hκ: ∀j,j < n->okM n j (κ2 j)) (hj:j < n): ∃xs,hRL n L κ κ2 n (j+100)=some (rSL xs)/\ ∀i,i < (L j).length->(rV tLb xs)[i]? =some (.val (tLb (mLb j i))):=by
 rcases hκ j hj with h | h
 ·exact ⟨_,(congrArg (hRL n L κ κ2 n) h.symm).trans (jg5 hn hκ hj),fun i hi=>qm5 hi⟩
 ·refine ⟨mkL mLb j (L j).length,?_,fun i hi=>zj1 hi⟩;rw [hRL,xw8 fun i hi=>by
   by_cases hij:i=j
   ·subst hij;omega
   ·exact okM.ne (.inl rfl) (hκ i hi) (by omega) (by omega) (Ne.symm hij),hCL,xa4 _ _ _ (by omega),xn3 hj]
theorem wb7 {i:Nat} {j:Nat}:(⟨64,1,false,rV tLb (mkL mLb j i)++[mLb j i].map (fun y=>Ent.val (tLb y))⟩:HEnt)=rSL (mkL mLb j (i+1)):=by
 rw [rSL,<-zs7];simp [rV]
end
theorem zv1 (n:Nat) (L:Nat->List Nat) (hn:n<=900) (hL: ∀j,(L j).length<=1000000):
  CtG Tryz.prog 230 ((20,⟨37,1,false,owns n 1 fun j=>(L j).length⟩)::poolL n fun j=>rSL (L j)) [.own (.sl 20 1 0 n)] (.val (tB true)) [] []:=by
 refine CtG.intro (poolN n) func230 rfl ntmps230 rfl rfl (qe4 fun _ _=>yh2) ?_;intro w F η;refine A12 ?_;refine ya2 (fun k:Nat=>k<=n) (fun k=>uV (uO uN 0 (.sl 20 1 0 n)) 3 (tI k)) (fun k=>hPL n L (cM L mLb 0 k 0)) (alP false (100+n)) (fun k=>n - k) 0 (zbq _) (Sub.int rfl rfl (zan rfl zay)) (by show SubK (hPL n L (cM L mLb 0 0 0)) _;rw [show cM L mLb 0 0 0=L from funext fun j=>cM_0];exact yv2) (zaj (zak rfl zar)) (xo2 (by omega)) (lkP (by omega)) ?_;intro k hk;refine A9 ?_;refine x6 rfl (fun h1=> ?_) (fun h1=> ?_)
 ·
  have hk':k < n:=by omega
  refine A9 ?_;refine xw7 ?_;refine ya2 (fun i:Nat=>i<=(L k).length) (fun i=>uV (uV (uO uN 0 (.sl 20 1 0 n)) 3 (tI k)) 4 (tI i)) (fun i=>hPL n L (cM L mLb 0 k i)) (alP false (100+n)) (fun i=>(L k).length - i) 0 (zbq _) (Sub.int rfl rfl (zan rfl (zan rfl zay))) SubK.refl (zaj (zaj (zak rfl zar))) (xo2 (by omega)) (lkP (by omega)) ?_;intro i hi;have hLk:=hL k;refine A6 ?_;refine R2 (zag sl166 rfl) rfl rfl (RE (xc1 (k) ti37 (xz6 hk') (by omega)) qA qA trivial ?_);refine A3 ?_;refine x6 rfl (fun h2=> ?_) (fun h2=> ?_)
  ·
   refine A7 ?_;refine R2 (zag sl166 rfl) rfl rfl (RE (xc1 (k) ti37 (xz6 hk') (by omega)) qA qA trivial ?_);refine A3 ?_;refine R2 (x3 (yd5 k i (by omega) (by omega)) fi146 rfl) rfl rfl (R1 (x5 zhc (isS zhg) cutLb) rfl (R2 (zag sl37 rfl) rfl rfl (RE (xb8 (e:= .val (tLb (mLb k i))) (i) ti64 (xe8 (f:=tLb) (xs:=cM L mLb 0 k i k) (by rw [ze2];omega)) (by omega) (xi3 (f:=tLb) (m:=mLb k i) rfl)) qB ⟨xn3 (L:=L) hk',trivial⟩ trivial ?_)));refine A8 ?_;exact xz8 (i+1) ⟨by omega,by omega⟩ (Sub.int rfl (by omega) (zan rfl (zan rfl zay))) (by rw [qv7 (by omega)];exact wc1 fun j hj=>j9 hj) (zaj (zaj (zak rfl zar))) (xo2 (by omega)) (lkP (by omega))
  ·
   refine A11 ?_;have hil:i=(L k).length:=by omega
   subst hil;exact xz8 (k+1) ⟨by omega,by omega⟩ (Sub.int rfl (by omega) (zan rfl zay)) (hP_eqL fun j _=>qn9) (zaj (zak rfl zar)) (xo2 (by omega)) (lkP (by omega))
 ·
  have hkn:k=n:=by omega
  subst hkn;refine A9 ?_;refine RE (xg0 (k:=21) (t:=tL 1 false tLb ([]:List Nat)) (ts:=gsR k 1 (fun _=>0) (fun j=>(L j).length+64) tN0L 0) k k zho el37 (fun _ _=>⟨none,0,rfl,zbs _,by decide,.inl rfl⟩) rfl (by omega) (by omega) (zbs _) (by omega) (by omega) qo8) qB trivial qA ?_;refine A10 ?_;refine yg2 (ι:=Nat×(Nat->Nat)) (fun x=>x.1<=k/\ ∀j,j < x.1->okN j (x.2 j)) (fun x=>uV (uO (uO uN 0 (.sl 20 1 0 k)) 5 (.sl 21 1 0 k)) 6 (tI x.1)) (fun x=>hQL k L x.2 x.1) (fun x=>alP true (2000+64*x.1)) (fun x=>k - x.1) (0,fun _=>0) ⟨zbq _,fun j h=>by cases h⟩ (Sub.int rfl rfl (zan rfl (zan rfl zay))) SubK.refl (zaj (zak rfl (zak rfl zar))) (yf5 (fun j h=>by cases h) hn (zbq _) (by omega)) (lkP (by omega)) ?_;rintro ⟨q,κ⟩ ⟨hq,hκ⟩;replace hq:q<=k:=hq;replace hκ: ∀j,j < q->okN j (κ j):=hκ;show wc _ _ _ _ (uV (uO (uO uN 0 (.sl 20 1 0 k)) 5 (.sl 21 1 0 k)) 6 (tI q)) (hQL k L κ q) (alP true (2000+64*q));refine A9 ?_;refine x6 rfl (fun h3=> ?_) (fun h3=> ?_)
  ·
   have hq':q < k:=by omega
   have hLk:=hL q;refine A8 ?_;refine R2 (zag sl166 rfl) rfl rfl (RE (xc1 (q) ti37 (xz6 hq') (by omega)) qA ⟨yp7 hκ,trivial⟩ trivial ?_);refine A10 ?_;refine yg2 (ι:=Nat×Nat) (fun x=>x.1<=64/\(x.2=q+100∨2000+64*q<=x.2/\x.2 < 2000+64*q+x.1)) (fun x=>uV (uO (uV (uO (uO uN 0 (.sl 20 1 0 k)) 5 (.sl 21 1 0 k)) 6 (tI q)) 7 (.sl x.2 1 0 ((L q).length+x.1))) 8 (tI x.1)) (fun x=>upd (hQL k L κ q) x.2 (some (rSL (mkL mLb q ((L q).length+x.1))))) (fun x=>alP true (2000+64*q+x.1)) (fun x=>64 - x.1) (0,q+100) ⟨zbq _,.inl rfl⟩ (Sub.int rfl rfl (zan rfl (zan rfl (zan rfl (zan rfl zay))))) (zaq (qh3 hn hκ hq') .refl SubK.refl) (zaj (zak (by show (alP true (2000+64*q+0) (q+100) && true)=true;rw [yb1 (by omega) (by omega)];rfl) (zaj (zak rfl (zak rfl zar))))) (qg8 hκ hn (by omega) (by omega) (by omega)) (lkP (by omega)) ?_;rintro ⟨i,v⟩ ⟨hi,hv⟩;replace hi:i<=64:=hi;replace hv:v=q+100∨2000+64*q<=v/\v < 2000+64*q+i:=hv;have h20:upd (hQL k L κ q) v (some (rSL (mkL mLb q ((L q).length+i)))) 20=some ⟨37,1,false,owns k 1 fun j=>(L j).length⟩:=by
    rw [xa4 _ _ _ (by omega)];exact yp7 hκ
   show wc _ _ _ _ (uV (uO (uV (uO (uO uN 0 (.sl 20 1 0 k)) 5 (.sl 21 1 0 k)) 6 (tI q)) 7 (.sl v 1 0 ((L q).length+i))) 8 (tI i)) (upd (hQL k L κ q) v (some (rSL (mkL mLb q ((L q).length+i))))) (alP true (2000+64*q+i));refine A6 ?_;refine x6 rfl (fun h4=> ?_) (fun h4=> ?_)
   ·
    have hi':i < 64:=by omega
    refine A3 ?_;refine xw7 ?_;refine ya4 ?_;refine yc7 [_,_,_,_,_,_,_,_,_,_,_,_] ?_;refine A4 ?_;refine R2 (zag sl166 rfl) rfl rfl (RE (xc1 (q) ti37 (xz6 hq') (by omega)) qA ⟨h20,trivial⟩ trivial ?_);refine A3 ?_;refine R2 (x3 (yd5 q ((L q).length+i) (by omega) (by omega)) fi146 rfl) rfl rfl (R1 (x5 zhc (isS zhg) cutLb) rfl (R1 (xb5 (n:=1) (f:=tLb) [mLb q ((L q).length+i)] zgy el64 zf64 rfl (fun _=>inferInstance) rfl rfl rfl) rfl (zq4 (by kernel_rfl) ?_)));refine ys6 (k':=2000+64*q+i) (f:=tLb) (ys:=[mLb q ((L q).length+i)]) zgy el64 zf64 rfl rfl (fun _=>inferInstance) rfl rfl (xa9 _ _ _) (zg4 (by omega)) (xd2.trans yb9) (by simp;omega) (by simp;omega) (by simp) rfl (fun b=> ?_);refine xf4 xe5 qA trivial trivial rfl (xp1 ?_);refine A7 ?_;have hv':cond b v (2000+64*q+i)=v∨cond b v (2000+64*q+i)=2000+64*q+i:=by cases b;exact .inr rfl;exact .inl rfl
    generalize cond b v (2000+64*q+i)=v' at hv' ⊢;exact fun _ _ hs=>xh2 (i+1,v') ⟨⟨by show i+1<=64;omega,by show v'=q+100∨2000+64*q<=v'/\v' < 2000+64*q+(i+1);omega⟩,by show 64 - (i+1) < 64 - i;omega⟩ (Sub.int rfl rfl (zan rfl (zan rfl (zan rfl (zan rfl zay))))) (by
     show SubK (upd (hQL k L κ q) v' (some (rSL (mkL mLb q ((L q).length+i+1))))) _;rw [<-wb7];exact SubK.over fun y hy=>by
      rcases hv with rfl | hv
      ·rw [qh3 hn hκ hq'] at hy;cases hy;exact ⟨rfl,qi1 (by omega)⟩
      ·rw [jz9 hκ hn hv.1] at hy;cases hy) (zaj (zak (by show (alP true (2000+64*q+(i+1)) v' && true)=true;rw [yb1 (by omega) (by omega)];rfl) (zaj (zak rfl (zak rfl zar))))) (qg8 hκ hn (by omega) (by show 2000+64*q<=2000+64*q+(i+1);omega) (by show 100<=v'/\v' < 2000+64*q+(i+1);omega)) (lkP (by omega)) hs
   ·
    have hi64:i=64:=by omega
    subst hi64;have h21:upd (hQL k L κ q) v (some (rSL (mkL mLb q ((L q).length+64)))) 21=some ⟨37,1,false,gsR k 1 κ (fun j=>(L j).length+64) tN0L q⟩:=by
     rw [xa4 _ _ _ (by omega)];exact zd3 hκ
    refine A9 ?_;refine R2 (zag sl166 rfl) rfl rfl (RE (xb8 (e:= .own (.sl v 1 0 ((L q).length+64))) (q) ti37 (by rw [xm5];simpa using hq') (by omega) (yt8 (len:=fun j=>(L j).length+64) (v:=v) hq')) qB ⟨h21,trivial⟩ trivial ?_);refine A8 ?_;exact fun _ _ hs=>xh2 (q+1,setN κ q v) ⟨⟨by show q+1<=k;omega,ys2 hκ hv⟩,by show k - (q+1) < k - q;omega⟩ (Sub.int rfl rfl (zan rfl (zan rfl zay))) (by exact jq5 hκ (by omega)) (zaj (zak rfl (zak rfl zar))) (by exact yf5 (ys2 hκ hv) hn (by omega) (by omega)) (lkP (by omega)) hs
  ·
   have hqk:q=k:=by omega
   subst hqk;refine A12 ?_;refine ya2 (fun j:Nat=>j<=q) (fun j=>uV (uO (uO uN 0 (.sl 20 1 0 q)) 5 (.sl 21 1 0 q)) 9 (tI j)) (fun _=>hQL q L κ q) (alP true (2000+64*q)) (fun j=>q - j) 0 (zbq _) (Sub.int rfl rfl (zan rfl (zan rfl zay))) SubK.refl (zaj (zak rfl (zak rfl zar))) (yf5 hκ hn (by omega) (by omega)) (lkP (by omega)) ?_;intro j hj;refine A9 ?_;refine x6 rfl (fun h5=> ?_) (fun h5=> ?_)
   ·
    have hj':j < q:=by omega
    have hLj:=hL j;refine A9 ?_;refine xw7 ?_;refine ya2 (fun i:Nat=>i<=(L j).length+64) (fun i=>uV (uV (uO (uO uN 0 (.sl 20 1 0 q)) 5 (.sl 21 1 0 q)) 9 (tI j)) 10 (tI i)) (fun _=>hQL q L κ q) (alP true (2000+64*q)) (fun i=>(L j).length+64 - i) 0 (zbq _) (Sub.int rfl rfl (zan rfl (zan rfl (zan rfl zay)))) SubK.refl (zaj (zaj (zak rfl (zak rfl zar)))) (yf5 hκ hn (by omega) (by omega)) (lkP (by omega)) ?_;intro i hi;obtain ⟨m,hm,hls⟩:=qu0 (L:=L) hn (zbs q) hκ hj';refine A6 ?_;refine R2 (zag sl166 rfl) rfl rfl (RE (xc1 (j) ti37 (xn0 hj' hj') (by omega)) qA ⟨zd3 hκ,trivial⟩ trivial ?_);refine A3 ?_;refine x6 rfl (fun h6=> ?_) (fun h6=> ?_)
    ·
     refine A8 ?_;refine R2 (zag sl166 rfl) rfl rfl (RE (xc1 (j) ti37 (xn0 hj' hj') (by omega)) qA ⟨zd3 hκ,trivial⟩ trivial ?_);refine A1 ?_;refine R2 (zag sl37 rfl) rfl rfl (RE (xc1 (i) ti64 (zj1 (by omega)) (by omega)) qA ⟨ja3 hn (zbs q) hκ hj',trivial⟩ trivial ?_);refine A2 ?_;refine R2 (x3 (yd5 j i (by omega) (by omega)) fi146 rfl) rfl rfl (R1 (x5 zhc (isS zhg) cutLb) rfl (R2 zf2 rfl rfl ?_));refine A5 ?_;refine Rg rfl rfl (zag sl166 rfl) rfl qB (RGon rfl rfl (xc1 (j) ti37 (xz6 hj') (by omega)) rfl qA ⟨yp7 hκ,trivial⟩ trivial (Rg rfl rfl qa4 rfl qA ?_));refine A2 ?_;refine RGcaseD (t:=111) rfl (fun h7=> ?_) (fun h7=> ?_)
     ·
      refine A2 ?_;refine Rg (zbg h7) rfl (zag sl166 rfl) rfl qB (RGon (zbg h7) rfl (xc1 (j) ti37 (xz6 hj') (by omega)) rfl qA ⟨yp7 hκ,trivial⟩ trivial ?_);refine A1 ?_;refine Rg (zbg h7) rfl (zag sl37 rfl) rfl qB (RGon (zbg h7) rfl (xc1 (i) ti64 (zj1 (by omega)) (by omega)) rfl qA ⟨hls,trivial⟩ trivial ?_);refine A2 ?_;refine Rg (zbg h7) rfl (x3 (yd5 j i (by omega) (by omega)) fi146 rfl) rfl qB (Rg (zbg h7) rfl (x5 zhc (isS zhg) cutLb) rfl qA (Rg (zbg h7) rfl zf2 rfl qB ?_));refine A1 ?_;refine Rg rfl rfl (xc9 (zbg h7)) rfl qB (R2 (xc7 rfl) rfl rfl ?_);refine A1 ?_;refine xw4 rfl rfl ?_;refine A8 ?_;exact xz8 (i+1) ⟨by omega,by omega⟩ (Sub.int rfl (by omega) (zan rfl (zan rfl (zan rfl zay)))) SubK.refl (zaj (zaj (zak rfl (zak rfl zar)))) (yf5 hκ hn (by omega) (by omega)) (lkP (by omega))
     ·
      refine RGoff (zbf h7) rfl rfl (RGoff (zbf h7) rfl rfl (RGoff (zbf h7) rfl rfl (RGoff (zbf h7) rfl rfl (RGoff (zbf h7) rfl rfl (RGoff (zbf h7) rfl rfl (RGoff (zbf h7) rfl rfl (RGoff (zbf h7) rfl rfl (RGoff (zbf h7) rfl rfl (RGoff (zbf h7) rfl rfl (RGoff (zbf h7) rfl rfl (RGoff (zbf h7) rfl rfl (RGoff (zbf h7) rfl rfl (Rg rfl rfl (xc7 (zbf h7)) rfl qB (R2 (xc7 rfl) rfl rfl ?_))))))))))))));refine A1 ?_;refine xw4 rfl rfl ?_;refine A8 ?_;exact xz8 (i+1) ⟨by omega,by omega⟩ (Sub.int rfl (by omega) (zan rfl (zan rfl (zan rfl zay)))) SubK.refl (zaj (zaj (zak rfl (zak rfl zar)))) (yf5 hκ hn (by omega) (by omega)) (lkP (by omega))
    ·
     refine A11 ?_;exact xz8 (j+1) ⟨by omega,by omega⟩ (Sub.int rfl (by omega) (zan rfl (zan rfl zay))) SubK.refl (zaj (zak rfl (zak rfl zar))) (yf5 hκ hn (by omega) (by omega)) (lkP (by omega))
   ·
    clear h5 hj;refine A12 ?_;refine yg2 (ι:=Nat×(Nat->Nat)) (fun x=>x.1<=q/\ ∀j,j < x.1->okM q j (x.2 j)) (fun x=>uV (uO (uO uN 0 (.sl 20 1 0 q)) 5 (.sl 21 1 0 q)) 11 (tI x.1)) (fun x=>hRL q L κ x.2 x.1) (fun x=>alP true (2000+64*q+x.1)) (fun x=>q - x.1) (0,fun _=>0) ⟨zbq _,fun j h=>by cases h⟩ (Sub.int rfl rfl (zan rfl (zan rfl zay))) (hR_0L hn hκ) (zaj (zak rfl (zak rfl zar))) (yf4 hκ (fun j h=>by cases h) hn (zbq _) (by omega)) (lkP (by omega)) ?_;rintro ⟨j,κ2⟩ ⟨hj,hκ2⟩;replace hj:j<=q:=hj;replace hκ2: ∀i,i < j->okM q i (κ2 i):=hκ2;show wc _ _ _ _ (uV (uO (uO uN 0 (.sl 20 1 0 q)) 5 (.sl 21 1 0 q)) 11 (tI j)) (hRL q L κ κ2 j) (alP true (2000+64*q+j));refine A9 ?_;refine x6 rfl (fun h5=> ?_) (fun h5=> ?_)
    ·
     have hj':j < q:=by omega
     have hLj:=hL j;refine A6 ?_;refine RE (xg0 (k:=22) (t:=tLb 0) (ts:=rV tLb (fSL (j+q) 0)) 64 64 zgy el64 (fun F w=>rfl) rfl rfl rfl (zbs _) (by decide) (by decide) fS_0L) qB trivial ⟨qu5,trivial⟩ ?_;refine A10 ?_;refine ya2 (fun i:Nat=>i<=64) (fun i=>uV (uO (uV (uO (uO uN 0 (.sl 20 1 0 q)) 5 (.sl 21 1 0 q)) 11 (tI j)) 12 (.sl 22 1 0 64)) 13 (tI i)) (fun i=>upd (hRL q L κ κ2 j) 22 (some (rSL (fSL (j+q) i)))) (alM (2000+64*q+j)) (fun i=>64 - i) 0 (zbq _) (Sub.int rfl rfl (zan rfl (zan rfl (zan rfl (zan rfl zay))))) SubK.refl (zaj (zak rfl (zaj (zak rfl (zak rfl zar))))) (zu5 (yf4 hκ hκ2 hn (by omega) (by omega))) (ze7 (lkP (by omega))) ?_;intro i hi;refine A6 ?_;refine x6 rfl (fun h6=> ?_) (fun h6=> ?_)
     ·
      refine A12 ?_;refine R2 (x3 (yd5 (j+q) i (by omega) (by omega)) fi146 rfl) rfl rfl (R1 (x5 zhc (isS zhg) cutLb) rfl (R2 (zag sl37 rfl) rfl rfl (RE (xb8 (e:= .val (tLb (mLb (j+q) i))) (i) ti64 (xe8 (f:=tLb) (xs:=fSL (j+q) i) (by rw [yd8];omega)) (by omega) (xi3 (f:=tLb) (m:=mLb (j+q) i) rfl)) qB ⟨xa9 _ _ _,trivial⟩ trivial ?_)));refine A8 ?_;exact xz8 (i+1) ⟨by omega,by omega⟩ (Sub.int rfl (by omega) (zan rfl (zan rfl (zan rfl (zan rfl zay))))) (by rw [<-w9 (by omega)];exact SubK.twice) (zaj (zak rfl (zaj (zak rfl (zak rfl zar))))) (zu5 (yf4 hκ hκ2 hn (by omega) (by omega))) (ze7 (lkP (by omega)))
     ·
      have hi64:i=64:=by omega
      subst hi64;refine A5 ?_;have hown: ∀r,upd (upd (hRL q L κ κ2 j) 22 r) 22 none (j+100)=some (rSL (mkL mLb j (L j).length)):=fun r=>by
       rw [xa4 _ _ _ (by omega),xa4 _ _ _ (by omega)];exact jv8 hn hκ2 hj'
      have hgs: ∀r v r',100<=v->upd (upd (upd (hRL q L κ κ2 j) 22 r) 22 none) v r' 21=some ⟨37,1,false,gsR q 1 κ2 (fun j=>(L j).length+64) (tKL L κ) j⟩:=fun r v r' hv=>by
       rw [xa4 _ _ _ (by omega),xa4 _ _ _ (by omega),xa4 _ _ _ (by omega)];exact ja9 hκ2
      refine qn4 (t:=12) (k:=22) (f:=tLb) (xs:=fSL (j+q) 64) rfl (xa9 _ _ _) (fun b hb=>js0 hκ2 hj hb) (xg2 yd8) yd8 ?_;refine ya4 ?_;refine yc7 [_,_,_,_,_,_,_] ?_;refine A4 ?_;refine R2 (zag sl166 rfl) rfl rfl (RE (xc1 (j) ti37 (xz6 hj') (by omega)) qA ⟨(xa4 _ _ _ (by omega)).trans ((xa4 _ _ _ (by omega)).trans (za6 hκ2)),trivial⟩ trivial ?_);refine A1 ?_;refine zq4 (by kernel_rfl) ?_;refine ys6 (k':=2000+64*q+j) (f:=tLb) (ys:=fSL (j+q) 64) zgy el64 zf64 rfl rfl (fun _=>inferInstance) rfl rfl (hown _) (qp6 (by omega)) (xd2.trans yb9) (by rw [yd8];omega) (by rw [yd8];omega) (by rw [yd8];omega) rfl (fun b=> ?_);have hv':okM q j (cond b (j+100) (2000+64*q+j)):=by cases b;exact .inr rfl;exact .inl rfl
      generalize cond b (j+100) (2000+64*q+j)=v' at hv' ⊢;rw [yd8];have hvb:100<=v'/\v'<=2000+64*q+j:=by rcases hv' with h | h <;> omega
      refine xf4 (zag sl166 rfl) qB trivial trivial rfl (xf4 (xb8 (e:= .own (.sl v' 1 0 ((L j).length+64))) (j) ti37 (by rw [xm5];simpa using hj') (by omega) (yt8 (len:=fun j=>(L j).length+64) (v:=v') hj')) qB ⟨hgs _ _ _ hvb.1,trivial⟩ trivial rfl (xp1 ?_));refine A7 ?_;exact fun _ _ hs=>xh2 (j+1,setN κ2 j v') ⟨⟨by show j+1<=q;omega,yt3 hκ2 hv'⟩,by show q - (j+1) < q - j;omega⟩ (Sub.int rfl rfl (zan rfl (zan rfl zay))) (by exact jn8 hκ2 hvb.1) (zaj (zak rfl (zak rfl zar))) (by exact yf4 hκ (yt3 hκ2 hv') hn (by omega) (by omega)) (lkP (by omega)) hs
    ·
     have hjq:j=q:=by omega
     subst hjq;clear h5 hj;refine A12 ?_;refine ya2 (fun t:Nat=>t<=j) (fun t=>uV (uO (uO uN 0 (.sl 20 1 0 j)) 5 (.sl 21 1 0 j)) 14 (tI t)) (fun _=>hRL j L κ κ2 j) (alP true (2000+64*j+j)) (fun t=>j - t) 0 (zbq _) (Sub.int rfl rfl (zan rfl (zan rfl zay))) SubK.refl (zaj (zak rfl (zak rfl zar))) (yf4 hκ hκ2 hn (by omega) (by omega)) (lkP (by omega)) ?_;intro t ht;refine A9 ?_;refine x6 rfl (fun h5=> ?_) (fun h5=> ?_)
     ·
      have ht':t < j:=by omega
      have hLt:=hL t;obtain ⟨xs,hls,hxs⟩:=hR_lsL (L:=L) (κ:=κ) hn hκ2 ht';refine A9 ?_;refine xw7 ?_;refine ya2 (fun i:Nat=>i<=(L t).length) (fun i=>uV (uV (uO (uO uN 0 (.sl 20 1 0 j)) 5 (.sl 21 1 0 j)) 14 (tI t)) 15 (tI i)) (fun _=>hRL j L κ κ2 j) (alP true (2000+64*j+j)) (fun i=>(L t).length - i) 0 (zbq _) (Sub.int rfl rfl (zan rfl (zan rfl (zan rfl zay)))) SubK.refl (zaj (zaj (zak rfl (zak rfl zar)))) (yf4 hκ hκ2 hn (by omega) (by omega)) (lkP (by omega)) ?_;intro i hi;refine A6 ?_;refine R2 (zag sl166 rfl) rfl rfl (RE (xc1 (t) ti37 (xz6 ht') (by omega)) qA ⟨za6 hκ2,trivial⟩ trivial ?_);refine A3 ?_;refine x6 rfl (fun h6=> ?_) (fun h6=> ?_)
      ·
       have hi':i < (L t).length:=by omega
       refine A8 ?_;refine R2 (zag sl166 rfl) rfl rfl (RE (xc1 (t) ti37 (xz6 ht') (by omega)) qA ⟨za6 hκ2,trivial⟩ trivial ?_);refine A1 ?_;refine R2 (zag sl37 rfl) rfl rfl (RE (xc1 (i) ti64 (hxs i hi') (by omega)) qA ⟨hls,trivial⟩ trivial ?_);refine A2 ?_;refine R2 (x3 (yd5 t i (by omega) (by omega)) fi146 rfl) rfl rfl (R1 (x5 zhc (isS zhg) cutLb) rfl (R2 zf2 rfl rfl ?_));refine A4 ?_;refine Rg rfl rfl (zag sl166 rfl) rfl qB (RGon rfl rfl (xc1 (t) ti37 (xn0 ht' ht') (by omega)) rfl qA ⟨ja9 hκ2,trivial⟩ trivial ?_);refine A1 ?_;refine Rg rfl rfl (zag sl37 rfl) rfl qB (RGon rfl rfl (xc1 (i) ti64 (qm5 hi') (by omega)) rfl qA ⟨jg5 hn hκ2 ht',trivial⟩ trivial ?_);refine A2 ?_;refine Rg rfl rfl (x3 (yd5 t i (by omega) (by omega)) fi146 rfl) rfl qB (Rg rfl rfl (x5 zhc (isS zhg) cutLb) rfl qA (Rg rfl rfl zf2 rfl qB ?_));refine A1 ?_;refine R2 (xc7 rfl) rfl rfl ?_;refine A1 ?_;refine xw4 rfl rfl ?_;refine A8 ?_;exact xz8 (i+1) ⟨by omega,by omega⟩ (Sub.int rfl (by omega) (zan rfl (zan rfl (zan rfl zay)))) SubK.refl (zaj (zaj (zak rfl (zak rfl zar)))) (yf4 hκ hκ2 hn (by omega) (by omega)) (lkP (by omega))
      ·
       refine A11 ?_;exact xz8 (t+1) ⟨by omega,by omega⟩ (Sub.int rfl (by omega) (zan rfl (zan rfl zay))) SubK.refl (zaj (zak rfl (zak rfl zar))) (yf4 hκ hκ2 hn (by omega) (by omega)) (lkP (by omega))
     ·
      refine A11 ?_;exact xc5 LentC.mk' rfl rfl Imp.refl trivial rfl trivial rfl
structure Ze where
  lo:Int
  hi:Int
  k:Nat
  ns:Bool
  n:Hd
  ds:Bool
  d:Hd
  i:Int
abbrev tZe (z:Ze):Ty:=tS [⟨1,false,tI z.lo⟩,⟨1,false,tI z.hi⟩,⟨6,true,tS [⟨1,false,tE (.int .u8 (z.k:Int))⟩,⟨4,true,tS [⟨2,true,tS [⟨1,false,tB z.ns⟩,⟨1,false,tH z.n⟩]⟩,⟨2,true,tS [⟨1,false,tB z.ds⟩,⟨1,false,tH z.d⟩]⟩]⟩,⟨1,false,tI z.i⟩]⟩]
abbrev hd00:Hd:=⟨none,0,0⟩
def mZe (k i:Nat):Ze:=⟨1000003*((k:Int)+7)+(i:Int),0,0,false,hd00,false,hd00,0⟩
def ze0:Ze:=⟨0,0,0,false,hd00,false,hd00,0⟩
theorem qz0 {k i:Nat}:Le (tZe (mZe k i)) (tTs ⟨1000003*((k:Int)+7)+(i:Int),0,⟨0,fr0,0⟩⟩):=Le.tS ⟨⟨rfl,rfl,zao⟩,⟨rfl,rfl,zao⟩,⟨rfl,rfl,Le.tS ⟨⟨rfl,rfl,zao⟩,⟨rfl,rfl,Le.tS ⟨⟨rfl,rfl,Le.tS ⟨⟨rfl,rfl,zao⟩,⟨rfl,rfl,leNil rfl⟩,trivial⟩⟩,⟨rfl,rfl,Le.tS ⟨⟨rfl,rfl,zao⟩,⟨rfl,rfl,leNil rfl⟩,trivial⟩⟩,trivial⟩⟩,⟨rfl,rfl,zao⟩,trivial⟩⟩,trivial⟩
theorem ji4 {F:Dom} {w:World}:(tZe ze0).p F w (.agg #[.int .i64 0,.int .i64 0,.int .u8 0,.bool false,.slice none 0 0,.bool false,.slice none 0 0,.int .i64 0]):=
 ⟨_,rfl,rfl,⟨fun _=>rfl,rfl⟩,⟨fun _=>rfl,rfl⟩,⟨(fun h=>by cases h),⟨_,rfl,rfl,⟨fun _=>rfl,rfl⟩,⟨(fun h=>by cases h),⟨_,rfl,rfl,⟨(fun h=>by cases h),⟨_,rfl,rfl,⟨fun _=>rfl,rfl⟩,⟨fun _=>rfl,rfl⟩,trivial⟩⟩,⟨(fun h=>by cases h),⟨_,rfl,rfl,⟨fun _=>rfl,rfl⟩,⟨fun _=>rfl,rfl⟩,trivial⟩⟩,trivial⟩⟩,⟨fun _=>rfl,rfl⟩,trivial⟩⟩,trivial⟩
abbrev fdZ (lo:Int):List Fd:=[⟨1,false,tI lo⟩,⟨1,false,tI 0⟩,⟨6,true,tS [⟨1,false,tE (.int .u8 0)⟩,⟨4,true,tS [⟨2,true,tS [⟨1,false,tB false⟩,⟨1,false,tH hd00⟩]⟩,⟨2,true,tS [⟨1,false,tB false⟩,⟨1,false,tH hd00⟩]⟩]⟩,⟨1,false,tI 0⟩]⟩]
theorem fdZ_mk {F:Dom} {w:World}:(tS (fdZ 0)).p F w (.agg #[.int .i64 0,.int .i64 0,.int .u8 0,.bool false,.slice none 0 0,.bool false,.slice none 0 0,.int .i64 0]):=ji4
theorem yh5 (k i:Nat):Ct Tryz.prog 169 [tZe (mZe k i),tZe (mZe k i)] (tB true):=by
 have h:=yi5 ⟨1000003*((k:Int)+7)+(i:Int),0,⟨0,fr0,0⟩⟩ ⟨1000003*((k:Int)+7)+(i:Int),0,⟨0,fr0,0⟩⟩;rw [zbg rfl] at h;have hl:LeL [tZe (mZe k i),tZe (mZe k i)] [tTs ⟨1000003*((k:Int)+7)+(i:Int),0,⟨0,fr0,0⟩⟩,tTs ⟨1000003*((k:Int)+7)+(i:Int),0,⟨0,fr0,0⟩⟩]:=⟨qz0,qz0,trivial⟩
 exact fun F w vs hv=>h F w vs (hl.all hv)
theorem yb6 (k i:Nat) (hk:k < 2000) (hi:i < 10000000):
  Ct Tryz.prog 158 [tI k,tI i] (tZe (mZe k i)):=by
 refine Ct.intro func158 rfl ntmps158 rfl ?_;intro w F;refine A2 ?_;refine RE (x7 (k:=4) (n:=8) (agg:=true) zr59.1 zr59.2 rfl) trivial trivial qA ?_;refine A6 ?_;refine R2 (x3 (yd5 k i hk hi) fi146 rfl) rfl rfl (R1 (zi2 (r:=tS (fdZ (1000003*((k:Int)+7)+(i:Int)))) (ts:=[(0,tI (1000003*((k:Int)+7)+(i:Int)))]) bu59 (fun _ _=>fdZ_mk) ⟨_,rfl⟩ rfl ⟨_,_,_,_,rfl,Up.f (fs:=fdZ 0) (f:=⟨1,false,tI 0⟩) (fs':=fdZ (1000003*((k:Int)+7)+(i:Int))) 0 rfl rfl rfl,inferInstance,zao⟩) rfl ?_);refine A4 ?_;exact EC rfl ⟨_,_,_,_,_,rfl,rfl,ti59,(Le.of rfl)⟩
theorem qe9 {n T es:Nat} {len:Nat->Nat} {R:Nat->HEnt} (hRT: ∀k,k < n->(R k).supp=[]):SupHs ((20,⟨T,1,false,owns n es len⟩)::poolL n R) (poolN n):=yw8 fun x hx=>by
 rcases zbr.1 hx with rfl | hx
 ·exact ⟨rfl,fun k hk=>by obtain ⟨j,hj,rfl⟩:=yp2 hk;simp only [poolN,zbr,zcp,zdp];exact .inr ⟨j,hj,rfl⟩⟩
 ·obtain ⟨j,hj,h1,h2⟩:=ye7 (k:=x.1) (x:=x.2) hx;refine ⟨xb6.2 ?_,fun k hk=> ?_⟩
  ·rw [h1];simp only [poolN,zbr,zcp,zdp];exact .inr ⟨j,hj,rfl⟩
  ·have:=hRT j hj;rw [h2] at hk;rw [HEnt.supp] at this;rw [this] at hk;cases hk
abbrev rST (xs:List Ze):HEnt:=⟨59,8,true,rV tZe xs⟩
abbrev hPT (n:Nat) (L M:Nat->List Ze):Keys:=upd (poolK n fun j=>rST (M j)) 20 (some ⟨51,1,false,owns n 8 fun j=>(L j).length⟩)
theorem yg6 {xs:List Ze}:(rST xs).supp=[]:=List.eq_nil_iff_forall_not_mem.2 fun _ hk=>qm2 hk
theorem xo3 {n k:Nat} {L M:Nat->List Ze} (h:k < n):hPT n L M (k+100)=some (rST (M k)):=by
 rw [hPT,xa4 _ _ _ (by omega)];exact yf6 h
theorem wb5 {n k:Nat} {L M M':Nat->List Ze} (h1: ∀j,j≠k->M' j=M j):SubK (hPT n L M') (upd (hPT n L M) (k+100) (some (rST (M' k)))):=fun q x hx=>by
 by_cases hq:q=k+100
 ·subst hq;rw [hPT,xa4 _ _ _ (by omega)] at hx;obtain ⟨j,_,h2,rfl⟩:=ya9 hx;have:j=k:=by omega
  subst this;exact ⟨_,xa9 _ _ _,rfl,.refl⟩
 ·rw [xa4 _ _ _ hq];by_cases hq2:q=20
  ·subst hq2;rw [hPT,xa9] at hx ⊢;exact ⟨_,rfl,by cases hx;rfl,by cases hx;exact .refl⟩
  ·rw [hPT,xa4 _ _ _ hq2] at hx ⊢;obtain ⟨j,h1',rfl,rfl⟩:=ya9 hx;refine ⟨_,yf6 h1',rfl,?_⟩;rw [h1 j (by omega)];exact .refl
theorem hP_eqT {n:Nat} {L M M':Nat->List Ze} (h: ∀j,j < n->M' j=M j):SubK (hPT n L M') (hPT n L M):=fun q x hx=>by
 by_cases hq2:q=20
 ·subst hq2;rw [hPT,xa9] at hx ⊢;exact ⟨_,rfl,by cases hx;rfl,by cases hx;exact .refl⟩
 ·rw [hPT,xa4 _ _ _ hq2] at hx ⊢;obtain ⟨j,h1',rfl,rfl⟩:=ya9 hx;exact ⟨_,yf6 h1',rfl,by rw [h j h1'];exact .refl⟩
theorem xo0 {b:Bool} {n m:Nat} {L M:Nat->List Ze} (h:n+100<=m):SupH (hPT n L M) (alP b m):=supP h fun _ _=>yg6
abbrev tN0T:Nat->Ent:=fun _=> .val (tL 8 true tZe ([]:List Ze))
abbrev hBT (n:Nat) (L:Nat->List Ze) (κ:Nat->Nat) (k:Nat):Keys:=upd (hPT n L (cM L mZe ze0 n 0)) 21 (some ⟨51,1,false,gsR n 8 κ (fun j=>(L j).length+64) tN0T k⟩)
abbrev hQT (n:Nat) (L:Nat->List Ze) (κ:Nat->Nat) (k:Nat):Keys:=pileK κ (fun j=>rST (mkL mZe j ((L j).length+64))) k (hBT n L κ k)
section
variable {n k:Nat} {L:Nat->List Ze} {κ:Nat->Nat}
theorem yr2 (hκ: ∀j,j < k->okN j (κ j)):hQT n L κ k 20=some ⟨51,1,false,owns n 8 fun j=>(L j).length⟩:=by
 rw [hQT,xw8 fun j hj=>by rcases hκ j hj with h | h <;> omega];rfl
theorem zc8 (hκ: ∀j,j < k->okN j (κ j)):hQT n L κ k 21=some ⟨51,1,false,gsR n 8 κ (fun j=>(L j).length+64) tN0T k⟩:=by
 rw [hQT,xw8 fun j hj=>by rcases hκ j hj with h | h <;> omega];exact xa9 _ _ _
theorem qi5 (hn:n<=900) (hκ: ∀j,j < k->okN j (κ j)) (hk:k < n):hQT n L κ k (k+100)=some (rST (mkL mZe k (L k).length)):=by
 rw [hQT,xw8 fun j hj=>okN.ne (.inl rfl) (hκ j hj) (by omega) (by omega) (by omega),hBT,xa4 _ _ _ (by omega),xo3 hk,zc3 hk]
theorem ju1 (hκ: ∀j,j < k->okN j (κ j)) (hn:n<=900) {q:Nat} (h:2000+64*k<=q):hQT n L κ k q=none:=by
 rw [hQT,xw8 fun j hj=>by rcases hκ j hj with h | h <;> omega,hBT,xa4 _ _ _ (by omega),hPT,xa4 _ _ _ (by omega)];exact ym6 fun j hj=>by omega
theorem yf3 {m:Nat} (hκ: ∀j,j < k->okN j (κ j)) (hn:n<=900) (hk:k<=n) (hm:2000+64*k<=m):SupH (hQT n L κ k) (alP true m):=fun q x hx=>by
 have hin: ∀j,j < k->alP true m (κ j)=true:=fun j hj=>yb1 ((hκ j hj).lt (m:=m) (by omega) (by omega)).1 ((hκ j hj).lt (by omega) (by omega)).2;rcases yi4 hx with ⟨j,hj,rfl,rfl⟩ | hx
 ·exact ⟨hin j hj,fun i hi=>by rw [yg6] at hi;cases hi⟩
 ·by_cases hq:q=21
  ·subst hq;rw [hBT,xa9] at hx;cases hx;refine ⟨rfl,fun i hi=> ?_⟩;rcases yn9 hi with ⟨j,_,hj,rfl⟩ | ⟨j,_,hj⟩
   ·exact hin j hj
   ·cases hj
  ·rw [hBT,xa4 _ _ _ hq] at hx;exact xo0 (by omega) q x hx
theorem qp4 {m v:Nat} {r:List Ze} (hκ: ∀j,j < k->okN j (κ j)) (hn:n<=900) (hk:k<=n) (hm:2000+64*k<=m) (hv:100<=v/\v < m):SupH (upd (hQT n L κ k) v (some (rST r))) (alP true m):=fun q x hx=>by
 by_cases hq:q=v
 ·subst hq;rw [xa9] at hx;cases hx;exact ⟨yb1 hv.1 hv.2,fun i hi=>by rw [yg6] at hi;cases hi⟩
 ·rw [xa4 _ _ _ hq] at hx;exact yf3 hκ hn hk hm q x hx
theorem jq4 {v:Nat} (hκ: ∀j,j < k->okN j (κ j)) (hv:100<=v):SubK (hQT n L (setN κ k v) (k+1)) (upd (upd (hQT n L κ k) v (some (rST (mkL mZe k ((L k).length+64))))) 21 (some ⟨51,1,false,gsR n 8 (setN κ k v) (fun j=>(L j).length+64) tN0T (k+1)⟩)):= .eq fun t x hx=>by
 rw [hQT,pileK,ye9,yg0 (κ:=κ) fun j hj=>yc4 (by omega)] at hx;by_cases ht:t=21
 ·subst ht;rw [xa4 _ _ _ (by omega),xw8 fun j hj=>by rcases hκ j hj with h | h <;> omega,hBT,xa9] at hx;rw [xa9];exact hx
 ·rw [xa4 _ _ _ ht];by_cases htv:t=v
  ·subst htv;rw [xa9] at hx ⊢;exact hx
  ·rw [xa4 _ _ _ htv] at hx ⊢;rw [yh9 (h:=hBT n L κ k) (by rw [hBT,hBT,xa4 _ _ _ ht,xa4 _ _ _ ht])] at hx;exact hx
theorem je6 {j:Nat} (hn:n<=900) (hk:k<=n) (hκ: ∀j,j < k->okN j (κ j)) (hj:j < k):hQT n L κ k (κ j)=some (rST (mkL mZe j ((L j).length+64))):=
 xq7 (fun i hi hij=>okN.ne (hκ j hj) (hκ i hi) (by omega) (by omega) (Ne.symm hij)) hj
theorem jd7 {j:Nat} (hn:n<=900) (hk:k<=n) (hκ: ∀j,j < k->okN j (κ j)) (hj:j < k): ∃m,(L j).length<=m/\hQT n L κ k (j+100)=some (rST (mkL mZe j m)):=by
 rcases hκ j hj with h | h
 ·exact ⟨(L j).length+64,by omega,by rw [<-h];exact je6 hn hk hκ hj⟩
 ·refine ⟨(L j).length,zbs _,?_⟩;rw [hQT,xw8 fun i hi=>by
   by_cases hij:i=j
   ·subst hij;omega
   ·exact okN.ne (.inl rfl) (hκ i hi) (by omega) (by omega) (Ne.symm hij),hBT,xa4 _ _ _ (by omega),xo3 (by omega),zc3 (by omega)]
theorem zh2 {i m j:Nat} (h:i < m):(rV tZe (mkL mZe j m))[i]? =some (.val (tZe (mZe j i))):=by
 rw [rV,zbu,xp4 h];rfl
theorem qj1 {j i i':Nat} (h:i'<=i):ImpK (rST (mkL mZe j i)) (rST (mkL mZe j i')):= .ts (by rw [xd2,xd2,yb9,yb9];exact h) fun t e he=>⟨e,by
 simp only [rV,zbu] at he ⊢;obtain ⟨x,hx,rfl⟩:=zdn.1 he;rw [qk5 h t x hx];rfl,.refl⟩
abbrev tKT (L:Nat->List Ze) (κ:Nat->Nat):Nat->Ent:=fun j=> .own (.sl (κ j) 8 0 ((L j).length+64))
abbrev rMT (n:Nat) (L:Nat->List Ze) (j:Nat):HEnt:=rST (mkL mZe j (L j).length++mkL mZe (j+n) 64)
abbrev hCT (n:Nat) (L:Nat->List Ze) (κ κ2:Nat->Nat) (k:Nat):Keys:=upd (hPT n L (fun j=>mkL mZe j (L j).length)) 21 (some ⟨51,1,false,gsR n 8 κ2 (fun j=>(L j).length+64) (tKT L κ) k⟩)
abbrev hRT (n:Nat) (L:Nat->List Ze) (κ κ2:Nat->Nat) (k:Nat):Keys:=pileK κ2 (rMT n L) k (hCT n L κ κ2 k)
variable {κ2:Nat->Nat}
theorem ze1 (hκ: ∀j,j < k->okM n j (κ2 j)):hRT n L κ κ2 k 20=some ⟨51,1,false,owns n 8 fun j=>(L j).length⟩:=by
 rw [hRT,xw8 fun j hj=>by rcases hκ j hj with h | h <;> omega];rfl
theorem jh0 (hκ: ∀j,j < k->okM n j (κ2 j)):hRT n L κ κ2 k 21=some ⟨51,1,false,gsR n 8 κ2 (fun j=>(L j).length+64) (tKT L κ) k⟩:=by
 rw [hRT,xw8 fun j hj=>by rcases hκ j hj with h | h <;> omega];exact xa9 _ _ _
theorem wc7 (hn:n<=900) (hκ: ∀j,j < k->okM n j (κ2 j)) (hk:k < n):hRT n L κ κ2 k (k+100)=some (rST (mkL mZe k (L k).length)):=by
 rw [hRT,xw8 fun j hj=>okM.ne (.inl rfl) (hκ j hj) (by omega) (by omega) (by omega),hCT,xa4 _ _ _ (by omega),xo3 hk]
theorem yf0 {m:Nat} (hκ0: ∀j,j < n->okN j (κ j)) (hκ: ∀j,j < k->okM n j (κ2 j)) (hn:n<=900) (hk:k<=n) (hm:2000+64*n+k<=m):SupH (hRT n L κ κ2 k) (alP true m):=fun q x hx=>by
 have hin: ∀j,j < k->alP true m (κ2 j)=true:=fun j hj=>by rcases hκ j hj with h | h <;> exact yb1 (by omega) (by omega)
 rcases yi4 hx with ⟨j,hj,rfl,rfl⟩ | hx
 ·exact ⟨hin j hj,fun i hi=>by rw [yg6] at hi;cases hi⟩
 ·by_cases hq:q=21
  ·subst hq;rw [hCT,xa9] at hx;cases hx;refine ⟨rfl,fun i hi=> ?_⟩;rcases yn9 hi with ⟨j,_,hj,rfl⟩ | ⟨j,hjn,hj⟩
   ·exact hin j hj
   ·simp only [Ent.supp,VP.supp,zbj] at hj;subst hj;exact yb1 ((hκ0 j hjn).lt (m:=m) (by omega) (by omega)).1 ((hκ0 j hjn).lt (by omega) (by omega)).2
  ·rw [hCT,xa4 _ _ _ hq] at hx;exact xo0 (by omega) q x hx
theorem hR_0T {κ3:Nat->Nat} (hn:n<=900) (hκ: ∀j,j < n->okN j (κ j)):SubK (hRT n L κ κ3 0) (hQT n L κ n):=fun q x hx=>by
 by_cases hq:q=21
 ·subst hq;have hx:hCT n L κ κ3 0 21=some x:=hx;rw [hCT,xa9] at hx;cases hx;refine ⟨_,zc8 hκ,rfl,?_⟩;rw [show gsR n 8 κ (fun j=>(L j).length+64) tN0T n=gsR n 8 κ3 (fun j=>(L j).length+64) (tKT L κ) 0 from by
   apply zgh;intro j hj;rw [zdp] at hj;simp [hj]]
  exact .refl
 ·have hx:hCT n L κ κ3 0 q=some x:=hx;rw [hCT,xa4 _ _ _ hq] at hx;by_cases hq2:q=20
  ·subst hq2;rw [hPT,xa9] at hx;cases hx;exact ⟨_,yr2 hκ,rfl,.refl⟩
  ·rw [hPT,xa4 _ _ _ hq2] at hx;obtain ⟨j,hj,rfl,rfl⟩:=ya9 hx;obtain ⟨m,hm,e⟩:=jd7 (L:=L) hn (zbs n) hκ hj;exact ⟨_,e,rfl,qj1 hm⟩
def fST (j i:Nat):List Ze:=(List.range 64).map fun t=>if t < i then mZe j t else ze0
theorem yd9 {j i:Nat}:(fST j i).length=64:=by simp [fST]
theorem fS_0T {j:Nat}:List.replicate 64 (Ent.val (tZe ze0))=rV tZe (fST j 0):=by
 rw [xk0 64 ze0 rfl];congr 1
theorem w8 {j i:Nat} (hi:i < 64):(fST j i).set i (mZe j i)=fST j (i+1):=by
 apply zfk;intro t;rw [zgf];rcases zcx t 64 with h | h
 ·simp only [fST,zbu,zfd h,zcq,List.length_range,zeb];by_cases hit:i=t
  ·subst hit;simp [h]
  ·rw [if_neg hit];by_cases h1:t < i
   ·simp [h1,show t < i+1 by omega]
   ·simp [h1,show ¬t < i+1 by omega]
 ·rw [if_neg (by omega),zct (by rw [yd9];exact h),zct (by rw [yd9];exact h)]
theorem fS_64T {j:Nat}:fST j 64=mkL mZe j 64:=zgh fun _ ht=>if_pos (zdp.1 ht)
theorem qc2 {m:Nat} {h:Keys} {r:List Ze} (hs:SupH h (alP true m)):SupH (upd h 22 (some (rST r))) (alM m):=fun q x hx=>by
 by_cases hq:q=22
 ·subst hq;rw [xa9] at hx;cases hx;exact ⟨rfl,fun i hi=>by rw [yg6] at hi;cases hi⟩
 ·rw [xa4 _ _ _ hq] at hx;exact ⟨yd6 (hs q x hx).1,fun i hi=>yd6 ((hs q x hx).2 i hi)⟩
theorem rM_eqT {j:Nat}:(⟨59,8,true,rV tZe (mkL mZe j (L j).length)++(fST (j+n) 64).map (fun y=>Ent.val (tZe y))⟩:HEnt)=rMT n L j:=by
 rw [rMT,rST,<-fS_64T];simp [rV]
theorem jr2 {v:Nat} {r:HEnt} (hκ: ∀j,j < k->okM n j (κ2 j)) (hv:100<=v):SubK (hRT n L κ (setN κ2 k v) (k+1)) (upd (upd (upd (upd (hRT n L κ κ2 k) 22 (some r)) 22 none) v (some ⟨59,8,true,rV tZe (mkL mZe k (L k).length)++(fST (k+n) 64).map (fun y=>Ent.val (tZe y))⟩)) 21 (some ⟨51,1,false,gsR n 8 (setN κ2 k v) (fun j=>(L j).length+64) (tKT L κ) (k+1)⟩)):= .eq fun t x hx=>by
 rw [rM_eqT];rw [hRT,pileK,ye9,yg0 (κ:=κ2) fun j hj=>yc4 (by omega)] at hx;by_cases ht:t=21
 ·subst ht;rw [xa4 _ _ _ (by omega),xw8 fun j hj=>by rcases hκ j hj with h | h <;> omega,hCT,xa9] at hx;rw [xa9];exact hx
 ·rw [xa4 _ _ _ ht];by_cases htv:t=v
  ·subst htv;rw [xa9] at hx ⊢;exact hx
  ·rw [xa4 _ _ _ htv] at hx ⊢;rw [yh9 (h:=hCT n L κ κ2 k) (by rw [hCT,hCT,xa4 _ _ _ ht,xa4 _ _ _ ht])] at hx;by_cases h22:t=22
   ·subst h22;rw [xw8 fun j hj=>by rcases hκ j hj with h | h <;> omega,hCT,xa4 _ _ _ (by omega),hPT,xa4 _ _ _ (by omega),ym6 fun j _=>by omega] at hx;cases hx
   ·rw [xa4 _ _ _ h22,xa4 _ _ _ h22];exact hx
theorem jm6 {j:Nat} (_hκ: ∀j,j < k->okM n j (κ2 j)) (hj:j < n): ∃y,hRT n L κ κ2 k (j+100)=some y:=by
 have key: ∀i,∃y,pileK κ2 (rMT n L) i (hCT n L κ κ2 k) (j+100)=some y:=fun i=>by
  induction i with
  | zero=>exact ⟨_,by show hCT n L κ κ2 k (j+100)=_;rw [hCT,xa4 _ _ _ (by omega)];exact xo3 hj⟩
  | succ i ih=>
   by_cases h:j+100=κ2 i
   ·exact ⟨_,by rw [pileK,h];exact xa9 _ _ _⟩
   ·obtain ⟨y,hy⟩:=ih;exact ⟨y,by rw [pileK,xa4 _ _ _ h];exact hy⟩
 exact key k
theorem jk6 {N:Nat} {w:World} {F:Dom} {η:Env} {R:Nat->HEnt} {X:HEnt} {r:Option HEnt} {b:Nat} (hκ: ∀j,j < k->okM n j (κ2 j)) (_hk:k<=n) (hb:(Base.lent N w F η (poolN n) ((20,X)::poolL n R)).lb b):
  ∃j y,j∈poolN n/\j≠22/\upd (hRT n L κ κ2 k) 22 r j=some y/\0 < η.c j/\b=η.b j:=by
 obtain ⟨x,hx,hc,e⟩:=hb;rcases zbr.1 hx with rfl | hx
 ·exact ⟨20,_,by simp [poolN],by omega,(xa4 _ _ _ (by omega)).trans (ze1 hκ),hc,e⟩
 ·obtain ⟨j,hj,h1,_⟩:=ye7 (k:=x.1) (x:=x.2) hx;obtain ⟨y,hy⟩:=jm6 (L:=L) (κ:=κ) hκ hj;refine ⟨j+100,y,by simp only [poolN,zbr,zcp,zdp];exact .inr ⟨j,hj,rfl⟩,by omega,(xa4 _ _ _ (by omega)).trans hy,by rw [<-h1];exact hc,by rw [<-h1];exact e⟩
theorem je1 {j:Nat} (hn:n<=900) (hκ: ∀j,j < n->okM n j (κ2 j)) (hj:j < n):hRT n L κ κ2 n (κ2 j)=some (rMT n L j):=
 xq7 (fun i hi hij=>okM.ne (hκ j hj) (hκ i hi) (by omega) (by omega) (Ne.symm hij)) hj
theorem qj5 {i j:Nat} (h:i < (L j).length):(rV tZe (mkL mZe j (L j).length++mkL mZe (j+n) 64))[i]? =some (.val (tZe (mZe j i))):=by
 rw [rV,zbu,zdo (by rw [yb9];exact h),xp4 h];rfl
theorem hR_lsT {j:Nat} (hn:n<=900) (hκ: ∀j,j < n->okM n j (κ2 j)) (hj:j < n): ∃xs,hRT n L κ κ2 n (j+100)=some (rST xs)/\ ∀i,i < (L j).length->(rV tZe xs)[i]? =some (.val (tZe (mZe j i))):=by
 rcases hκ j hj with h | h
 ·exact ⟨_,(congrArg (hRT n L κ κ2 n) h.symm).trans (je1 hn hκ hj),fun i hi=>qj5 hi⟩
 ·refine ⟨mkL mZe j (L j).length,?_,fun i hi=>zh2 hi⟩;rw [hRT,xw8 fun i hi=>by
   by_cases hij:i=j
   ·subst hij;omega
   ·exact okM.ne (.inl rfl) (hκ i hi) (by omega) (by omega) (Ne.symm hij),hCT,xa4 _ _ _ (by omega),xo3 hj]
theorem wa5 {i:Nat} {j:Nat}:(⟨59,8,true,rV tZe (mkL mZe j i)++[mZe j i].map (fun y=>Ent.val (tZe y))⟩:HEnt)=rST (mkL mZe j (i+1)):=by
 rw [rST,<-zs7];simp [rV]
end
theorem zz8 (n:Nat) (L:Nat->List Ze) (hn:n<=900) (hL: ∀j,(L j).length<=1000000):
  CtG Tryz.prog 238 ((20,⟨51,1,false,owns n 8 fun j=>(L j).length⟩)::poolL n fun j=>rST (L j)) [.own (.sl 20 1 0 n)] (.val (tB true)) [] []:=by
 refine CtG.intro (poolN n) func238 rfl ntmps238 rfl rfl (qe9 fun _ _=>yg6) ?_;intro w F η;refine A12 ?_;refine ya2 (fun k:Nat=>k<=n) (fun k=>uV (uO uN 0 (.sl 20 1 0 n)) 3 (tI k)) (fun k=>hPT n L (cM L mZe ze0 k 0)) (alP false (100+n)) (fun k=>n - k) 0 (zbq _) (Sub.int rfl rfl (zan rfl zay)) (by show SubK (hPT n L (cM L mZe ze0 0 0)) _;rw [show cM L mZe ze0 0 0=L from funext fun j=>cM_0];exact yv2) (zaj (zak rfl zar)) (xo0 (by omega)) (lkP (by omega)) ?_;intro k hk;refine A9 ?_;refine x6 rfl (fun h1=> ?_) (fun h1=> ?_)
 ·
  have hk':k < n:=by omega
  refine A9 ?_;refine xw7 ?_;refine ya2 (fun i:Nat=>i<=(L k).length) (fun i=>uV (uV (uO uN 0 (.sl 20 1 0 n)) 3 (tI k)) 4 (tI i)) (fun i=>hPT n L (cM L mZe ze0 k i)) (alP false (100+n)) (fun i=>(L k).length - i) 0 (zbq _) (Sub.int rfl rfl (zan rfl (zan rfl zay))) SubK.refl (zaj (zaj (zak rfl zar))) (xo0 (by omega)) (lkP (by omega)) ?_;intro i hi;have hLk:=hL k;refine A6 ?_;refine R2 (zag sl133 rfl) rfl rfl (RE (xc1 (k) ti51 (xz6 hk') (by omega)) qA qA trivial ?_);refine A3 ?_;refine x6 rfl (fun h2=> ?_) (fun h2=> ?_)
  ·
   refine A7 ?_;refine R2 (zag sl133 rfl) rfl rfl (RE (xc1 (k) ti51 (xz6 hk') (by omega)) qA qA trivial ?_);refine A3 ?_;refine R2 (x3 (yb6 k i (by omega) (by omega)) fi158 rfl) rfl rfl (R2 (zag sl51 rfl) rfl rfl (RE (xb8 (e:= .val (tZe (mZe k i))) (i) ti59 (xe8 (f:=tZe) (xs:=cM L mZe ze0 k i k) (by rw [ze2];omega)) (by omega) (xi3 (f:=tZe) (m:=mZe k i) rfl)) qB ⟨xo3 (L:=L) hk',trivial⟩ trivial ?_));refine A8 ?_;exact xz8 (i+1) ⟨by omega,by omega⟩ (Sub.int rfl (by omega) (zan rfl (zan rfl zay))) (by rw [qv7 (by omega)];exact wb5 fun j hj=>j9 hj) (zaj (zaj (zak rfl zar))) (xo0 (by omega)) (lkP (by omega))
  ·
   refine A11 ?_;have hil:i=(L k).length:=by omega
   subst hil;exact xz8 (k+1) ⟨by omega,by omega⟩ (Sub.int rfl (by omega) (zan rfl zay)) (hP_eqT fun j _=>qn9) (zaj (zak rfl zar)) (xo0 (by omega)) (lkP (by omega))
 ·
  have hkn:k=n:=by omega
  subst hkn;refine A9 ?_;refine RE (xg0 (k:=21) (t:=tL 8 true tZe ([]:List Ze)) (ts:=gsR k 8 (fun _=>0) (fun j=>(L j).length+64) tN0T 0) k k zhn el51 (fun _ _=>⟨none,0,rfl,zbs _,by decide,.inl rfl⟩) rfl (by omega) (by omega) (zbs _) (by omega) (by omega) qo8) qB trivial qA ?_;refine A10 ?_;refine yg2 (ι:=Nat×(Nat->Nat)) (fun x=>x.1<=k/\ ∀j,j < x.1->okN j (x.2 j)) (fun x=>uV (uO (uO uN 0 (.sl 20 1 0 k)) 5 (.sl 21 1 0 k)) 6 (tI x.1)) (fun x=>hQT k L x.2 x.1) (fun x=>alP true (2000+64*x.1)) (fun x=>k - x.1) (0,fun _=>0) ⟨zbq _,fun j h=>by cases h⟩ (Sub.int rfl rfl (zan rfl (zan rfl zay))) SubK.refl (zaj (zak rfl (zak rfl zar))) (yf3 (fun j h=>by cases h) hn (zbq _) (by omega)) (lkP (by omega)) ?_;rintro ⟨q,κ⟩ ⟨hq,hκ⟩;replace hq:q<=k:=hq;replace hκ: ∀j,j < q->okN j (κ j):=hκ;show wc _ _ _ _ (uV (uO (uO uN 0 (.sl 20 1 0 k)) 5 (.sl 21 1 0 k)) 6 (tI q)) (hQT k L κ q) (alP true (2000+64*q));refine A9 ?_;refine x6 rfl (fun h3=> ?_) (fun h3=> ?_)
  ·
   have hq':q < k:=by omega
   have hLk:=hL q;refine A8 ?_;refine R2 (zag sl133 rfl) rfl rfl (RE (xc1 (q) ti51 (xz6 hq') (by omega)) qA ⟨yr2 hκ,trivial⟩ trivial ?_);refine A10 ?_;refine yg2 (ι:=Nat×Nat) (fun x=>x.1<=64/\(x.2=q+100∨2000+64*q<=x.2/\x.2 < 2000+64*q+x.1)) (fun x=>uV (uO (uV (uO (uO uN 0 (.sl 20 1 0 k)) 5 (.sl 21 1 0 k)) 6 (tI q)) 7 (.sl x.2 8 0 ((L q).length+x.1))) 8 (tI x.1)) (fun x=>upd (hQT k L κ q) x.2 (some (rST (mkL mZe q ((L q).length+x.1))))) (fun x=>alP true (2000+64*q+x.1)) (fun x=>64 - x.1) (0,q+100) ⟨zbq _,.inl rfl⟩ (Sub.int rfl rfl (zan rfl (zan rfl (zan rfl (zan rfl zay))))) (zaq (qi5 hn hκ hq') .refl SubK.refl) (zaj (zak (by show (alP true (2000+64*q+0) (q+100) && true)=true;rw [yb1 (by omega) (by omega)];rfl) (zaj (zak rfl (zak rfl zar))))) (qp4 hκ hn (by omega) (by omega) (by omega)) (lkP (by omega)) ?_;rintro ⟨i,v⟩ ⟨hi,hv⟩;replace hi:i<=64:=hi;replace hv:v=q+100∨2000+64*q<=v/\v < 2000+64*q+i:=hv;have h20:upd (hQT k L κ q) v (some (rST (mkL mZe q ((L q).length+i)))) 20=some ⟨51,1,false,owns k 8 fun j=>(L j).length⟩:=by
    rw [xa4 _ _ _ (by omega)];exact yr2 hκ
   show wc _ _ _ _ (uV (uO (uV (uO (uO uN 0 (.sl 20 1 0 k)) 5 (.sl 21 1 0 k)) 6 (tI q)) 7 (.sl v 8 0 ((L q).length+i))) 8 (tI i)) (upd (hQT k L κ q) v (some (rST (mkL mZe q ((L q).length+i))))) (alP true (2000+64*q+i));refine A6 ?_;refine x6 rfl (fun h4=> ?_) (fun h4=> ?_)
   ·
    have hi':i < 64:=by omega
    refine A3 ?_;refine xw7 ?_;refine ya4 ?_;refine yc7 [_,_,_,_,_,_,_,_,_,_,_] ?_;refine A4 ?_;refine R2 (zag sl133 rfl) rfl rfl (RE (xc1 (q) ti51 (xz6 hq') (by omega)) qA ⟨h20,trivial⟩ trivial ?_);refine A3 ?_;refine R2 (x3 (yb6 q ((L q).length+i) (by omega) (by omega)) fi158 rfl) rfl rfl (R1 (xb5 (n:=1) (f:=tZe) [mZe q ((L q).length+i)] zhm el59 zf59 rfl (fun _=>inferInstance) rfl rfl rfl) rfl (zq4 (by kernel_rfl) ?_));refine ys6 (k':=2000+64*q+i) (f:=tZe) (ys:=[mZe q ((L q).length+i)]) zhm el59 zf59 rfl rfl (fun _=>inferInstance) rfl rfl (xa9 _ _ _) (zg4 (by omega)) (xd2.trans yb9) (by simp;omega) (by simp;omega) (by simp) rfl (fun b=> ?_);refine xf4 xe5 qA trivial trivial rfl (xp1 ?_);refine A7 ?_;have hv':cond b v (2000+64*q+i)=v∨cond b v (2000+64*q+i)=2000+64*q+i:=by cases b;exact .inr rfl;exact .inl rfl
    generalize cond b v (2000+64*q+i)=v' at hv' ⊢;exact fun _ _ hs=>xh2 (i+1,v') ⟨⟨by show i+1<=64;omega,by show v'=q+100∨2000+64*q<=v'/\v' < 2000+64*q+(i+1);omega⟩,by show 64 - (i+1) < 64 - i;omega⟩ (Sub.int rfl rfl (zan rfl (zan rfl (zan rfl (zan rfl zay))))) (by
     show SubK (upd (hQT k L κ q) v' (some (rST (mkL mZe q ((L q).length+i+1))))) _;rw [<-wa5];exact SubK.over fun y hy=>by
      rcases hv with rfl | hv
      ·rw [qi5 hn hκ hq'] at hy;cases hy;exact ⟨rfl,qj1 (by omega)⟩
      ·rw [ju1 hκ hn hv.1] at hy;cases hy) (zaj (zak (by show (alP true (2000+64*q+(i+1)) v' && true)=true;rw [yb1 (by omega) (by omega)];rfl) (zaj (zak rfl (zak rfl zar))))) (qp4 hκ hn (by omega) (by show 2000+64*q<=2000+64*q+(i+1);omega) (by show 100<=v'/\v' < 2000+64*q+(i+1);omega)) (lkP (by omega)) hs
   ·
    have hi64:i=64:=by omega
    subst hi64;have h21:upd (hQT k L κ q) v (some (rST (mkL mZe q ((L q).length+64)))) 21=some ⟨51,1,false,gsR k 8 κ (fun j=>(L j).length+64) tN0T q⟩:=by
     rw [xa4 _ _ _ (by omega)];exact zc8 hκ
    refine A9 ?_;refine R2 (zag sl133 rfl) rfl rfl (RE (xb8 (e:= .own (.sl v 8 0 ((L q).length+64))) (q) ti51 (by rw [xm5];simpa using hq') (by omega) (yt8 (len:=fun j=>(L j).length+64) (v:=v) hq')) qB ⟨h21,trivial⟩ trivial ?_);refine A8 ?_;exact fun _ _ hs=>xh2 (q+1,setN κ q v) ⟨⟨by show q+1<=k;omega,ys2 hκ hv⟩,by show k - (q+1) < k - q;omega⟩ (Sub.int rfl rfl (zan rfl (zan rfl zay))) (by exact jq4 hκ (by omega)) (zaj (zak rfl (zak rfl zar))) (by exact yf3 (ys2 hκ hv) hn (by omega) (by omega)) (lkP (by omega)) hs
  ·
   have hqk:q=k:=by omega
   subst hqk;refine A12 ?_;refine ya2 (fun j:Nat=>j<=q) (fun j=>uV (uO (uO uN 0 (.sl 20 1 0 q)) 5 (.sl 21 1 0 q)) 9 (tI j)) (fun _=>hQT q L κ q) (alP true (2000+64*q)) (fun j=>q - j) 0 (zbq _) (Sub.int rfl rfl (zan rfl (zan rfl zay))) SubK.refl (zaj (zak rfl (zak rfl zar))) (yf3 hκ hn (by omega) (by omega)) (lkP (by omega)) ?_;intro j hj;refine A9 ?_;refine x6 rfl (fun h5=> ?_) (fun h5=> ?_)
   ·
    have hj':j < q:=by omega
    have hLj:=hL j;refine A9 ?_;refine xw7 ?_;refine ya2 (fun i:Nat=>i<=(L j).length+64) (fun i=>uV (uV (uO (uO uN 0 (.sl 20 1 0 q)) 5 (.sl 21 1 0 q)) 9 (tI j)) 10 (tI i)) (fun _=>hQT q L κ q) (alP true (2000+64*q)) (fun i=>(L j).length+64 - i) 0 (zbq _) (Sub.int rfl rfl (zan rfl (zan rfl (zan rfl zay)))) SubK.refl (zaj (zaj (zak rfl (zak rfl zar)))) (yf3 hκ hn (by omega) (by omega)) (lkP (by omega)) ?_;intro i hi;obtain ⟨m,hm,hls⟩:=jd7 (L:=L) hn (zbs q) hκ hj';refine A6 ?_;refine R2 (zag sl133 rfl) rfl rfl (RE (xc1 (j) ti51 (xn0 hj' hj') (by omega)) qA ⟨zc8 hκ,trivial⟩ trivial ?_);refine A3 ?_;refine x6 rfl (fun h6=> ?_) (fun h6=> ?_)
    ·
     refine A8 ?_;refine R2 (zag sl133 rfl) rfl rfl (RE (xc1 (j) ti51 (xn0 hj' hj') (by omega)) qA ⟨zc8 hκ,trivial⟩ trivial ?_);refine A1 ?_;refine R2 (zag sl51 rfl) rfl rfl (RE (xc1 (i) ti59 (zh2 (by omega)) (by omega)) qA ⟨je6 hn (zbs q) hκ hj',trivial⟩ trivial ?_);refine A2 ?_;refine R2 (x3 (yb6 j i (by omega) (by omega)) fi158 rfl) rfl rfl (R2 (x3 (yh5 _ _) fi169 rfl) rfl rfl ?_);refine A5 ?_;refine Rg rfl rfl (zag sl133 rfl) rfl qB (RGon rfl rfl (xc1 (j) ti51 (xz6 hj') (by omega)) rfl qA ⟨yr2 hκ,trivial⟩ trivial (Rg rfl rfl qa4 rfl qA ?_));refine A2 ?_;refine RGcaseD (t:=108) rfl (fun h7=> ?_) (fun h7=> ?_)
     ·
      refine A2 ?_;refine Rg (zbg h7) rfl (zag sl133 rfl) rfl qB (RGon (zbg h7) rfl (xc1 (j) ti51 (xz6 hj') (by omega)) rfl qA ⟨yr2 hκ,trivial⟩ trivial ?_);refine A1 ?_;refine Rg (zbg h7) rfl (zag sl51 rfl) rfl qB (RGon (zbg h7) rfl (xc1 (i) ti59 (zh2 (by omega)) (by omega)) rfl qA ⟨hls,trivial⟩ trivial ?_);refine A2 ?_;refine Rg (zbg h7) rfl (x3 (yb6 j i (by omega) (by omega)) fi158 rfl) rfl qB (Rg (zbg h7) rfl (x3 (yh5 _ _) fi169 rfl) rfl qB ?_);refine A1 ?_;refine Rg rfl rfl (xc9 (zbg h7)) rfl qB (R2 (xc7 rfl) rfl rfl ?_);refine A1 ?_;refine xw4 rfl rfl ?_;refine A8 ?_;exact xz8 (i+1) ⟨by omega,by omega⟩ (Sub.int rfl (by omega) (zan rfl (zan rfl (zan rfl zay)))) SubK.refl (zaj (zaj (zak rfl (zak rfl zar)))) (yf3 hκ hn (by omega) (by omega)) (lkP (by omega))
     ·
      refine RGoff (zbf h7) rfl rfl (RGoff (zbf h7) rfl rfl (RGoff (zbf h7) rfl rfl (RGoff (zbf h7) rfl rfl (RGoff (zbf h7) rfl rfl (RGoff (zbf h7) rfl rfl (RGoff (zbf h7) rfl rfl (RGoff (zbf h7) rfl rfl (RGoff (zbf h7) rfl rfl (RGoff (zbf h7) rfl rfl (RGoff (zbf h7) rfl rfl (RGoff (zbf h7) rfl rfl (Rg rfl rfl (xc7 (zbf h7)) rfl qB (R2 (xc7 rfl) rfl rfl ?_)))))))))))));refine A1 ?_;refine xw4 rfl rfl ?_;refine A8 ?_;exact xz8 (i+1) ⟨by omega,by omega⟩ (Sub.int rfl (by omega) (zan rfl (zan rfl (zan rfl zay)))) SubK.refl (zaj (zaj (zak rfl (zak rfl zar)))) (yf3 hκ hn (by omega) (by omega)) (lkP (by omega))
    ·
     refine A11 ?_;exact xz8 (j+1) ⟨by omega,by omega⟩ (Sub.int rfl (by omega) (zan rfl (zan rfl zay))) SubK.refl (zaj (zak rfl (zak rfl zar))) (yf3 hκ hn (by omega) (by omega)) (lkP (by omega))
   ·
    clear h5 hj;refine A12 ?_;refine yg2 (ι:=Nat×(Nat->Nat)) (fun x=>x.1<=q/\ ∀j,j < x.1->okM q j (x.2 j)) (fun x=>uV (uO (uO uN 0 (.sl 20 1 0 q)) 5 (.sl 21 1 0 q)) 11 (tI x.1)) (fun x=>hRT q L κ x.2 x.1) (fun x=>alP true (2000+64*q+x.1)) (fun x=>q - x.1) (0,fun _=>0) ⟨zbq _,fun j h=>by cases h⟩ (Sub.int rfl rfl (zan rfl (zan rfl zay))) (hR_0T hn hκ) (zaj (zak rfl (zak rfl zar))) (yf0 hκ (fun j h=>by cases h) hn (zbq _) (by omega)) (lkP (by omega)) ?_;rintro ⟨j,κ2⟩ ⟨hj,hκ2⟩;replace hj:j<=q:=hj;replace hκ2: ∀i,i < j->okM q i (κ2 i):=hκ2;show wc _ _ _ _ (uV (uO (uO uN 0 (.sl 20 1 0 q)) 5 (.sl 21 1 0 q)) 11 (tI j)) (hRT q L κ κ2 j) (alP true (2000+64*q+j));refine A9 ?_;refine x6 rfl (fun h5=> ?_) (fun h5=> ?_)
    ·
     have hj':j < q:=by omega
     have hLj:=hL j;refine A6 ?_;refine RE (xg0 (k:=22) (t:=tZe ze0) (ts:=rV tZe (fST (j+q) 0)) 64 64 zhm el59 (fun F w=>ji4) rfl rfl rfl (zbs _) (by decide) (by decide) fS_0T) qB trivial ⟨qu5,trivial⟩ ?_;refine A10 ?_;refine ya2 (fun i:Nat=>i<=64) (fun i=>uV (uO (uV (uO (uO uN 0 (.sl 20 1 0 q)) 5 (.sl 21 1 0 q)) 11 (tI j)) 12 (.sl 22 8 0 64)) 13 (tI i)) (fun i=>upd (hRT q L κ κ2 j) 22 (some (rST (fST (j+q) i)))) (alM (2000+64*q+j)) (fun i=>64 - i) 0 (zbq _) (Sub.int rfl rfl (zan rfl (zan rfl (zan rfl (zan rfl zay))))) SubK.refl (zaj (zak rfl (zaj (zak rfl (zak rfl zar))))) (qc2 (yf0 hκ hκ2 hn (by omega) (by omega))) (ze7 (lkP (by omega))) ?_;intro i hi;refine A6 ?_;refine x6 rfl (fun h6=> ?_) (fun h6=> ?_)
     ·
      refine A12 ?_;refine R2 (x3 (yb6 (j+q) i (by omega) (by omega)) fi158 rfl) rfl rfl (R2 (zag sl51 rfl) rfl rfl (RE (xb8 (e:= .val (tZe (mZe (j+q) i))) (i) ti59 (xe8 (f:=tZe) (xs:=fST (j+q) i) (by rw [yd9];omega)) (by omega) (xi3 (f:=tZe) (m:=mZe (j+q) i) rfl)) qB ⟨xa9 _ _ _,trivial⟩ trivial ?_));refine A8 ?_;exact xz8 (i+1) ⟨by omega,by omega⟩ (Sub.int rfl (by omega) (zan rfl (zan rfl (zan rfl (zan rfl zay))))) (by rw [<-w8 (by omega)];exact SubK.twice) (zaj (zak rfl (zaj (zak rfl (zak rfl zar))))) (qc2 (yf0 hκ hκ2 hn (by omega) (by omega))) (ze7 (lkP (by omega)))
     ·
      have hi64:i=64:=by omega
      subst hi64;refine A5 ?_;have hown: ∀r,upd (upd (hRT q L κ κ2 j) 22 r) 22 none (j+100)=some (rST (mkL mZe j (L j).length)):=fun r=>by
       rw [xa4 _ _ _ (by omega),xa4 _ _ _ (by omega)];exact wc7 hn hκ2 hj'
      have hgs: ∀r v r',100<=v->upd (upd (upd (hRT q L κ κ2 j) 22 r) 22 none) v r' 21=some ⟨51,1,false,gsR q 8 κ2 (fun j=>(L j).length+64) (tKT L κ) j⟩:=fun r v r' hv=>by
       rw [xa4 _ _ _ (by omega),xa4 _ _ _ (by omega),xa4 _ _ _ (by omega)];exact jh0 hκ2
      refine qn4 (t:=12) (k:=22) (f:=tZe) (xs:=fST (j+q) 64) rfl (xa9 _ _ _) (fun b hb=>jk6 hκ2 hj hb) (xg2 yd9) yd9 ?_;refine ya4 ?_;refine yc7 [_,_,_,_,_,_,_] ?_;refine A4 ?_;refine R2 (zag sl133 rfl) rfl rfl (RE (xc1 (j) ti51 (xz6 hj') (by omega)) qA ⟨(xa4 _ _ _ (by omega)).trans ((xa4 _ _ _ (by omega)).trans (ze1 hκ2)),trivial⟩ trivial ?_);refine A1 ?_;refine zq4 (by kernel_rfl) ?_;refine ys6 (k':=2000+64*q+j) (f:=tZe) (ys:=fST (j+q) 64) zhm el59 zf59 rfl rfl (fun _=>inferInstance) rfl rfl (hown _) (qp6 (by omega)) (xd2.trans yb9) (by rw [yd9];omega) (by rw [yd9];omega) (by rw [yd9];omega) rfl (fun b=> ?_);have hv':okM q j (cond b (j+100) (2000+64*q+j)):=by cases b;exact .inr rfl;exact .inl rfl
      generalize cond b (j+100) (2000+64*q+j)=v' at hv' ⊢;rw [yd9];have hvb:100<=v'/\v'<=2000+64*q+j:=by rcases hv' with h | h <;> omega
      refine xf4 (zag sl133 rfl) qB trivial trivial rfl (xf4 (xb8 (e:= .own (.sl v' 8 0 ((L j).length+64))) (j) ti51 (by rw [xm5];simpa using hj') (by omega) (yt8 (len:=fun j=>(L j).length+64) (v:=v') hj')) qB ⟨hgs _ _ _ hvb.1,trivial⟩ trivial rfl (xp1 ?_));refine A7 ?_;exact fun _ _ hs=>xh2 (j+1,setN κ2 j v') ⟨⟨by show j+1<=q;omega,yt3 hκ2 hv'⟩,by show q - (j+1) < q - j;omega⟩ (Sub.int rfl rfl (zan rfl (zan rfl zay))) (by exact jr2 hκ2 hvb.1) (zaj (zak rfl (zak rfl zar))) (by exact yf0 hκ (yt3 hκ2 hv') hn (by omega) (by omega)) (lkP (by omega)) hs
    ·
     have hjq:j=q:=by omega
     subst hjq;clear h5 hj;refine A12 ?_;refine ya2 (fun t:Nat=>t<=j) (fun t=>uV (uO (uO uN 0 (.sl 20 1 0 j)) 5 (.sl 21 1 0 j)) 14 (tI t)) (fun _=>hRT j L κ κ2 j) (alP true (2000+64*j+j)) (fun t=>j - t) 0 (zbq _) (Sub.int rfl rfl (zan rfl (zan rfl zay))) SubK.refl (zaj (zak rfl (zak rfl zar))) (yf0 hκ hκ2 hn (by omega) (by omega)) (lkP (by omega)) ?_;intro t ht;refine A9 ?_;refine x6 rfl (fun h5=> ?_) (fun h5=> ?_)
     ·
      have ht':t < j:=by omega
      have hLt:=hL t;obtain ⟨xs,hls,hxs⟩:=hR_lsT (L:=L) (κ:=κ) hn hκ2 ht';refine A9 ?_;refine xw7 ?_;refine ya2 (fun i:Nat=>i<=(L t).length) (fun i=>uV (uV (uO (uO uN 0 (.sl 20 1 0 j)) 5 (.sl 21 1 0 j)) 14 (tI t)) 15 (tI i)) (fun _=>hRT j L κ κ2 j) (alP true (2000+64*j+j)) (fun i=>(L t).length - i) 0 (zbq _) (Sub.int rfl rfl (zan rfl (zan rfl (zan rfl zay)))) SubK.refl (zaj (zaj (zak rfl (zak rfl zar)))) (yf0 hκ hκ2 hn (by omega) (by omega)) (lkP (by omega)) ?_;intro i hi;refine A6 ?_;refine R2 (zag sl133 rfl) rfl rfl (RE (xc1 (t) ti51 (xz6 ht') (by omega)) qA ⟨ze1 hκ2,trivial⟩ trivial ?_);refine A3 ?_;refine x6 rfl (fun h6=> ?_) (fun h6=> ?_)
      ·
       have hi':i < (L t).length:=by omega
       refine A8 ?_;refine R2 (zag sl133 rfl) rfl rfl (RE (xc1 (t) ti51 (xz6 ht') (by omega)) qA ⟨ze1 hκ2,trivial⟩ trivial ?_);refine A1 ?_;refine R2 (zag sl51 rfl) rfl rfl (RE (xc1 (i) ti59 (hxs i hi') (by omega)) qA ⟨hls,trivial⟩ trivial ?_);refine A2 ?_;refine R2 (x3 (yb6 t i (by omega) (by omega)) fi158 rfl) rfl rfl (R2 (x3 (yh5 _ _) fi169 rfl) rfl rfl ?_);refine A4 ?_;refine Rg rfl rfl (zag sl133 rfl) rfl qB (RGon rfl rfl (xc1 (t) ti51 (xn0 ht' ht') (by omega)) rfl qA ⟨jh0 hκ2,trivial⟩ trivial ?_);refine A1 ?_;refine Rg rfl rfl (zag sl51 rfl) rfl qB (RGon rfl rfl (xc1 (i) ti59 (qj5 hi') (by omega)) rfl qA ⟨je1 hn hκ2 ht',trivial⟩ trivial ?_);refine A2 ?_;refine Rg rfl rfl (x3 (yb6 t i (by omega) (by omega)) fi158 rfl) rfl qB (Rg rfl rfl (x3 (yh5 _ _) fi169 rfl) rfl qB ?_);refine A1 ?_;refine R2 (xc7 rfl) rfl rfl ?_;refine A1 ?_;refine xw4 rfl rfl ?_;refine A8 ?_;exact xz8 (i+1) ⟨by omega,by omega⟩ (Sub.int rfl (by omega) (zan rfl (zan rfl (zan rfl zay)))) SubK.refl (zaj (zaj (zak rfl (zak rfl zar)))) (yf0 hκ hκ2 hn (by omega) (by omega)) (lkP (by omega))
      ·
       refine A11 ?_;exact xz8 (t+1) ⟨by omega,by omega⟩ (Sub.int rfl (by omega) (zan rfl (zan rfl zay))) SubK.refl (zaj (zak rfl (zak rfl zar))) (yf0 hκ hκ2 hn (by omega) (by omega)) (lkP (by omega))
     ·
      refine A11 ?_;exact xc5 LentC.mk' rfl rfl Imp.refl trivial rfl trivial rfl
end An.S
namespace An
open Go
theorem Kr.split {h:Keys}: ∀{l1 l2:List (Nat×HEnt)},Kr h (l1++l2)->Kr h l1/\Kr h l2
 | [],_,hh=>⟨trivial,hh⟩
 | _::r,_,hh=>⟨⟨hh.1,(Kr.split (l1:=r) hh.2).1⟩,(Kr.split (l1:=r) hh.2).2⟩
theorem Kr.memR {h:Keys} {ρ:Nat->Nat}: ∀{H:List (Nat×HEnt)},Kr h (H.map fun x=>(ρ x.1,x.2))-> ∀x∈H,h (ρ x.1)=some x.2
 | y::r,hr,x,hx=>by
  rcases zbr.1 hx with rfl | hx
  ·exact hr.1
  ·exact Kr.memR (H:=r) hr.2 x hx
section
variable {P:Program} {c:Base} {d ty:Nat} {pos:String} {af:Array Edge} {gd:Option (Nat×Bool)}
theorem yd2 {f:FuncId} {xs:List Operand} {aT:Array TypeId} {H H' h1 h2 K:List (Nat×HEnt)} {ps:List Ent} {re:Ent} {nn:List Nat} (ρ:Nat->Nat) (hc:CtG P f H ps re H' nn) (hf:FnI P f) (hl:xs.length=ps.length) (e1:H.map (fun x=>(ρ x.1,x.2.ren ρ))=h1) (e2:H'.map (fun x=>(ρ x.1,x.2.ren ρ))=h2)
  (ln:List Nat) (hsH:SupHs H' (nn++(suppE ps++(H.map (·.1)++(K.map (·.1)++ln))))) (hln:(ln.all fun k=>memN (ρ k) c.ln)=true) (hok:gB ρ H H' re ps nn c.yk=true):
  Does P c ⟨some d,.call {callee:= .value (.func f),args:=xs.toArray,argTypes:=aT},ty,pos,af,gd⟩ ⟨xs.zip (ps.map (Ent.ren ρ)),h1++K.map (fun x=>(ρ x.1,x.2)),some (d,some (re.ren ρ)),H.map (fun x=>(ρ x.1,none))++h2.map (fun x=>(x.1,some x.2)),nn.map ρ⟩:=by
 rw [<-yj7 e2,<-e1];intro g h al a w hp ⟨η,s⟩;obtain ⟨fn,f1,f2,f3⟩:=hf;obtain ⟨hsat,hal⟩:=SatL.of s xs ps hp.rd hl;have hrun:(execOp a.eval ⟨some d,.call {callee:= .value (.func f),args:=xs.toArray,argTypes:=aT},ty,pos,af,gd⟩).run P w= .ok (.enter f (xs.map a.eval).toArray) w:=by
  simp only [execOp,resolve,Act.eval,Deferred.ofValue,zbv,zbw,zbm,invoke];simp only [zdx,zdt,zcu];exact xh4 f1 f2 f3 _ w
 obtain ⟨hk1,hk2⟩:=Kr.split hp.kr;have hH':=Kr.ren hk1;have hK':=Kr.memR hk2;have hnn:=Nk.ren hp.nk;simp only [gB,zcg] at hok;have hps: ∀k∈suppE ps,al (ρ k)=true:=fun k hk=>hal _ (xt8 hk);have hall:AllK (c.dom h η) w (η.pre ρ) H:=fun x hx=>HEnt.sat_ren.1 (s.key _ _ (hH' x hx)).2.2.1;refine xm3 hrun (zec (hc (c.dom h η) w (η.pre ρ) (xs.map a.eval) hsat hall (fun x hx y hy hne hcx hcy=> ?_) (fun b hb ho=> ?_)) ?_)
 ·exact s.inj (ρ x.1) (ρ y.1) _ _ (hH' x hx) (hH' y hy) (xt1 hok.1.1.2 x.1 y.1 (zdd hx) (zdd hy) hne) hcx hcy
 ·obtain ⟨x,hx,hcx,rfl⟩:=ho;exact hb.2.1 ⟨ρ x.1,_,hH' x hx,hcx,rfl⟩
 ·rintro e w' ⟨v,η',rfl,hout⟩;obtain ⟨s',hres⟩:=s.back ρ hH' hout hnn hok.1.1.1 (fun k hk=>by
   have hm:k∈nn++(suppE ps++(H.map (·.1)++(K.map (·.1)++ln))):=by
    rcases zbo.1 hk with hk | hk
    ·have:=xk1 hok.1.2 k hk;simp only [zbo] at this ⊢;rcases this with h1 | h1 | h1
     ·exact .inl h1
     ·exact .inr (.inl h1)
     ·exact .inr (.inr (.inl h1))
    ·exact hsH.spec k hk
   simp only [zbo] at hm;rcases hm with hm | hm | hm | hm | hm
   ·exact .inl hm
   ·exact .inr (hps k hm)
   ·right;obtain ⟨x,hx,rfl⟩:=zcp.1 hm;exact (s.key _ _ (hH' x hx)).1
   ·right;obtain ⟨x,hx,rfl⟩:=zcp.1 hm;exact (s.key _ _ (hK' x hx)).1
   ·exact .inr (s.lk _ (xb6.1 (zei.1 hln k hm))).1) hok.2
  refine ⟨v,rfl,zr9 ⟨_,s'.put (hp.d _ rfl) hres fun k hk=> ?_⟩⟩;cases re with
  | val t=>cases hk
  | own p=>
   obtain ⟨j,hj,rfl⟩:=VP.ren_supp1 p k hk;have hm:=xk1 hok.1.2 j hj;rw [zbo,zbo] at hm;rcases hm with hm | hm | hm
   ·rw [xb6.2 (zdd hm)];rfl
   ·rw [hps j hm,Bool.or_true]
   ·obtain ⟨x,hx,rfl⟩:=zcp.1 hm;rw [(s.key _ _ (hH' x hx)).1,Bool.or_true]
end
theorem qa9 {P:Program} {c:Base} {g:Slots} {h:Keys} {al:Names} {Q:Exit->Act->World->Prop} {x:Code} {k q T es es0 off len:Nat} {agg:Bool} {ts:List Ent} {y:HEnt} (k' i0:Nat) (hq:h q=some ⟨T,es,agg,ts⟩) (hi:ts[i0]? =some (.own (.sl k es0 off len))) (hk:h k=some y) (hne:q≠k) (hk':al k'=false)
  (H:wc P c x Q g (upd (upd (upd h k none) k' (some y)) q (some ⟨T,es,agg,ts.set i0 (.own (.sl k' es0 off len))⟩)) (fun j=>Nat.beq j k' || al j)):wc P c x Q g h al:=fun a w hst=>by
 obtain ⟨η,s⟩:=hst;have s2:=s.rename hk hk';have hk1:k≠k':=fun e=>by have:=(s.key k _ hk).1;rw [e,hk'] at this;cases this
 have hq1:q≠k':=fun e=>by have:=(s.key q _ hq).1;rw [e,hk'] at this;cases this
 obtain ⟨hb,hc⟩:=η.set_other (k:=k') (j:=k) (η.b k) (η.c k) hk1;have hq2:upd (upd h k none) k' (some y) q=some ⟨T,es,agg,ts⟩:=by rw [xa4 _ _ _ hq1,xa4 _ _ _ hne];exact hq
 have hilt:i0 < ts.length:=(zbn.1 hi).1;refine H a w ⟨_,s2.rekey hq2 (by simp) (fun j hj=> ?_) fun cs i e' _ hi'=> ?_⟩
 ·obtain ⟨e,he,hj⟩:=zbz.1 hj;rcases zgr he with he | rfl
  ·exact (s2.key q _ hq2).2.1 j (zbz.2 ⟨e,he,hj⟩)
  ·simp only [Ent.supp,VP.supp,zbj] at hj;subst hj;simp
 ·rw [zgf] at hi';by_cases hii:i0=i
  ·subst hii;rw [if_pos rfl,if_pos hilt] at hi';cases hi';refine ⟨_,hi,fun ⟨A,e1,e2,e3⟩=>⟨A,?_,?_,?_⟩⟩
   ·rw [hc] at e1;rw [Env.set_c];exact e1
   ·rw [hc] at e2;rw [Env.set_c];exact e2
   ·rw [hb,hc] at e3;rw [Env.set_c,Env.set_b];exact e3
  ·rw [if_neg hii] at hi';exact ⟨e',hi',id⟩
section
variable {P:Program} {c:Base} {d ty:Nat} {pos:String} {af:Array Edge} {gd:Option (Nat×Bool)}
theorem yn1 {T E by_ k k2 k' n:Nat} {z:Value} {x y:Operand} {ts ts':List Ent} {e:Ent} {T0 T2:Nat} [he:ShapeE e 1 false] (sl:P.underlying T=some (.slice E)) (el:ElI P E 1 by_ false z) (hz:Flat 1 false z) (hT:T0=E)
  (hne:Nat.beq k k2=false) (hn:ts.length=n) (hb:(n+1)*by_<=140737488355328) (h63:n+1<=9223372036854775807) (hts:ts++[e]=ts'):
  Does P c ⟨some d,.call {callee:= .builtin .append,args:= #[x,y],argTypes:= #[T,T]},ty,pos,af,gd⟩ ⟨[(x,.own (.sl k 1 0 n)),(y,.own (.sl k2 1 0 1))],[(k,⟨T0,1,false,ts⟩),(k2,⟨T2,1,false,[e]⟩)],some (d,some (.own (.sl k' 1 0 (n+1)))),[(k,none),(k',some ⟨T0,1,false,ts'⟩)],[k']⟩:=by
 intro g h al a w hp ⟨η,s⟩;subst hts hT hn;obtain ⟨hx,hxs⟩:=xa0 s hp.rd.1;obtain ⟨A,hA,hcap,hadr⟩:=hx;simp only [Nat.sub_zero,zcm,zdz] at hA hcap hadr;obtain ⟨hy,hys⟩:=xa0 s hp.rd.2.1;obtain ⟨A2,hA2,hcap2,hadr2⟩:=hy;simp only [Nat.sub_zero,zcm,zdz] at hA2 hcap2 hadr2;have hA:a.eval x= .slice A ts.length (η.c k):=hA;have hy:a.eval y= .slice A2 1 (η.c k2):=hA2;obtain ⟨i,hi,hsz,hby,hz'⟩:=el.parts;obtain ⟨k1,k2',⟨k3,k4,k5,k6,k7⟩,k8⟩:=s.key k _ hp.kr.1;obtain ⟨j1,j2,⟨j3,j4,j5,j6,j7⟩,j8⟩:=s.key k2 _ hp.kr.2.1;simp only at k3 k4 k5 k6 k7 j3 j4 j5 j6 j7;obtain ⟨cs2,n1,n2,n3⟩:=j7 (by omega);have hev:=n3 0 e rfl;have hone1:one (cs2.getD 0 undef)=true:=by
  have:=he.flat hev;have h2:=(this.2.2.2 rfl).1;simpa [pick] using h2
 have hcs2:0 < cs2.size:=by rw [n2];omega
 have hns:(cs2.extract 0 (0+1*1)).size=1*1:=by simp;omega
 have hsrc: ∀w':World,w'.heap=w.heap->(Builtin.firstCells 1 1 (.slice A2 1 (η.c k2))).run P w'= .ok (cs2.extract 0 (0+1*1)) w':=fun w' hw'=>by
  rw [hadr2 (by omega)];exact yi3 (by rw [hw'];exact n1) (by omega)
 have hone: ∀v∈(cs2.extract 0 (0+1*1)).toList,one v=true:=fun v hv=>by
  obtain ⟨j,hj⟩:=zep hv;rw [zfw,zcs] at hj;split at hj
  ·have hj0:j=0:=by omega
   subst hj0;rw [zcm] at hj;simpa [Array.getD_eq_getD_getElem?,hj] using hone1
  ·cases hj
 have hnp:pick false 1 (cs2.extract 0 (0+1*1)) 0=pick false 1 cs2 0:=by
  simp [pick,Array.getD_eq_getD_getElem?,Array.getElem?_extract,hcs2];rw [if_pos (by omega)];rfl
 have hexec: ∀v w',(Builtin.append_ #[T,T] ty #[.slice A ts.length (η.c k),.slice A2 1 (η.c k2)]).run P w= .ok v w'->
   (execOp a.eval ⟨some d,.call {callee:= .builtin .append,args:= #[x,y],argTypes:= #[T,T]},ty,pos,af,gd⟩).run P w= .ok (.value v) w':=fun v w' hr=>by
  simp only [execOp,resolve,invoke,builtin,zcu,zdu,zfr,hA,hy,zbv,zbw,zbm,hr]
 have hsupp: ∀j∈HEnt.supp ⟨T0,1,false,ts++[e]⟩,al j=true:=fun j hj=>by
  simp only [HEnt.supp,zeu,zbo] at hj;rcases hj with hj | hj
  ·exact k2' j hj
  ·exact j2 j hj
 have hlk: ∀(i:Nat) (e':Ent),(ts++[e])[i]? =some e'->(ts[i]? =some e'/\i < ts.length)∨(i=ts.length/\e'=e):=fun i e' he'=>by
  rcases zcx i ts.length with hlt | hge
  ·rw [zdo hlt] at he';exact .inl ⟨he',hlt⟩
  ·rw [zeg hge] at he';have:=(zbn.1 he').1;simp at this;have h0:i - ts.length=0:=by omega
   rw [h0] at he';cases he';exact .inr ⟨by omega,rfl⟩
 have hcs: ∃cs:Array Value,(0 < η.c k->A=some ⟨η.b k,0,none⟩/\w.heap[η.b k]? =some (.cells cs T0 (0,0))/\cs.size=η.c k*1)/\(0 < η.c k-> ∀(i:Nat) (e:Ent),ts[i]? =some e->e.sat (c.dom h η) w η (pick false 1 cs (i*1))):=by
  rcases zcf (η.c k) with hc | hc
  ·exact ⟨#[],fun h=>by omega,fun h=>by omega⟩
  ·obtain ⟨cs,m1,m2,m3⟩:=k7 hc;exact ⟨cs,fun _=>⟨hadr hc,m1,m2⟩,fun _=>m3⟩
 obtain ⟨cs,hrow,m3⟩:=hcs;rcases yh6 (P:=P) (ty:=ty) (A:=A) (n:=ts.length) (cap:=η.c k) (A2:=A2) (c2:=η.c k2) (w:=w) (b:=η.b k) sl hi hsz hby hz' hz.1 (by decide) k3 cs hrow (cs2.extract 0 (0+1*1)) hns hsrc hone h63 hb with ⟨hfit,w',hr,hw,_⟩ | ⟨hgt,w',cap',rest',hr,hle,hmax,hrest,hheap,hos,htape,hout,hold⟩
 ·have hc:0 < η.c k:=by omega
  obtain ⟨hAv,m1,m2⟩:=hrow hc;obtain ⟨q1,q2,q3,q4,q5,q6⟩:=hw hc;refine xe6 (hexec _ _ hr) ?_;have hnl:(cs2.extract 0 (0+1*1)).toList.length=1:=by simpa using hns
  have s1:=s.write (w':=w') k hp.kr.1 ⟨T0,1,false,ts++[e]⟩ (putAt cs (ts.length*1) (cs2.extract 0 (0+1*1)).toList) (by rw [xd5];exact m2) (by simpa using hfit) Nat.one_pos (fun _=>rfl) hsupp
   (fun j e' hj=>by
    rcases hlk j e' hj with ⟨he',hjl⟩ | ⟨hjt,he'⟩
    ·simp only [];rw [xh8 (by omega) (fun _=>rfl) (.inl (by omega))];exact m3 hc j e' he'
    ·subst hjt he';have hpk:pick false 1 (putAt cs (ts.length*1) (cs2.extract 0 (0+1*1)).toList) (ts.length*1)=pick false 1 cs2 0:=by
      rw [<-hnp];simp only [pick,zen];rw [zbk,zbk,xk4 _ _ _ _ (by omega),if_pos (by omega),zfw,Nat.sub_self]
     simp only [];rw [hpk];exact hev)
   hc q1 q2 q3 q4 q5 q6 rfl
  have s2:=s1.rename (xa9 _ _ _) hp.nk.1;have hcomm:upd (upd (upd h k (some ⟨T0,1,false,ts++[e]⟩)) k none) k' (some ⟨T0,1,false,ts++[e]⟩)=upd (upd h k none) k' (some ⟨T0,1,false,ts++[e]⟩):=by
   funext j;by_cases hj:j=k'
   ·subst hj;simp [xa9]
   ·rw [xa4 _ _ _ hj,xa4 _ _ _ hj];by_cases hj2:j=k
    ·subst hj2;simp [xa9]
    ·rw [xa4 _ _ _ hj2,xa4 _ _ _ hj2,xa4 _ _ _ hj2]
  rw [hcomm] at s2;refine ⟨_,s2.put (hp.d _ rfl) (e:= .own (.sl k' 1 0 (ts.length+1))) ⟨A,?_,?_,?_⟩ ?_⟩
  ·simp [Env.set_c]
  ·simpa [Env.set_c] using hfit
  ·intro _;rw [hAv];simp [Env.set_b]
  ·intro j hj;simp only [Ent.supp,VP.supp,zbj] at hj;subst hj;simp
 ·refine xe6 (hexec _ _ hr) ?_;have hext:Ext w w':=⟨hos,htape,hout,by rw [hheap];simp,fun b hb=>by rw [hheap,zgg,if_neg (by omega)]⟩
  have hpos': ∀(j:Nat) (e:Ent),ts[j]? =some e->0 < η.c k:=fun j e he=>by
   have:=(zbn.1 he).1;omega
  have hdk:Keep (c.dom h η) (c.dom (upd h k none) η) w w:=Keep.drop k;have s2:=(s.drop k).new' k' hp.nk.1 ⟨T0,1,false,ts++[e]⟩ cap' w.heap.size (by simpa using hle) Nat.one_pos (fun _=>rfl) hmax hsupp hext (fun _=>⟨zbs _,cs.extract 0 (ts.length*1)++cs2.extract 0 (0+1*1)++rest',by rw [hheap];simp,by
    simp only [zgw,hns,hrest,hold];omega,fun j e' hj=>by
    rcases hlk j e' hj with ⟨he',hjl⟩ | ⟨hjt,he'⟩
    ·simp only [];rw [Array.append_assoc,xp7 (by rw [hold];omega) (fun _=>rfl),yi2 (by omega) (by simp at hold;omega) (fun _=>rfl)];exact Ent.sat_go (m3 (hpos' j e' he') j e' he') hdk fun _ _=>⟨rfl,rfl⟩
    ·subst hjt he';have e2: ∀(A0 B0 C0:Array Value),A0.size=ts.length*1->B0.size=1->pick false 1 (A0++(B0++C0)) (ts.length*1)=pick false 1 B0 0:=fun A0 B0 C0 h1 h2=>by
      rw [<-h1,show A0.size=A0.size+0 from rfl,ye2 (by simp only [zgw];omega) (fun _=>rfl),xp7 (by omega) (fun _=>rfl)]
     simp only [];rw [Array.append_assoc,e2 _ _ _ hold hns,hnp];exact Ent.sat_go hev hdk fun _ _=>⟨rfl,rfl⟩⟩)
  refine ⟨_,s2.put (hp.d _ rfl) (e:= .own (.sl k' 1 0 (ts.length+1))) ⟨some ⟨w.heap.size,0,none⟩,?_,?_,?_⟩ ?_⟩
  ·simp [Env.set_c]
  ·simpa [Env.set_c] using hle
  ·intro _;simp [Env.set_b]
  ·intro j hj;simp only [Ent.supp,VP.supp,zbj] at hj;subst hj;simp
end
def selS {α:Type}:List α->α->Nat->α
 | [],z,_=>z
 | x::_,_,0=>x
 | _::r,z,k+1=>selS r z k
section
variable {P:Program} {c:Base} {d ty:Nat} {pos:String} {af:Array Edge} {gd:Option (Nat×Bool)}
theorem d_boxC {T n k:Nat} {x:Operand} {cs:Array Value} (zs:List Value) (hc:cs.toList=zs) (hn:zs.length=n) (h63:Nat.ble n 9223372036854775807=true) {ts:List Ent} (hts:zs.map (fun v=>Ent.val (tE v))=ts):
  Does P c ⟨some d,.box T x,ty,pos,af,gd⟩ ⟨[(x,.val (tE (.agg cs)))],[],some (d,some (.own (.ptr k 0))),[(k,some ⟨T,1,false,ts⟩)],[k]⟩:=by
 intro g h al a w hp ⟨η,s⟩;subst hts hc;have hx:a.eval x= .agg cs:=(xa0 s hp.rd.1).1;have hnew:=s.new k hp.nk.1 ⟨T,1,false,cs.toList.map (fun v=>Ent.val (tE v))⟩ cs n (by rw [<-hn];simp) (by simp [<-hn]) Nat.one_pos (fun _=>rfl) (zdq h63)
  (fun j hj=>by
   simp only [HEnt.supp,zbz,zcp] at hj;obtain ⟨e,⟨v,_,rfl⟩,hj⟩:=hj;cases hj) (fun i e' hi=>by
   simp only [zbu,zdn] at hi;obtain ⟨v,hv,rfl⟩:=hi;show pick false 1 cs (i*1)=v;have hv':cs[i]? =some v:=by simpa using hv
   simp [pick,hv'])
 have hcc:(a.eval x).cells=cs:=by rw [hx];rfl
 have hr:(execOp a.eval ⟨some d,.box T x,ty,pos,af,gd⟩).run P w= .ok (.value (.pointer (some ⟨w.heap.size,0,none⟩))) {w with heap:=w.heap.push (.cells (a.eval x).cells T)}:=by
  simp [execOp,Instr.box,newVar,newRow,newObj,Sem.run,go_sem]
 rw [hcc] at hr;refine xe6 hr ?_;refine ⟨_,hnew.put (hp.d _ rfl) ?_ ?_⟩
 ·show _=_;simp [Env.set_b]
 ·intro j hj;simp only [Ent.supp,VP.supp,zbj] at hj;subst hj;simp
end
section
variable {P:Program} {c:Base} {g:Slots} {h:Keys} {al:Names} {Q:Exit->Act->World->Prop}
theorem wl_imp {A:Array Oper} {rest:List Oper} {t:Nat} {e e':Ent} (hg:g t=some e) (hi:Imp e e') (hs: ∀k∈e'.supp,k∈e.supp) (H:wl P c A Q rest (upd g t (some e')) h al):wl P c A Q rest g h al:=fun a w ⟨η,s⟩=>
 H a w ⟨η,⟨s.tn,s.df,fun q y hy=>by
  by_cases hq:q=t
  ·subst hq;rw [xa9] at hy;cases hy;obtain ⟨h1,h2,h3⟩:=s.slot q e hg;exact ⟨h1,fun k hk=>h2 k (hs k hk),hi _ _ _ _ h3⟩
  ·rw [xa4 _ _ _ hq] at hy;exact s.slot q y hy,s.key,s.inj,s.fr,s.lk,s.pin,s.vol,s.yal,s.jj,s.lbl⟩⟩
end
end An
namespace An.S
open Go Go.Proofs An Tryz
instance ti133:TyI Tryz.prog 133 1 false:=⟨by kernel_rfl,by kernel_rfl⟩
instance ti166:TyI Tryz.prog 166 1 false:=⟨by kernel_rfl,by kernel_rfl⟩
instance fo186_0:FoI Tryz.prog 186 0 0:=⟨by kernel_rfl⟩
instance fo186_8:FoI Tryz.prog 186 8 8:=⟨by kernel_rfl⟩
instance fi253:FnI Tryz.prog 253:=⟨_,func253,by kernel_rfl,rfl⟩
instance fi277:FnI Tryz.prog 277:=⟨_,func277,by kernel_rfl,rfl⟩
instance fi324:FnI Tryz.prog 324:=⟨_,func324,by kernel_rfl,rfl⟩
instance fi330:FnI Tryz.prog 330:=⟨_,func330,by kernel_rfl,rfl⟩
instance fi354:FnI Tryz.prog 354:=⟨_,func354,by kernel_rfl,rfl⟩
theorem zf37:Flat 1 false (.slice none 0 0):=xd3 rfl
abbrev nlF:Ent:= .val (tE (.slice none 0 0))
abbrev bgT (e f:Ent):HEnt:=⟨186,1,false,[e,nlF,nlF,nlF,nlF,nlF,nlF,nlF,f,nlF,nlF,nlF,nlF,nlF,nlF,nlF,nlF,nlF,nlF,nlF,nlF,nlF,nlF]⟩
theorem c_putL (us ws:List Hd) (u:Hd) (n m:Nat) (hn:us.length=n) (hw:ws=us++[u]) (hl:n<=100000):
  CtG Tryz.prog 354 [(30,(bgT (.own (.sl 31 1 0 n)) (.own (.sl 32 1 0 m)))),(31,⟨37,1,false,rV tH us⟩)] [.own (.ptr 30 0),.val (tH u)] (.val (tT [])) [(30,(bgT (.own (.sl 11 1 0 (n+1))) (.own (.sl 32 1 0 m)))),(11,⟨37,1,false,rV tH ws⟩)] [11]:=by
 refine CtG.intro [30,31,32] func354 rfl ntmps354 rfl rfl ⟨⟨rfl,(SupX.lit rfl)⟩,⟨rfl,xa5⟩,trivial⟩ ?_;intro w F η;refine A5 ?_;refine RE (xc1 (0) ti166 rfl rfl) qA qA trivial ?_;refine A1 ?_;refine R1 (xb5 (n:=1) (f:=tH) [u] zho el37 zf37 rfl (fun _=>inferInstance) rfl rfl rfl) rfl (RE (xb3 (k:=31) (k':=11) (f:=tH) (ys:=[u]) (ts':=rV tH ws) zho el37 zf37 rfl rfl (fun _=>inferInstance) (xd2.trans hn) (by simp;omega) (by simp;omega) (by simp [rV,hw]) (n':=n+1) rfl) qB qA qA ?_);refine A2 ?_;refine RE (xb8 (es:=1) (agg:=false) (e:= .own (.sl 11 1 0 (n+1))) (0) ti166 rfl rfl rfl) qB qA trivial ?_;refine A1 ?_;exact xj5 LentC.mk' rfl (.inr rfl) qB ⟨⟨rfl,(SupX.lit rfl)⟩,⟨rfl,xa5⟩,trivial⟩ rfl
theorem jh4 (us ws:List Hd) (a:Bool) (u:Hd) (n m:Nat) (hn:us.length=n) (hw:ws=us++[u]) (hl:n<=100000):
  CtG Tryz.prog 324 [(30,(bgT (.own (.sl 31 1 0 n)) (.own (.sl 32 1 0 m)))),(31,⟨37,1,false,rV tH us⟩)] [.own (.ptr 30 0),.val (tS [⟨1,false,tB a⟩,⟨1,false,tH u⟩])] (.val (tT [])) [(30,(bgT (.own (.sl 11 1 0 (n+1))) (.own (.sl 32 1 0 m)))),(11,⟨37,1,false,rV tH ws⟩)] [11]:=by
 refine CtG.intro [30,31,32] func324 rfl ntmps324 rfl rfl ⟨⟨rfl,(SupX.lit rfl)⟩,⟨rfl,xa5⟩,trivial⟩ ?_;intro w F η;refine A9 ?_;refine RE (yd2 (zaa 32 32 (zaa 30 30 (zaa 11 11 (zab 31 31)))) (c_putL us ws u n m hn hw hl) fi354 rfl (krC (ρ:=(zaa 32 32 (zaa 30 30 (zaa 11 11 (zab 31 31))))) (k:=30) rfl (krC (ρ:=(zaa 32 32 (zaa 30 30 (zaa 11 11 (zab 31 31))))) (k:=31) xa6 (krN (ρ:=(zaa 32 32 (zaa 30 30 (zaa 11 11 (zab 31 31)))))))) (krC (ρ:=(zaa 32 32 (zaa 30 30 (zaa 11 11 (zab 31 31))))) (k:=30) rfl (krC (ρ:=(zaa 32 32 (zaa 30 30 (zaa 11 11 (zab 31 31))))) (k:=11) xa6 (krN (ρ:=(zaa 32 32 (zaa 30 30 (zaa 11 11 (zab 31 31)))))))) (K:=[]) [32] ⟨⟨rfl,SupX.lit rfl⟩,⟨rfl,xa5⟩,trivial⟩ rfl rfl) qB qB qA ?_;refine A1 ?_;exact xj5 LentC.mk' rfl (.inr rfl) qB ⟨⟨rfl,(SupX.lit rfl)⟩,⟨rfl,xa5⟩,trivial⟩ rfl
theorem c_oneF (us ws:List Hd) (a b:Bool) (u v:Hd) (n m:Nat) (hn:us.length=n) (hw:ws=us++[u,v]) (hl:n<=90000):
  CtG Tryz.prog 253 [(30,(bgT (.own (.sl 31 1 0 n)) (.own (.sl 32 1 0 m)))),(31,⟨37,1,false,rV tH us⟩)] [.own (.ptr 30 0),.val (tS [⟨2,true,tS [⟨1,false,tB a⟩,⟨1,false,tH u⟩]⟩,⟨2,true,tS [⟨1,false,tB b⟩,⟨1,false,tH v⟩]⟩])] (.val (tT [])) [(30,(bgT (.own (.sl 11 1 0 (n+2))) (.own (.sl 32 1 0 m)))),(11,⟨37,1,false,rV tH ws⟩)] [11]:=by
 refine CtG.intro [30,31,32] func253 rfl ntmps253 rfl rfl ⟨⟨rfl,(SupX.lit rfl)⟩,⟨rfl,xa5⟩,trivial⟩ ?_;intro w F η;refine A10 ?_;refine RE (yd2 (zaa 32 32 (zaa 30 30 (zaa 11 7 (zab 31 31)))) (jh4 us (us++[u]) a u n m hn rfl (by omega)) fi324 rfl (krC (ρ:=(zaa 32 32 (zaa 30 30 (zaa 11 7 (zab 31 31))))) (k:=30) rfl (krC (ρ:=(zaa 32 32 (zaa 30 30 (zaa 11 7 (zab 31 31))))) (k:=31) xa6 (krN (ρ:=(zaa 32 32 (zaa 30 30 (zaa 11 7 (zab 31 31)))))))) (krC (ρ:=(zaa 32 32 (zaa 30 30 (zaa 11 7 (zab 31 31))))) (k:=30) rfl (krC (ρ:=(zaa 32 32 (zaa 30 30 (zaa 11 7 (zab 31 31))))) (k:=11) xa6 (krN (ρ:=(zaa 32 32 (zaa 30 30 (zaa 11 7 (zab 31 31)))))))) (K:=[]) [32] ⟨⟨rfl,SupX.lit rfl⟩,⟨rfl,xa5⟩,trivial⟩ rfl rfl) qB qB qA ?_;refine A6 ?_;refine RE (yd2 (zaa 32 32 (zaa 30 30 (zaa 11 11 (zab 31 7)))) (jh4 (us++[u]) ws b v (n+1) m (by simp [hn]) (by simp [hw]) (by omega)) fi324 rfl (krC (ρ:=(zaa 32 32 (zaa 30 30 (zaa 11 11 (zab 31 7))))) (k:=30) rfl (krC (ρ:=(zaa 32 32 (zaa 30 30 (zaa 11 11 (zab 31 7))))) (k:=31) xa6 (krN (ρ:=(zaa 32 32 (zaa 30 30 (zaa 11 11 (zab 31 7)))))))) (krC (ρ:=(zaa 32 32 (zaa 30 30 (zaa 11 11 (zab 31 7))))) (k:=30) rfl (krC (ρ:=(zaa 32 32 (zaa 30 30 (zaa 11 11 (zab 31 7))))) (k:=11) xa6 (krN (ρ:=(zaa 32 32 (zaa 30 30 (zaa 11 11 (zab 31 7)))))))) (K:=[]) [32] ⟨⟨rfl,SupX.lit rfl⟩,⟨rfl,xa5⟩,trivial⟩ rfl rfl) qB qB qA ?_;refine A1 ?_;exact xj5 LentC.mk' rfl (.inr rfl) qB ⟨⟨rfl,(SupX.lit rfl)⟩,⟨rfl,xa5⟩,trivial⟩ rfl
theorem c_oneV (us ws:List Hd) (a b:Bool) (u v:Hd) (k:Nat) (i:Int) (n m:Nat) (hn:us.length=n) (hw:ws=us++[u,v]) (hl:n<=90000):
  CtG Tryz.prog 330 [(30,(bgT (.own (.sl 31 1 0 n)) (.own (.sl 32 1 0 m)))),(31,⟨37,1,false,rV tH us⟩)] [.own (.ptr 30 0),.val (tS [⟨1,false,tE (.int .u8 (k:Int))⟩,⟨4,true,tS [⟨2,true,tS [⟨1,false,tB a⟩,⟨1,false,tH u⟩]⟩,⟨2,true,tS [⟨1,false,tB b⟩,⟨1,false,tH v⟩]⟩]⟩,⟨1,false,tI i⟩])] (.val (tT [])) [(30,(bgT (.own (.sl 11 1 0 (n+2))) (.own (.sl 32 1 0 m)))),(11,⟨37,1,false,rV tH ws⟩)] [11]:=by
 refine CtG.intro [30,31,32] func330 rfl ntmps330 rfl rfl ⟨⟨rfl,(SupX.lit rfl)⟩,⟨rfl,xa5⟩,trivial⟩ ?_;intro w F η;refine A9 ?_;refine RE (yd2 (zaa 32 32 (zaa 30 30 (zaa 11 11 (zab 31 31)))) (c_oneF us ws a b u v n m hn hw hl) fi253 rfl (krC (ρ:=(zaa 32 32 (zaa 30 30 (zaa 11 11 (zab 31 31))))) (k:=30) rfl (krC (ρ:=(zaa 32 32 (zaa 30 30 (zaa 11 11 (zab 31 31))))) (k:=31) xa6 (krN (ρ:=(zaa 32 32 (zaa 30 30 (zaa 11 11 (zab 31 31)))))))) (krC (ρ:=(zaa 32 32 (zaa 30 30 (zaa 11 11 (zab 31 31))))) (k:=30) rfl (krC (ρ:=(zaa 32 32 (zaa 30 30 (zaa 11 11 (zab 31 31))))) (k:=11) xa6 (krN (ρ:=(zaa 32 32 (zaa 30 30 (zaa 11 11 (zab 31 31)))))))) (K:=[]) [32] ⟨⟨rfl,SupX.lit rfl⟩,⟨rfl,xa5⟩,trivial⟩ rfl rfl) qB qB qA ?_;refine A1 ?_;exact xj5 LentC.mk' rfl (.inr rfl) qB ⟨⟨rfl,(SupX.lit rfl)⟩,⟨rfl,xa5⟩,trivial⟩ rfl
theorem q9 (us ws:List Hd) (z:Ze) (n m:Nat) (hn:us.length=n) (hw:ws=us++[z.n,z.d]) (hl:n<=90000):
  CtG Tryz.prog 277 [(30,(bgT (.own (.sl 31 1 0 n)) (.own (.sl 32 1 0 m)))),(31,⟨37,1,false,rV tH us⟩)] [.own (.ptr 30 0),.val (tZe z)] (.val (tT [])) [(30,(bgT (.own (.sl 11 1 0 (n+2))) (.own (.sl 32 1 0 m)))),(11,⟨37,1,false,rV tH ws⟩)] [11]:=by
 refine CtG.intro [30,31,32] func277 rfl ntmps277 rfl rfl ⟨⟨rfl,(SupX.lit rfl)⟩,⟨rfl,xa5⟩,trivial⟩ ?_;intro w F η;refine A9 ?_;refine RE (yd2 (zaa 32 32 (zaa 30 30 (zaa 11 11 (zab 31 31)))) (c_oneV us ws z.ns z.ds z.n z.d z.k z.i n m hn hw hl) fi330 rfl (krC (ρ:=(zaa 32 32 (zaa 30 30 (zaa 11 11 (zab 31 31))))) (k:=30) rfl (krC (ρ:=(zaa 32 32 (zaa 30 30 (zaa 11 11 (zab 31 31))))) (k:=31) xa6 (krN (ρ:=(zaa 32 32 (zaa 30 30 (zaa 11 11 (zab 31 31)))))))) (krC (ρ:=(zaa 32 32 (zaa 30 30 (zaa 11 11 (zab 31 31))))) (k:=30) rfl (krC (ρ:=(zaa 32 32 (zaa 30 30 (zaa 11 11 (zab 31 31))))) (k:=11) xa6 (krN (ρ:=(zaa 32 32 (zaa 30 30 (zaa 11 11 (zab 31 31)))))))) (K:=[]) [32] ⟨⟨rfl,SupX.lit rfl⟩,⟨rfl,xa5⟩,trivial⟩ rfl rfl) qB qB qA ?_;refine A1 ?_;exact xj5 LentC.mk' rfl (.inr rfl) qB ⟨⟨rfl,(SupX.lit rfl)⟩,⟨rfl,xa5⟩,trivial⟩ rfl
def hdz (zs:List Ze):List Hd:=zs.flatMap fun z=>[z.n,z.d]
theorem yc1: ∀{zs:List Ze},(hdz zs).length=2*zs.length
 | []=>rfl
 | z::r=>by rw [hdz,zex,zbp,<-hdz,yc1 (zs:=r)];simp;omega
theorem yw0 {zs:List Ze} {i:Nat} (hi:i < zs.length):hdz (zs.take (i+1))=hdz (zs.take i)++[(zs.getD i ze0).n,(zs.getD i ze0).d]:=by
 rw [zby hi,hdz,zeu,zbh,zbi hi];simp [hdz]
theorem yw9 {zs:List Ze} {i:Nat} (hi:i<=zs.length):(hdz (zs.take i)).length=2*i:=by rw [yc1,zde];omega
theorem wa3 (us ws:List Hd) (a:List Ze) (n:Nat) (hn:us.length=n) (hw:ws=us++hdz a) (hl:n<=50000) (hz:a.length<=10000):
  CtG Tryz.prog 197 [(30,(bgT (.own (.sl 31 1 0 n)) (.own (.sl 33 1 0 0)))),(31,⟨37,1,false,rV tH us⟩),(33,⟨51,1,false,[]⟩),(100,⟨59,8,true,rV tZe a⟩)] [.own (.ptr 30 0),.own (.sl 100 8 0 a.length)] (.val (tT [])) [(30,(bgT (.own (.sl 11 1 0 (n+2*a.length))) (.own (.sl 12 1 0 1)))),(11,⟨37,1,false,rV tH ws⟩),(12,⟨51,1,false,[.own (.sl 100 8 0 a.length)]⟩),(100,⟨59,8,true,rV tZe a⟩)] [11,12]:=by
 refine CtG.intro [30,31,33,100,101,102] func197 rfl ntmps197 rfl rfl ⟨⟨rfl,(SupX.lit rfl)⟩,⟨rfl,xa5⟩,⟨rfl,(SupX.lit rfl)⟩,⟨rfl,xa5⟩,trivial⟩ ?_;intro w F η;refine A6 ?_;refine RE (xc1 (8) ti133 rfl rfl) qA qA trivial ?_;refine A1 ?_;refine RE (ya6 (k:=10) (ents:=[.own (.sl 100 8 0 a.length)]) zhn el51 zf51 rfl (by intro e he;rw [zbj.1 he];infer_instance) rfl rfl rfl) ⟨rfl,trivial⟩ trivial ⟨rfl,trivial⟩ (RE (yn1 (k:=33) (k2:=10) (k':=12) (n:=0) (e:= .own (.sl 100 8 0 a.length)) zhn el51 zf51 rfl rfl rfl (by decide) (by decide) rfl) ⟨rfl,rfl,trivial⟩ ⟨rfl,rfl,trivial⟩ ⟨rfl,trivial⟩ ?_);refine A2 ?_;refine RE (xb8 (es:=1) (agg:=false) (e:= .own (.sl 12 1 0 1)) (8) ti133 rfl rfl rfl) qB qA trivial ?_;refine A3 ?_;refine qa9 (k:=31) (q:=30) 11 0 rfl rfl rfl (by decide) rfl ?_;refine A5 ?_;refine cL (fun (i:Nat)=>i<=a.length) (fun (i:Nat)=>uV (uO (uO uN 0 (.ptr 30 0)) 1 (.sl 100 8 0 a.length)) 4 (tI i)) (fun (i:Nat)=>uK (uK (uK (upd uN 30 (some ((bgT (.own (.sl 11 1 0 (n+2*i))) (.own (.sl 12 1 0 1)))))) 11 37 1 false (rV tH (us++hdz (a.take i)))) 12 51 1 false [.own (.sl 100 8 0 a.length)]) 100 59 8 true (rV tZe a)) [30,11,12,100,31,33,100,101,102] (fun (i:Nat)=>a.length - i) (0) (zbq _) (hh:=(SubK.cons rfl (SubK.cons rfl ((zaq rfl (zat (by simp [hdz]))) (SubK.cons rfl zax))))) ?_;intro i hI;refine A9 ?_;refine x6 rfl (fun h477=> ?_) (fun h477=> ?_)
 ·
  refine A8 ?_;refine R2 (zag sl51 rfl) rfl rfl (RE (xc1 (i) ti59 (xc4 (d:=ze0) (by omega)) (by omega)) qA qA trivial (RE (yd2 (zaa 32 12 (zaa 30 30 (zaa 11 26 (zab 31 11)))) (q9 (us++hdz (a.take i)) (us++hdz (a.take (i+1))) (a.getD i ze0) (n+2*i) 1 (by rw [zbp,yw9 (by omega),hn]) (by rw [yw0 (by omega),zfj]) (by omega)) fi277 rfl (krC (ρ:=(zaa 32 12 (zaa 30 30 (zaa 11 26 (zab 31 11))))) (k:=30) rfl (krC (ρ:=(zaa 32 12 (zaa 30 30 (zaa 11 26 (zab 31 11))))) (k:=31) xa6 (krN (ρ:=(zaa 32 12 (zaa 30 30 (zaa 11 26 (zab 31 11)))))))) (krC (ρ:=(zaa 32 12 (zaa 30 30 (zaa 11 26 (zab 31 11))))) (k:=30) rfl (krC (ρ:=(zaa 32 12 (zaa 30 30 (zaa 11 26 (zab 31 11))))) (k:=11) xa6 (krN (ρ:=(zaa 32 12 (zaa 30 30 (zaa 11 26 (zab 31 11)))))))) (K:=[(32,⟨51,1,false,[.own (.sl 100 8 0 a.length)]⟩)]) [] ⟨⟨rfl,SupX.lit rfl⟩,⟨rfl,xa5⟩,trivial⟩ rfl rfl) qB qC qA ?_));refine A8 ?_;exact xc6 (l:=[30,11,12,100,31,33,100,101,102]) (zab 11 26) (i+1) ⟨(by omega),(by omega)⟩ (zaf rfl (zas rfl (zas rfl zbd))) ((zbb rfl (zat xa6.symm)) ((zbb rfl (zat rfl)) ((zbb rfl (zat xa6.symm)) ((zbb rfl (zat rfl)) zbe)))) (zaj (zak rfl (zak rfl zar))) (zam rfl (supJ xa5) (zam rfl (supJL rfl) (zam rfl (supJ xa5) (zam rfl (supJL rfl) zaz)))) (lkOk rfl) rfl rfl (fun _ h=>by cases h)
 ·
  refine A4 ?_;have hil:i=a.length:=by omega
  subst hil;rw [zbx,<-hw];exact xj5 LentC.mk' rfl (.inr rfl) qD ⟨⟨rfl,(SupX.lit rfl)⟩,⟨rfl,xa5⟩,⟨rfl,(SupX.lit rfl)⟩,⟨rfl,xa5⟩,trivial⟩ rfl
theorem wc6 (us ws:List Hd) (a:List Ze) (b:List Ze) (n:Nat) (hn:us.length=n) (hw:ws=us++hdz b) (hl:n<=50000) (hz:b.length<=10000):
  CtG Tryz.prog 197 [(30,(bgT (.own (.sl 31 1 0 n)) (.own (.sl 33 1 0 1)))),(31,⟨37,1,false,rV tH us⟩),(33,⟨51,1,false,[.own (.sl 100 8 0 a.length)]⟩),(100,⟨59,8,true,rV tZe a⟩),(101,⟨59,8,true,rV tZe b⟩)] [.own (.ptr 30 0),.own (.sl 101 8 0 b.length)] (.val (tT [])) [(30,(bgT (.own (.sl 11 1 0 (n+2*b.length))) (.own (.sl 12 1 0 2)))),(11,⟨37,1,false,rV tH ws⟩),(12,⟨51,1,false,[.own (.sl 100 8 0 a.length),.own (.sl 101 8 0 b.length)]⟩),(100,⟨59,8,true,rV tZe a⟩),(101,⟨59,8,true,rV tZe b⟩)] [11,12]:=by
 refine CtG.intro [30,31,33,100,101,102] func197 rfl ntmps197 rfl rfl ⟨⟨rfl,(SupX.lit rfl)⟩,⟨rfl,xa5⟩,⟨rfl,(SupX.lit rfl)⟩,⟨rfl,xa5⟩,⟨rfl,xa5⟩,trivial⟩ ?_;intro w F η;refine A6 ?_;refine RE (xc1 (8) ti133 rfl rfl) qA qA trivial ?_;refine A1 ?_;refine RE (ya6 (k:=10) (ents:=[.own (.sl 101 8 0 b.length)]) zhn el51 zf51 rfl (by intro e he;rw [zbj.1 he];infer_instance) rfl rfl rfl) ⟨rfl,trivial⟩ trivial ⟨rfl,trivial⟩ (RE (yn1 (k:=33) (k2:=10) (k':=12) (n:=1) (e:= .own (.sl 101 8 0 b.length)) zhn el51 zf51 rfl rfl rfl (by decide) (by decide) rfl) ⟨rfl,rfl,trivial⟩ ⟨rfl,rfl,trivial⟩ ⟨rfl,trivial⟩ ?_);refine A2 ?_;refine RE (xb8 (es:=1) (agg:=false) (e:= .own (.sl 12 1 0 2)) (8) ti133 rfl rfl rfl) qB qA trivial ?_;refine A3 ?_;refine qa9 (k:=31) (q:=30) 11 0 rfl rfl rfl (by decide) rfl ?_;refine A5 ?_;refine cL (fun (i:Nat)=>i<=b.length) (fun (i:Nat)=>uV (uO (uO uN 0 (.ptr 30 0)) 1 (.sl 101 8 0 b.length)) 4 (tI i)) (fun (i:Nat)=>uK (uK (uK (uK (upd uN 30 (some ((bgT (.own (.sl 11 1 0 (n+2*i))) (.own (.sl 12 1 0 2)))))) 11 37 1 false (rV tH (us++hdz (b.take i)))) 12 51 1 false [.own (.sl 100 8 0 a.length),.own (.sl 101 8 0 b.length)]) 100 59 8 true (rV tZe a)) 101 59 8 true (rV tZe b)) [30,11,12,100,101,31,33,100,101,102] (fun (i:Nat)=>b.length - i) (0) (zbq _) (hh:=(SubK.cons rfl (SubK.cons rfl (SubK.cons rfl ((zaq rfl (zat (by simp [hdz]))) (SubK.cons rfl zax)))))) ?_;intro i hI;refine A9 ?_;refine x6 rfl (fun h477=> ?_) (fun h477=> ?_)
 ·
  refine A8 ?_;refine R2 (zag sl51 rfl) rfl rfl (RE (xc1 (i) ti59 (xc4 (d:=ze0) (by omega)) (by omega)) qA qA trivial (RE (yd2 (zaa 32 12 (zaa 30 30 (zaa 11 26 (zab 31 11)))) (q9 (us++hdz (b.take i)) (us++hdz (b.take (i+1))) (b.getD i ze0) (n+2*i) 2 (by rw [zbp,yw9 (by omega),hn]) (by rw [yw0 (by omega),zfj]) (by omega)) fi277 rfl (krC (ρ:=(zaa 32 12 (zaa 30 30 (zaa 11 26 (zab 31 11))))) (k:=30) rfl (krC (ρ:=(zaa 32 12 (zaa 30 30 (zaa 11 26 (zab 31 11))))) (k:=31) xa6 (krN (ρ:=(zaa 32 12 (zaa 30 30 (zaa 11 26 (zab 31 11)))))))) (krC (ρ:=(zaa 32 12 (zaa 30 30 (zaa 11 26 (zab 31 11))))) (k:=30) rfl (krC (ρ:=(zaa 32 12 (zaa 30 30 (zaa 11 26 (zab 31 11))))) (k:=11) xa6 (krN (ρ:=(zaa 32 12 (zaa 30 30 (zaa 11 26 (zab 31 11)))))))) (K:=[(32,⟨51,1,false,[.own (.sl 100 8 0 a.length),.own (.sl 101 8 0 b.length)]⟩)]) [] ⟨⟨rfl,SupX.lit rfl⟩,⟨rfl,xa5⟩,trivial⟩ rfl rfl) qB qC qA ?_));refine A8 ?_;exact xc6 (l:=[30,11,12,100,101,31,33,100,101,102]) (zab 11 26) (i+1) ⟨(by omega),(by omega)⟩ (zaf rfl (zas rfl (zas rfl zbd))) ((zbb rfl (zat xa6.symm)) ((zbb rfl (zat xa6.symm)) ((zbb rfl (zat rfl)) ((zbb rfl (zat xa6.symm)) ((zbb rfl (zat rfl)) zbe))))) (zaj (zak rfl (zak rfl zar))) (zam rfl (supJ xa5) (zam rfl (supJ xa5) (zam rfl (supJL rfl) (zam rfl (supJ xa5) (zam rfl (supJL rfl) zaz))))) (lkOk rfl) rfl rfl (fun _ h=>by cases h)
 ·
  refine A4 ?_;have hil:i=b.length:=by omega
  subst hil;rw [zbx,<-hw];exact xj5 LentC.mk' rfl (.inr rfl) ⟨rfl,rfl,rfl,rfl,rfl,trivial⟩ ⟨⟨rfl,(SupX.lit rfl)⟩,⟨rfl,xa5⟩,⟨rfl,(SupX.lit rfl)⟩,⟨rfl,xa5⟩,⟨rfl,xa5⟩,trivial⟩ rfl
theorem ju6 (us ws:List Hd) (a:List Ze) (b:List Ze) (c:List Ze) (n:Nat) (hn:us.length=n) (hw:ws=us++hdz c) (hl:n<=50000) (hz:c.length<=10000):
  CtG Tryz.prog 197 [(30,(bgT (.own (.sl 31 1 0 n)) (.own (.sl 33 1 0 2)))),(31,⟨37,1,false,rV tH us⟩),(33,⟨51,1,false,[.own (.sl 100 8 0 a.length),.own (.sl 101 8 0 b.length)]⟩),(100,⟨59,8,true,rV tZe a⟩),(101,⟨59,8,true,rV tZe b⟩),(102,⟨59,8,true,rV tZe c⟩)] [.own (.ptr 30 0),.own (.sl 102 8 0 c.length)] (.val (tT [])) [(30,(bgT (.own (.sl 11 1 0 (n+2*c.length))) (.own (.sl 12 1 0 3)))),(11,⟨37,1,false,rV tH ws⟩),(12,⟨51,1,false,[.own (.sl 100 8 0 a.length),.own (.sl 101 8 0 b.length),.own (.sl 102 8 0 c.length)]⟩),(100,⟨59,8,true,rV tZe a⟩),(101,⟨59,8,true,rV tZe b⟩),(102,⟨59,8,true,rV tZe c⟩)] [11,12]:=by
 refine CtG.intro [30,31,33,100,101,102] func197 rfl ntmps197 rfl rfl ⟨⟨rfl,(SupX.lit rfl)⟩,⟨rfl,xa5⟩,⟨rfl,(SupX.lit rfl)⟩,⟨rfl,xa5⟩,⟨rfl,xa5⟩,⟨rfl,xa5⟩,trivial⟩ ?_;intro w F η;refine A6 ?_;refine RE (xc1 (8) ti133 rfl rfl) qA qA trivial ?_;refine A1 ?_;refine RE (ya6 (k:=10) (ents:=[.own (.sl 102 8 0 c.length)]) zhn el51 zf51 rfl (by intro e he;rw [zbj.1 he];infer_instance) rfl rfl rfl) ⟨rfl,trivial⟩ trivial ⟨rfl,trivial⟩ (RE (yn1 (k:=33) (k2:=10) (k':=12) (n:=2) (e:= .own (.sl 102 8 0 c.length)) zhn el51 zf51 rfl rfl rfl (by decide) (by decide) rfl) ⟨rfl,rfl,trivial⟩ ⟨rfl,rfl,trivial⟩ ⟨rfl,trivial⟩ ?_);refine A2 ?_;refine RE (xb8 (es:=1) (agg:=false) (e:= .own (.sl 12 1 0 3)) (8) ti133 rfl rfl rfl) qB qA trivial ?_;refine A3 ?_;refine qa9 (k:=31) (q:=30) 11 0 rfl rfl rfl (by decide) rfl ?_;refine A5 ?_;refine cL (fun (i:Nat)=>i<=c.length) (fun (i:Nat)=>uV (uO (uO uN 0 (.ptr 30 0)) 1 (.sl 102 8 0 c.length)) 4 (tI i)) (fun (i:Nat)=>uK (uK (uK (uK (uK (upd uN 30 (some ((bgT (.own (.sl 11 1 0 (n+2*i))) (.own (.sl 12 1 0 3)))))) 11 37 1 false (rV tH (us++hdz (c.take i)))) 12 51 1 false [.own (.sl 100 8 0 a.length),.own (.sl 101 8 0 b.length),.own (.sl 102 8 0 c.length)]) 100 59 8 true (rV tZe a)) 101 59 8 true (rV tZe b)) 102 59 8 true (rV tZe c)) [30,11,12,100,101,102,31,33,100,101,102] (fun (i:Nat)=>c.length - i) (0) (zbq _) (hh:=(SubK.cons rfl (SubK.cons rfl (SubK.cons rfl (SubK.cons rfl ((zaq rfl (zat (by simp [hdz]))) (SubK.cons rfl zax))))))) ?_;intro i hI;refine A9 ?_;refine x6 rfl (fun h477=> ?_) (fun h477=> ?_)
 ·
  refine A8 ?_;refine R2 (zag sl51 rfl) rfl rfl (RE (xc1 (i) ti59 (xc4 (d:=ze0) (by omega)) (by omega)) qA qA trivial (RE (yd2 (zaa 32 12 (zaa 30 30 (zaa 11 26 (zab 31 11)))) (q9 (us++hdz (c.take i)) (us++hdz (c.take (i+1))) (c.getD i ze0) (n+2*i) 3 (by rw [zbp,yw9 (by omega),hn]) (by rw [yw0 (by omega),zfj]) (by omega)) fi277 rfl (krC (ρ:=(zaa 32 12 (zaa 30 30 (zaa 11 26 (zab 31 11))))) (k:=30) rfl (krC (ρ:=(zaa 32 12 (zaa 30 30 (zaa 11 26 (zab 31 11))))) (k:=31) xa6 (krN (ρ:=(zaa 32 12 (zaa 30 30 (zaa 11 26 (zab 31 11)))))))) (krC (ρ:=(zaa 32 12 (zaa 30 30 (zaa 11 26 (zab 31 11))))) (k:=30) rfl (krC (ρ:=(zaa 32 12 (zaa 30 30 (zaa 11 26 (zab 31 11))))) (k:=11) xa6 (krN (ρ:=(zaa 32 12 (zaa 30 30 (zaa 11 26 (zab 31 11)))))))) (K:=[(32,⟨51,1,false,[.own (.sl 100 8 0 a.length),.own (.sl 101 8 0 b.length),.own (.sl 102 8 0 c.length)]⟩)]) [] ⟨⟨rfl,SupX.lit rfl⟩,⟨rfl,xa5⟩,trivial⟩ rfl rfl) qB qC qA ?_));refine A8 ?_;exact xc6 (l:=[30,11,12,100,101,102,31,33,100,101,102]) (zab 11 26) (i+1) ⟨(by omega),(by omega)⟩ (zaf rfl (zas rfl (zas rfl zbd))) ((zbb rfl (zat xa6.symm)) ((zbb rfl (zat xa6.symm)) ((zbb rfl (zat xa6.symm)) ((zbb rfl (zat rfl)) ((zbb rfl (zat xa6.symm)) ((zbb rfl (zat rfl)) zbe)))))) (zaj (zak rfl (zak rfl zar))) (zam rfl (supJ xa5) (zam rfl (supJ xa5) (zam rfl (supJ xa5) (zam rfl (supJL rfl) (zam rfl (supJ xa5) (zam rfl (supJL rfl) zaz)))))) (lkOk rfl) rfl rfl (fun _ h=>by cases h)
 ·
  refine A4 ?_;have hil:i=c.length:=by omega
  subst hil;rw [zbx,<-hw];exact xj5 LentC.mk' rfl (.inr rfl) ⟨rfl,rfl,rfl,rfl,rfl,rfl,trivial⟩ ⟨⟨rfl,(SupX.lit rfl)⟩,⟨rfl,xa5⟩,⟨rfl,(SupX.lit rfl)⟩,⟨rfl,xa5⟩,⟨rfl,xa5⟩,⟨rfl,xa5⟩,trivial⟩ rfl
instance ti77:TyI Tryz.prog 77 1 false:=⟨by kernel_rfl,by kernel_rfl⟩
instance ti93:TyI Tryz.prog 93 1 false:=⟨by kernel_rfl,by kernel_rfl⟩
instance ti122:TyI Tryz.prog 122 1 false:=⟨by kernel_rfl,by kernel_rfl⟩
instance ti167:TyI Tryz.prog 167 1 false:=⟨by kernel_rfl,by kernel_rfl⟩
instance ti168:TyI Tryz.prog 168 1 false:=⟨by kernel_rfl,by kernel_rfl⟩
instance ti169:TyI Tryz.prog 169 1 false:=⟨by kernel_rfl,by kernel_rfl⟩
instance ti170:TyI Tryz.prog 170 1 false:=⟨by kernel_rfl,by kernel_rfl⟩
instance ti171:TyI Tryz.prog 171 1 false:=⟨by kernel_rfl,by kernel_rfl⟩
instance ti172:TyI Tryz.prog 172 1 false:=⟨by kernel_rfl,by kernel_rfl⟩
instance ti173:TyI Tryz.prog 173 1 false:=⟨by kernel_rfl,by kernel_rfl⟩
instance ti174:TyI Tryz.prog 174 1 false:=⟨by kernel_rfl,by kernel_rfl⟩
instance ti175:TyI Tryz.prog 175 1 false:=⟨by kernel_rfl,by kernel_rfl⟩
instance ti176:TyI Tryz.prog 176 1 false:=⟨by kernel_rfl,by kernel_rfl⟩
instance ti177:TyI Tryz.prog 177 1 false:=⟨by kernel_rfl,by kernel_rfl⟩
instance ti178:TyI Tryz.prog 178 1 false:=⟨by kernel_rfl,by kernel_rfl⟩
instance ti179:TyI Tryz.prog 179 1 false:=⟨by kernel_rfl,by kernel_rfl⟩
instance ti180:TyI Tryz.prog 180 1 false:=⟨by kernel_rfl,by kernel_rfl⟩
instance ti181:TyI Tryz.prog 181 1 false:=⟨by kernel_rfl,by kernel_rfl⟩
instance ti182:TyI Tryz.prog 182 1 false:=⟨by kernel_rfl,by kernel_rfl⟩
instance ti183:TyI Tryz.prog 183 1 false:=⟨by kernel_rfl,by kernel_rfl⟩
instance ti184:TyI Tryz.prog 184 1 false:=⟨by kernel_rfl,by kernel_rfl⟩
instance fo186_1:FoI Tryz.prog 186 1 1:=⟨by kernel_rfl⟩
instance fo186_2:FoI Tryz.prog 186 2 2:=⟨by kernel_rfl⟩
instance fo186_3:FoI Tryz.prog 186 3 3:=⟨by kernel_rfl⟩
instance fo186_4:FoI Tryz.prog 186 4 4:=⟨by kernel_rfl⟩
instance fo186_5:FoI Tryz.prog 186 5 5:=⟨by kernel_rfl⟩
instance fo186_6:FoI Tryz.prog 186 6 6:=⟨by kernel_rfl⟩
instance fo186_7:FoI Tryz.prog 186 7 7:=⟨by kernel_rfl⟩
instance fo186_9:FoI Tryz.prog 186 9 9:=⟨by kernel_rfl⟩
instance fo186_10:FoI Tryz.prog 186 10 10:=⟨by kernel_rfl⟩
instance fo186_11:FoI Tryz.prog 186 11 11:=⟨by kernel_rfl⟩
instance fo186_12:FoI Tryz.prog 186 12 12:=⟨by kernel_rfl⟩
instance fo186_13:FoI Tryz.prog 186 13 13:=⟨by kernel_rfl⟩
instance fo186_14:FoI Tryz.prog 186 14 14:=⟨by kernel_rfl⟩
instance fo186_15:FoI Tryz.prog 186 15 15:=⟨by kernel_rfl⟩
instance fo186_16:FoI Tryz.prog 186 16 16:=⟨by kernel_rfl⟩
instance fo186_17:FoI Tryz.prog 186 17 17:=⟨by kernel_rfl⟩
instance fo186_18:FoI Tryz.prog 186 18 18:=⟨by kernel_rfl⟩
instance fo186_19:FoI Tryz.prog 186 19 19:=⟨by kernel_rfl⟩
instance fo186_20:FoI Tryz.prog 186 20 20:=⟨by kernel_rfl⟩
instance fo186_21:FoI Tryz.prog 186 21 21:=⟨by kernel_rfl⟩
instance fo186_22:FoI Tryz.prog 186 22 22:=⟨by kernel_rfl⟩
instance fi153:FnI Tryz.prog 153:=⟨_,func153,by kernel_rfl,rfl⟩
instance fi197:FnI Tryz.prog 197:=⟨_,func197,by kernel_rfl,rfl⟩
instance fi230:FnI Tryz.prog 230:=⟨_,func230,by kernel_rfl,rfl⟩
instance fi231:FnI Tryz.prog 231:=⟨_,func231,by kernel_rfl,rfl⟩
instance fi232:FnI Tryz.prog 232:=⟨_,func232,by kernel_rfl,rfl⟩
instance fi233:FnI Tryz.prog 233:=⟨_,func233,by kernel_rfl,rfl⟩
instance fi234:FnI Tryz.prog 234:=⟨_,func234,by kernel_rfl,rfl⟩
instance fi235:FnI Tryz.prog 235:=⟨_,func235,by kernel_rfl,rfl⟩
instance fi236:FnI Tryz.prog 236:=⟨_,func236,by kernel_rfl,rfl⟩
instance fi237:FnI Tryz.prog 237:=⟨_,func237,by kernel_rfl,rfl⟩
instance fi238:FnI Tryz.prog 238:=⟨_,func238,by kernel_rfl,rfl⟩
instance fi239:FnI Tryz.prog 239:=⟨_,func239,by kernel_rfl,rfl⟩
instance fi240:FnI Tryz.prog 240:=⟨_,func240,by kernel_rfl,rfl⟩
instance fi241:FnI Tryz.prog 241:=⟨_,func241,by kernel_rfl,rfl⟩
instance fi242:FnI Tryz.prog 242:=⟨_,func242,by kernel_rfl,rfl⟩
instance fi243:FnI Tryz.prog 243:=⟨_,func243,by kernel_rfl,rfl⟩
instance fi244:FnI Tryz.prog 244:=⟨_,func244,by kernel_rfl,rfl⟩
instance fi245:FnI Tryz.prog 245:=⟨_,func245,by kernel_rfl,rfl⟩
instance fi246:FnI Tryz.prog 246:=⟨_,func246,by kernel_rfl,rfl⟩
instance fi247:FnI Tryz.prog 247:=⟨_,func247,by kernel_rfl,rfl⟩
instance fi248:FnI Tryz.prog 248:=⟨_,func248,by kernel_rfl,rfl⟩
instance fi249:FnI Tryz.prog 249:=⟨_,func249,by kernel_rfl,rfl⟩
instance fi250:FnI Tryz.prog 250:=⟨_,func250,by kernel_rfl,rfl⟩
instance fi251:FnI Tryz.prog 251:=⟨_,func251,by kernel_rfl,rfl⟩
instance fi252:FnI Tryz.prog 252:=⟨_,func252,by kernel_rfl,rfl⟩
theorem zr5 (a b c:List Ze) (ha:a.length<=1000000) (hb:b.length<=1000000) (hc:c.length<=1000000):
  CtG Tryz.prog 238 [(20,⟨51,1,false,[.own (.sl 100 8 0 a.length),.own (.sl 101 8 0 b.length),.own (.sl 102 8 0 c.length)]⟩),(100,rST a),(101,rST b),(102,rST c)] [.own (.sl 20 1 0 3)] (.val (tB true)) [] []:=
 zz8 3 (sel3 a b c) (by decide) fun j=>match j with
  | 0=>ha
  | 1=>hb
  | _+2=>hc
abbrev XJ (V:Dom) (us:List (Hd×List Nat)):OvJ:=XI 64 V us
theorem xt0 {α:Type} {f:α->Ty} {xs:List α} (hf: ∀x,Free (f x)): ∀e∈rV f xs,Wk e e:=fun e he=>by
 obtain ⟨x,_,rfl⟩:=zcp.1 he;exact .val zao (hf x)
theorem Free.Sf {fs:List Fd} (h: ∀f∈fs,Free f.t):Free (tS fs):=fun F F' w w' v ⟨cs,h1,h2,h3⟩=>⟨cs,h1,h2,by
 have key: ∀(fs:List Fd) (o:Nat),(∀f∈fs,Free f.t)->Fd.all F w cs o fs->Fd.all F' w' cs o fs:=by
  intro fs
  induction fs with
  | nil=>intro _ _ _;trivial
  | cons f r ih=>intro o h ha;exact ⟨⟨ha.1.1,h f (by simp) _ _ _ _ _ ha.1.2⟩,ih _ (fun g hg=>h g (by simp [hg])) ha.2⟩
 exact key fs 0 h h3⟩
theorem Free.ze {z:Ze}:Free (tZe z):=Free.Sf fun f hf=>by
 simp only [zbr,zdm,or_false] at hf;rcases hf with rfl | rfl | rfl
 ·exact Free.E
 ·exact Free.E
 ·refine Free.Sf fun f hf=> ?_;simp only [zbr,zdm,or_false] at hf;rcases hf with rfl | rfl | rfl
  ·exact Free.E
  ·refine Free.Sf fun f hf=> ?_;simp only [zbr,zdm,or_false] at hf;rcases hf with rfl | rfl <;> exact Free.Sf fun f hf=>by
    simp only [zbr,zdm,or_false] at hf;rcases hf with rfl | rfl <;> exact Free.E
  ·exact Free.E
theorem wk_bag {k l:Nat} {n m:Nat}: ∀e∈(bgT (.own (.sl k 1 0 n)) (.own (.sl l 1 0 m))).ts,Wk e e:=fun e he=>by
 simp only [zbr,zdm,or_false] at he;rcases he with rfl | rfl | rfl | rfl | rfl | rfl | rfl | rfl | rfl | rfl | rfl | rfl | rfl | rfl | rfl | rfl | rfl | rfl | rfl | rfl | rfl | rfl | rfl <;> first | exact .sl | exact .val zao Free.E
theorem wd8 {a b c:List Ze}: ∀e∈([.own (.sl 100 8 0 a.length),.own (.sl 101 8 0 b.length),.own (.sl 102 8 0 c.length)]:List Ent),Wk e e:=fun e he=>by
 simp only [zbr,zdm,or_false] at he;rcases he with rfl | rfl | rfl <;> exact .sl
theorem jr6 (V:Dom) (us:List (Hd×List Nat)) (ws:List Hd) (n:Nat) (a b c:List Ze) (hn:us.length=n) (hws:us.map (·.1)=ws) (hsep:SepH ws) (hu:n<=900) (hul: ∀j,((us.getD j hd0).2).length<=1000000) (ha:a.length<=10000) (hb:b.length<=10000) (hc:c.length<=10000):
  CtU Tryz.prog (XJ V us) 153 [(30,(bgT (.own (.sl 31 1 0 n)) (.own (.sl 32 1 0 3)))),(31,⟨37,1,false,rV tH ws⟩),(32,⟨51,1,false,[.own (.sl 100 8 0 a.length),.own (.sl 101 8 0 b.length),.own (.sl 102 8 0 c.length)]⟩),(100,⟨59,8,true,rV tZe a⟩),(101,⟨59,8,true,rV tZe b⟩),(102,⟨59,8,true,rV tZe c⟩)] [.own (.ptr 30 0)] 0 1 (.bool true):=by
 subst hn;subst hws;refine CtU.intro 99 [30,31,32,100,101,102] func153 rfl ntmps153 rfl rfl ⟨⟨rfl,(SupX.lit rfl)⟩,⟨rfl,xa5⟩,⟨rfl,(SupX.lit rfl)⟩,⟨rfl,xa5⟩,⟨rfl,xa5⟩,⟨rfl,xa5⟩,trivial⟩ rfl ?_;intro w η hU;refine A6 ?_;dsimp only [List.append];refine A5 ?_;refine RE (jt6 (q:=31) hU (zv1 us.length (fun j=>(us.getD j hd0).2) hu hul) fi230 hsep) ⟨rfl,trivial⟩ ⟨rfl,rfl,trivial⟩ trivial ?_;refine A2 ?_;refine RGon rfl rfl xw6 rfl ⟨rfl,trivial⟩ trivial trivial ?_;refine A1 ?_;refine RGon rfl rfl (xc1 (1) ti77 rfl rfl) rfl ⟨rfl,trivial⟩ ⟨rfl,trivial⟩ trivial ?_;refine RGon rfl rfl (xq3 (ts:=[tE (.slice none 0 0)]) qf5 fi231 rfl ⟨leNil rfl,trivial⟩) rfl ⟨rfl,trivial⟩ trivial trivial ?_;refine A3 ?_;refine RGon rfl rfl xw6 rfl ⟨rfl,trivial⟩ trivial trivial ?_;refine A1 ?_;refine RGon rfl rfl (xc1 (2) ti167 rfl rfl) rfl ⟨rfl,trivial⟩ ⟨rfl,trivial⟩ trivial ?_;refine RGon rfl rfl (xq3 (ts:=[tE (.slice none 0 0)]) zr6 fi232 rfl ⟨leNil rfl,trivial⟩) rfl ⟨rfl,trivial⟩ trivial trivial ?_;refine A3 ?_;refine RGon rfl rfl xw6 rfl ⟨rfl,trivial⟩ trivial trivial ?_;refine A1 ?_;refine RGon rfl rfl (xc1 (3) ti168 rfl rfl) rfl ⟨rfl,trivial⟩ ⟨rfl,trivial⟩ trivial ?_;refine RGon rfl rfl (xq3 (ts:=[tE (.slice none 0 0)]) zs1 fi233 rfl ⟨leNil rfl,trivial⟩) rfl ⟨rfl,trivial⟩ trivial trivial ?_;refine A3 ?_;refine RGon rfl rfl xw6 rfl ⟨rfl,trivial⟩ trivial trivial ?_;refine A1 ?_;refine RGon rfl rfl (xc1 (4) ti169 rfl rfl) rfl ⟨rfl,trivial⟩ ⟨rfl,trivial⟩ trivial ?_;refine RGon rfl rfl (xq3 (ts:=[tE (.slice none 0 0)]) zp7 fi234 rfl ⟨leNil rfl,trivial⟩) rfl ⟨rfl,trivial⟩ trivial trivial ?_;refine A3 ?_;refine RGon rfl rfl xw6 rfl ⟨rfl,trivial⟩ trivial trivial ?_;refine A1 ?_;refine RGon rfl rfl (xc1 (5) ti93 rfl rfl) rfl ⟨rfl,trivial⟩ ⟨rfl,trivial⟩ trivial ?_;refine RGon rfl rfl (xq3 (ts:=[tE (.slice none 0 0)]) qc0 fi235 rfl ⟨leNil rfl,trivial⟩) rfl ⟨rfl,trivial⟩ trivial trivial ?_;refine A3 ?_;refine RGon rfl rfl xw6 rfl ⟨rfl,trivial⟩ trivial trivial ?_;refine A1 ?_;refine RGon rfl rfl (xc1 (6) ti170 rfl rfl) rfl ⟨rfl,trivial⟩ ⟨rfl,trivial⟩ trivial ?_;refine RGon rfl rfl (xq3 (ts:=[tE (.slice none 0 0)]) zp6 fi236 rfl ⟨leNil rfl,trivial⟩) rfl ⟨rfl,trivial⟩ trivial trivial ?_;refine A3 ?_;refine RGon rfl rfl xw6 rfl ⟨rfl,trivial⟩ trivial trivial ?_;refine A1 ?_;refine RGon rfl rfl (xc1 (7) ti122 rfl rfl) rfl ⟨rfl,trivial⟩ ⟨rfl,trivial⟩ trivial ?_;refine RGon rfl rfl (xq3 (ts:=[tE (.slice none 0 0)]) qb9 fi237 rfl ⟨leNil rfl,trivial⟩) rfl ⟨rfl,trivial⟩ trivial trivial ?_;refine A3 ?_;refine RGon rfl rfl xw6 rfl ⟨rfl,trivial⟩ trivial trivial ?_;refine A1 ?_;refine RGon rfl rfl (xc1 (8) ti133 rfl rfl) rfl ⟨rfl,trivial⟩ ⟨rfl,trivial⟩ trivial ?_;refine RGon rfl rfl (xb7 (fun j=>cond (Nat.beq j 101) 101 (cond (Nat.beq j 100) 100 (cond (Nat.beq j 20) 32 (102)))) (zr5 a b c (by omega) (by omega) (by omega)) fi238 rfl (krC (ρ:=fun j=>cond (Nat.beq j 101) 101 (cond (Nat.beq j 100) 100 (cond (Nat.beq j 20) 32 (102)))) (k:=20) rfl (krC (ρ:=fun j=>cond (Nat.beq j 101) 101 (cond (Nat.beq j 100) 100 (cond (Nat.beq j 20) 32 (102)))) (k:=100) xa6 (krC (ρ:=fun j=>cond (Nat.beq j 101) 101 (cond (Nat.beq j 100) 100 (cond (Nat.beq j 20) 32 (102)))) (k:=101) xa6 (krC (ρ:=fun j=>cond (Nat.beq j 101) 101 (cond (Nat.beq j 100) 100 (cond (Nat.beq j 20) 32 (102)))) (k:=102) xa6 (krN (ρ:=fun j=>cond (Nat.beq j 101) 101 (cond (Nat.beq j 100) 100 (cond (Nat.beq j 20) 32 (102))))))))) (krN (ρ:=fun j=>cond (Nat.beq j 101) 101 (cond (Nat.beq j 100) 100 (cond (Nat.beq j 20) 32 (102))))) trivial rfl) rfl ⟨rfl,trivial⟩ ⟨rfl,rfl,rfl,rfl,trivial⟩ trivial ?_;refine A3 ?_;refine RGon rfl rfl xw6 rfl ⟨rfl,trivial⟩ trivial trivial ?_;refine A1 ?_;refine RGon rfl rfl (xc1 (9) ti171 rfl rfl) rfl ⟨rfl,trivial⟩ ⟨rfl,trivial⟩ trivial ?_;refine RGon rfl rfl (xq3 (ts:=[tE (.slice none 0 0)]) zr4 fi239 rfl ⟨leNil rfl,trivial⟩) rfl ⟨rfl,trivial⟩ trivial trivial ?_;refine A3 ?_;refine RGon rfl rfl xw6 rfl ⟨rfl,trivial⟩ trivial trivial ?_;refine A1 ?_;refine RGon rfl rfl (xc1 (10) ti172 rfl rfl) rfl ⟨rfl,trivial⟩ ⟨rfl,trivial⟩ trivial ?_
 refine RGon rfl rfl (xq3 (ts:=[tE (.slice none 0 0)]) qd8 fi240 rfl ⟨leNil rfl,trivial⟩) rfl ⟨rfl,trivial⟩ trivial trivial ?_;refine A3 ?_;refine RGon rfl rfl xw6 rfl ⟨rfl,trivial⟩ trivial trivial ?_;refine A1 ?_;refine RGon rfl rfl (xc1 (11) ti173 rfl rfl) rfl ⟨rfl,trivial⟩ ⟨rfl,trivial⟩ trivial ?_;refine RGon rfl rfl (xq3 (ts:=[tE (.slice none 0 0)]) zp9 fi241 rfl ⟨leNil rfl,trivial⟩) rfl ⟨rfl,trivial⟩ trivial trivial ?_;refine A3 ?_;refine RGon rfl rfl xw6 rfl ⟨rfl,trivial⟩ trivial trivial ?_;refine A1 ?_;refine RGon rfl rfl (xc1 (12) ti174 rfl rfl) rfl ⟨rfl,trivial⟩ ⟨rfl,trivial⟩ trivial ?_;refine RGon rfl rfl (xq3 (ts:=[tE (.slice none 0 0)]) q7 fi242 rfl ⟨leNil rfl,trivial⟩) rfl ⟨rfl,trivial⟩ trivial trivial ?_;refine A3 ?_;refine RGon rfl rfl xw6 rfl ⟨rfl,trivial⟩ trivial trivial ?_;refine A1 ?_;refine RGon rfl rfl (xc1 (13) ti175 rfl rfl) rfl ⟨rfl,trivial⟩ ⟨rfl,trivial⟩ trivial ?_;refine RGon rfl rfl (xq3 (ts:=[tE (.slice none 0 0)]) zf6 fi243 rfl ⟨leNil rfl,trivial⟩) rfl ⟨rfl,trivial⟩ trivial trivial ?_;refine A3 ?_;refine RGon rfl rfl xw6 rfl ⟨rfl,trivial⟩ trivial trivial ?_;refine A1 ?_;refine RGon rfl rfl (xc1 (14) ti176 rfl rfl) rfl ⟨rfl,trivial⟩ ⟨rfl,trivial⟩ trivial ?_;refine RGon rfl rfl (xq3 (ts:=[tE (.slice none 0 0)]) qe2 fi244 rfl ⟨leNil rfl,trivial⟩) rfl ⟨rfl,trivial⟩ trivial trivial ?_;refine A3 ?_;refine RGon rfl rfl xw6 rfl ⟨rfl,trivial⟩ trivial trivial ?_;refine A1 ?_;refine RGon rfl rfl (xc1 (15) ti177 rfl rfl) rfl ⟨rfl,trivial⟩ ⟨rfl,trivial⟩ trivial ?_;refine RGon rfl rfl (xq3 (ts:=[tE (.slice none 0 0)]) qc7 fi245 rfl ⟨leNil rfl,trivial⟩) rfl ⟨rfl,trivial⟩ trivial trivial ?_;refine A3 ?_;refine RGon rfl rfl xw6 rfl ⟨rfl,trivial⟩ trivial trivial ?_;refine A1 ?_;refine RGon rfl rfl (xc1 (16) ti178 rfl rfl) rfl ⟨rfl,trivial⟩ ⟨rfl,trivial⟩ trivial ?_;refine RGon rfl rfl (xq3 (ts:=[tE (.slice none 0 0)]) zb8 fi246 rfl ⟨leNil rfl,trivial⟩) rfl ⟨rfl,trivial⟩ trivial trivial ?_;refine A3 ?_;refine RGon rfl rfl xw6 rfl ⟨rfl,trivial⟩ trivial trivial ?_;refine A1 ?_;refine RGon rfl rfl (xc1 (17) ti179 rfl rfl) rfl ⟨rfl,trivial⟩ ⟨rfl,trivial⟩ trivial ?_;refine RGon rfl rfl (xq3 (ts:=[tE (.slice none 0 0)]) zp4 fi247 rfl ⟨leNil rfl,trivial⟩) rfl ⟨rfl,trivial⟩ trivial trivial ?_;refine A3 ?_;refine RGon rfl rfl xw6 rfl ⟨rfl,trivial⟩ trivial trivial ?_;refine A1 ?_;refine RGon rfl rfl (xc1 (18) ti180 rfl rfl) rfl ⟨rfl,trivial⟩ ⟨rfl,trivial⟩ trivial ?_;refine RGon rfl rfl (xq3 (ts:=[tE (.slice none 0 0)]) zp8 fi248 rfl ⟨leNil rfl,trivial⟩) rfl ⟨rfl,trivial⟩ trivial trivial ?_;refine A3 ?_;refine RGon rfl rfl xw6 rfl ⟨rfl,trivial⟩ trivial trivial ?_;refine A1 ?_;refine RGon rfl rfl (xc1 (19) ti181 rfl rfl) rfl ⟨rfl,trivial⟩ ⟨rfl,trivial⟩ trivial ?_;refine RGon rfl rfl (xq3 (ts:=[tE (.slice none 0 0)]) zh7 fi249 rfl ⟨leNil rfl,trivial⟩) rfl ⟨rfl,trivial⟩ trivial trivial ?_;refine A3 ?_;refine RGon rfl rfl xw6 rfl ⟨rfl,trivial⟩ trivial trivial ?_;refine A1 ?_;refine RGon rfl rfl (xc1 (20) ti182 rfl rfl) rfl ⟨rfl,trivial⟩ ⟨rfl,trivial⟩ trivial ?_;refine RGon rfl rfl (xq3 (ts:=[tE (.slice none 0 0)]) zr8 fi250 rfl ⟨leNil rfl,trivial⟩) rfl ⟨rfl,trivial⟩ trivial trivial ?_;refine A3 ?_;refine RGon rfl rfl xw6 rfl ⟨rfl,trivial⟩ trivial trivial ?_;refine A1 ?_;refine RGon rfl rfl (xc1 (21) ti183 rfl rfl) rfl ⟨rfl,trivial⟩ ⟨rfl,trivial⟩ trivial ?_;refine RGon rfl rfl (xq3 (ts:=[tE (.slice none 0 0)]) zi3 fi251 rfl ⟨leNil rfl,trivial⟩) rfl ⟨rfl,trivial⟩ trivial trivial ?_;refine A3 ?_;refine RGon rfl rfl xw6 rfl ⟨rfl,trivial⟩ trivial trivial ?_;refine A1 ?_;refine RGon rfl rfl (xc1 (22) ti184 rfl rfl) rfl ⟨rfl,trivial⟩ ⟨rfl,trivial⟩ trivial ?_;refine RGon rfl rfl (xq3 (ts:=[tE (.slice none 0 0)]) zp5 fi252 rfl ⟨leNil rfl,trivial⟩) rfl ⟨rfl,trivial⟩ trivial trivial ?_;refine A5 ?_;exact qw0 hU rfl rfl rfl
theorem zt2 (V:Dom) (us:List (Hd×List Nat)) (a b c:List Ze) (hus:us.map (·.1)=(hdz a++hdz b++hdz c)) (hsep:SepH (hdz a++hdz b++hdz c)) (hu:us.length<=900) (hul: ∀j,((us.getD j hd0).2).length<=1000000) (ha:a.length<=10000) (hb:b.length<=10000) (hc:c.length<=10000):
  CtU Tryz.prog (XJ V us) 119 [(20,⟨51,1,false,[.own (.sl 100 8 0 a.length),.own (.sl 101 8 0 b.length),.own (.sl 102 8 0 c.length)]⟩),(100,⟨59,8,true,rV tZe a⟩),(101,⟨59,8,true,rV tZe b⟩),(102,⟨59,8,true,rV tZe c⟩)] [.own (.sl 20 1 0 3)] 0 1 (.bool true):=by
 refine CtU.intro 99 [20,100,101,102] func119 rfl ntmps119 rfl rfl ⟨⟨rfl,(SupX.lit rfl)⟩,⟨rfl,xa5⟩,⟨rfl,xa5⟩,⟨rfl,xa5⟩,trivial⟩ rfl ?_;intro w η hU;refine A7 ?_;refine R0 (jp3 (vs:=[]) (r:= .agg #[.slice none 0 0,.slice none 0 0,.slice none 0 0,.slice none 0 0,.slice none 0 0,.slice none 0 0,.slice none 0 0,.slice none 0 0,.slice none 0 0,.slice none 0 0,.slice none 0 0,.slice none 0 0,.slice none 0 0,.slice none 0 0,.slice none 0 0,.slice none 0 0,.slice none 0 0,.slice none 0 0,.slice none 0 0,.slice none 0 0,.slice none 0 0,.slice none 0 0,.slice none 0 0]) rfl (fun w=>by kernel_rfl)) ?_;refine RE (d_boxC (k:=6) (n:=23) _ rfl rfl rfl rfl) ⟨rfl,trivial⟩ trivial ⟨rfl,trivial⟩ ?_;refine A5 ?_;refine ys1 (q:=6) 33 37 1 false 0 rfl rfl rfl rfl (fun _=>rfl) rfl rfl ?_;refine ys1 (q:=6) 34 51 1 false 8 rfl rfl rfl rfl (fun _=>rfl) rfl rfl ?_;refine A5 ?_;refine yg2 (ι:=Nat) (fun k=>k<=3) (selS [(upd (upd (upd (fun _=>none) 0 (some (.own (.sl 20 1 0 3)))) 3 (some (.own (.ptr 6 0)))) 4 (some (.val (tI 0)))),(upd (upd (upd (fun _=>none) 0 (some (.own (.sl 20 1 0 3)))) 3 (some (.own (.ptr 6 0)))) 4 (some (.val (tI 1)))),(upd (upd (upd (fun _=>none) 0 (some (.own (.sl 20 1 0 3)))) 3 (some (.own (.ptr 6 0)))) 4 (some (.val (tI 2))))] (upd (upd (upd (fun _=>none) 0 (some (.own (.sl 20 1 0 3)))) 3 (some (.own (.ptr 6 0)))) 4 (some (.val (tI 3))))) (selS [(upd (upd (upd (upd (upd (upd (upd (upd (fun _=>none) 6 (some ((bgT (.own (.sl 33 1 0 0)) (.own (.sl 34 1 0 0)))))) 33 (some (⟨37,1,false,rV tH ([]:List Hd)⟩))) 34 (some (⟨51,1,false,[]⟩))) 20 (some (⟨51,1,false,[.own (.sl 100 8 0 a.length),.own (.sl 101 8 0 b.length),.own (.sl 102 8 0 c.length)]⟩))) 100 (some (⟨59,8,true,rV tZe a⟩))) 101 (some (⟨59,8,true,rV tZe b⟩))) 102 (some (⟨59,8,true,rV tZe c⟩))) 99 (some (⟨0,1,false,[]⟩))),(upd (upd (upd (upd (upd (upd (upd (upd (fun _=>none) 6 (some ((bgT (.own (.sl 41 1 0 (0+2*a.length))) (.own (.sl 51 1 0 1)))))) 41 (some (⟨37,1,false,rV tH (hdz a)⟩))) 51 (some (⟨51,1,false,[.own (.sl 100 8 0 a.length)]⟩))) 20 (some (⟨51,1,false,[.own (.sl 100 8 0 a.length),.own (.sl 101 8 0 b.length),.own (.sl 102 8 0 c.length)]⟩))) 100 (some (⟨59,8,true,rV tZe a⟩))) 101 (some (⟨59,8,true,rV tZe b⟩))) 102 (some (⟨59,8,true,rV tZe c⟩))) 99 (some (⟨0,1,false,[]⟩))),(upd (upd (upd (upd (upd (upd (upd (upd (fun _=>none) 6 (some ((bgT (.own (.sl 42 1 0 ((0+2*a.length)+2*b.length))) (.own (.sl 52 1 0 2)))))) 42 (some (⟨37,1,false,rV tH (hdz a++hdz b)⟩))) 52 (some (⟨51,1,false,[.own (.sl 100 8 0 a.length),.own (.sl 101 8 0 b.length)]⟩))) 20 (some (⟨51,1,false,[.own (.sl 100 8 0 a.length),.own (.sl 101 8 0 b.length),.own (.sl 102 8 0 c.length)]⟩))) 100 (some (⟨59,8,true,rV tZe a⟩))) 101 (some (⟨59,8,true,rV tZe b⟩))) 102 (some (⟨59,8,true,rV tZe c⟩))) 99 (some (⟨0,1,false,[]⟩)))] (upd (upd (upd (upd (upd (upd (upd (upd (fun _=>none) 6 (some ((bgT (.own (.sl 43 1 0 (((0+2*a.length)+2*b.length)+2*c.length))) (.own (.sl 53 1 0 3)))))) 43 (some (⟨37,1,false,rV tH (hdz a++hdz b++hdz c)⟩))) 53 (some (⟨51,1,false,[.own (.sl 100 8 0 a.length),.own (.sl 101 8 0 b.length),.own (.sl 102 8 0 c.length)]⟩))) 20 (some (⟨51,1,false,[.own (.sl 100 8 0 a.length),.own (.sl 101 8 0 b.length),.own (.sl 102 8 0 c.length)]⟩))) 100 (some (⟨59,8,true,rV tZe a⟩))) 101 (some (⟨59,8,true,rV tZe b⟩))) 102 (some (⟨59,8,true,rV tZe c⟩))) 99 (some (⟨0,1,false,[]⟩)))) (selS [((nm [6,33,34,20,100,101,102,99])),((nm [6,41,51,20,100,101,102,99,33,34])),((nm [6,42,52,20,100,101,102,99,33,34,41,51]))] ((nm [6,43,53,20,100,101,102,99,33,34,41,51,42,52]))) (fun k=>3 - k) 0 (zbq _) (zae rfl (zan rfl (zan rfl zay))) (SubK.cons rfl (SubK.cons rfl (SubK.cons rfl (SubK.cons rfl (SubK.cons rfl (SubK.cons rfl (SubK.cons rfl (SubK.cons rfl zax)))))))) (zaj (zak rfl (zak rfl zar))) (zam rfl (supJL rfl) (zam rfl (supJ xa5) (zam rfl (supJ xa5) (zam rfl (supJ xa5) (zam rfl (supJL rfl) (zam rfl (supJL rfl) (zam rfl (supJ xa5) (zam rfl (supJL rfl) zaz)))))))) (lkOk rfl) ?_;intro k hk;rcases (show k=0∨k=1∨k=2∨k=3 by omega) with rfl | rfl | rfl | rfl
 ·
  show wc _ _ _ _ (upd (upd (upd (fun _=>none) 0 (some (.own (.sl 20 1 0 3)))) 3 (some (.own (.ptr 6 0)))) 4 (some (.val (tI 0)))) (upd (upd (upd (upd (upd (upd (upd (upd (fun _=>none) 6 (some ((bgT (.own (.sl 33 1 0 0)) (.own (.sl 34 1 0 0)))))) 33 (some (⟨37,1,false,rV tH ([]:List Hd)⟩))) 34 (some (⟨51,1,false,[]⟩))) 20 (some (⟨51,1,false,[.own (.sl 100 8 0 a.length),.own (.sl 101 8 0 b.length),.own (.sl 102 8 0 c.length)]⟩))) 100 (some (⟨59,8,true,rV tZe a⟩))) 101 (some (⟨59,8,true,rV tZe b⟩))) 102 (some (⟨59,8,true,rV tZe c⟩))) 99 (some (⟨0,1,false,[]⟩))) (nm [6,33,34,20,100,101,102,99]);refine A9 ?_;refine yr6 rfl (zbg (by decide)) ?_;refine A8 ?_;refine R2 (zag sl133 rfl) rfl rfl ?_;refine RE (xc1 (0) ti51 rfl rfl) ⟨rfl,trivial⟩ ⟨rfl,trivial⟩ trivial ?_;refine RE (xb7 (fun j=>cond (Nat.beq j 101) 101 (cond (Nat.beq j 100) 100 (cond (Nat.beq j 33) 34 (cond (Nat.beq j 31) 33 (cond (Nat.beq j 30) 6 (cond (Nat.beq j 12) 51 (cond (Nat.beq j 11) 41 (102)))))))) (wa3 ([]:List Hd) (hdz a) a 0 (by simp) (by simp) (by omega) (by omega)) fi197 rfl (krC (ρ:=fun j=>cond (Nat.beq j 101) 101 (cond (Nat.beq j 100) 100 (cond (Nat.beq j 33) 34 (cond (Nat.beq j 31) 33 (cond (Nat.beq j 30) 6 (cond (Nat.beq j 12) 51 (cond (Nat.beq j 11) 41 (102)))))))) (k:=30) rfl (krC (ρ:=fun j=>cond (Nat.beq j 101) 101 (cond (Nat.beq j 100) 100 (cond (Nat.beq j 33) 34 (cond (Nat.beq j 31) 33 (cond (Nat.beq j 30) 6 (cond (Nat.beq j 12) 51 (cond (Nat.beq j 11) 41 (102)))))))) (k:=31) xa6 (krC (ρ:=fun j=>cond (Nat.beq j 101) 101 (cond (Nat.beq j 100) 100 (cond (Nat.beq j 33) 34 (cond (Nat.beq j 31) 33 (cond (Nat.beq j 30) 6 (cond (Nat.beq j 12) 51 (cond (Nat.beq j 11) 41 (102)))))))) (k:=33) rfl (krC (ρ:=fun j=>cond (Nat.beq j 101) 101 (cond (Nat.beq j 100) 100 (cond (Nat.beq j 33) 34 (cond (Nat.beq j 31) 33 (cond (Nat.beq j 30) 6 (cond (Nat.beq j 12) 51 (cond (Nat.beq j 11) 41 (102)))))))) (k:=100) xa6 (krN (ρ:=fun j=>cond (Nat.beq j 101) 101 (cond (Nat.beq j 100) 100 (cond (Nat.beq j 33) 34 (cond (Nat.beq j 31) 33 (cond (Nat.beq j 30) 6 (cond (Nat.beq j 12) 51 (cond (Nat.beq j 11) 41 (102))))))))))))) (krC (ρ:=fun j=>cond (Nat.beq j 101) 101 (cond (Nat.beq j 100) 100 (cond (Nat.beq j 33) 34 (cond (Nat.beq j 31) 33 (cond (Nat.beq j 30) 6 (cond (Nat.beq j 12) 51 (cond (Nat.beq j 11) 41 (102)))))))) (k:=30) rfl (krC (ρ:=fun j=>cond (Nat.beq j 101) 101 (cond (Nat.beq j 100) 100 (cond (Nat.beq j 33) 34 (cond (Nat.beq j 31) 33 (cond (Nat.beq j 30) 6 (cond (Nat.beq j 12) 51 (cond (Nat.beq j 11) 41 (102)))))))) (k:=11) xa6 (krC (ρ:=fun j=>cond (Nat.beq j 101) 101 (cond (Nat.beq j 100) 100 (cond (Nat.beq j 33) 34 (cond (Nat.beq j 31) 33 (cond (Nat.beq j 30) 6 (cond (Nat.beq j 12) 51 (cond (Nat.beq j 11) 41 (102)))))))) (k:=12) rfl (krC (ρ:=fun j=>cond (Nat.beq j 101) 101 (cond (Nat.beq j 100) 100 (cond (Nat.beq j 33) 34 (cond (Nat.beq j 31) 33 (cond (Nat.beq j 30) 6 (cond (Nat.beq j 12) 51 (cond (Nat.beq j 11) 41 (102)))))))) (k:=100) xa6 (krN (ρ:=fun j=>cond (Nat.beq j 101) 101 (cond (Nat.beq j 100) 100 (cond (Nat.beq j 33) 34 (cond (Nat.beq j 31) 33 (cond (Nat.beq j 30) 6 (cond (Nat.beq j 12) 51 (cond (Nat.beq j 11) 41 (102))))))))))))) ⟨⟨rfl,(SupX.lit rfl)⟩,⟨rfl,xa5⟩,⟨rfl,(SupX.lit rfl)⟩,⟨rfl,xa5⟩,trivial⟩ rfl) ⟨rfl,rfl,trivial⟩ ⟨rfl,rfl,rfl,rfl,trivial⟩ ⟨rfl,rfl,trivial⟩ ?_;refine A8 ?_;exact fun _ _ hs=>xh2 1 ⟨(by decide),(by decide)⟩ (zae rfl (zan rfl (zan rfl zay))) (SubK.cons rfl (SubK.cons rfl (SubK.cons rfl (SubK.cons rfl (SubK.cons rfl (SubK.cons rfl (SubK.cons rfl (SubK.cons rfl zax)))))))) (zaj (zak rfl (zak rfl zar))) (zam rfl (supJL rfl) (zam rfl (supJ xa5) (zam rfl (supJ xa5) (zam rfl (supJ xa5) (zam rfl (supJL rfl) (zam rfl (supJL rfl) (zam rfl (supJ xa5) (zam rfl (supJL rfl) zaz)))))))) (lkOk rfl) hs
 ·
  show wc _ _ _ _ (upd (upd (upd (fun _=>none) 0 (some (.own (.sl 20 1 0 3)))) 3 (some (.own (.ptr 6 0)))) 4 (some (.val (tI 1)))) (upd (upd (upd (upd (upd (upd (upd (upd (fun _=>none) 6 (some ((bgT (.own (.sl 41 1 0 (0+2*a.length))) (.own (.sl 51 1 0 1)))))) 41 (some (⟨37,1,false,rV tH (hdz a)⟩))) 51 (some (⟨51,1,false,[.own (.sl 100 8 0 a.length)]⟩))) 20 (some (⟨51,1,false,[.own (.sl 100 8 0 a.length),.own (.sl 101 8 0 b.length),.own (.sl 102 8 0 c.length)]⟩))) 100 (some (⟨59,8,true,rV tZe a⟩))) 101 (some (⟨59,8,true,rV tZe b⟩))) 102 (some (⟨59,8,true,rV tZe c⟩))) 99 (some (⟨0,1,false,[]⟩))) (nm [6,41,51,20,100,101,102,99,33,34]);refine A9 ?_;refine yr6 rfl (zbg (by decide)) ?_;refine A8 ?_;refine R2 (zag sl133 rfl) rfl rfl ?_;refine RE (xc1 (1) ti51 rfl rfl) ⟨rfl,trivial⟩ ⟨rfl,trivial⟩ trivial ?_;refine RE (xb7 (fun j=>cond (Nat.beq j 101) 101 (cond (Nat.beq j 100) 100 (cond (Nat.beq j 33) 51 (cond (Nat.beq j 31) 41 (cond (Nat.beq j 30) 6 (cond (Nat.beq j 12) 52 (cond (Nat.beq j 11) 42 (102)))))))) (wc6 (hdz a) (hdz a++hdz b) a b (0+2*a.length) (by simp [yc1]) (by simp) (by omega) (by omega)) fi197 rfl (krC (ρ:=fun j=>cond (Nat.beq j 101) 101 (cond (Nat.beq j 100) 100 (cond (Nat.beq j 33) 51 (cond (Nat.beq j 31) 41 (cond (Nat.beq j 30) 6 (cond (Nat.beq j 12) 52 (cond (Nat.beq j 11) 42 (102)))))))) (k:=30) rfl (krC (ρ:=fun j=>cond (Nat.beq j 101) 101 (cond (Nat.beq j 100) 100 (cond (Nat.beq j 33) 51 (cond (Nat.beq j 31) 41 (cond (Nat.beq j 30) 6 (cond (Nat.beq j 12) 52 (cond (Nat.beq j 11) 42 (102)))))))) (k:=31) xa6 (krC (ρ:=fun j=>cond (Nat.beq j 101) 101 (cond (Nat.beq j 100) 100 (cond (Nat.beq j 33) 51 (cond (Nat.beq j 31) 41 (cond (Nat.beq j 30) 6 (cond (Nat.beq j 12) 52 (cond (Nat.beq j 11) 42 (102)))))))) (k:=33) rfl (krC (ρ:=fun j=>cond (Nat.beq j 101) 101 (cond (Nat.beq j 100) 100 (cond (Nat.beq j 33) 51 (cond (Nat.beq j 31) 41 (cond (Nat.beq j 30) 6 (cond (Nat.beq j 12) 52 (cond (Nat.beq j 11) 42 (102)))))))) (k:=100) xa6 (krC (ρ:=fun j=>cond (Nat.beq j 101) 101 (cond (Nat.beq j 100) 100 (cond (Nat.beq j 33) 51 (cond (Nat.beq j 31) 41 (cond (Nat.beq j 30) 6 (cond (Nat.beq j 12) 52 (cond (Nat.beq j 11) 42 (102)))))))) (k:=101) xa6 (krN (ρ:=fun j=>cond (Nat.beq j 101) 101 (cond (Nat.beq j 100) 100 (cond (Nat.beq j 33) 51 (cond (Nat.beq j 31) 41 (cond (Nat.beq j 30) 6 (cond (Nat.beq j 12) 52 (cond (Nat.beq j 11) 42 (102)))))))))))))) (krC (ρ:=fun j=>cond (Nat.beq j 101) 101 (cond (Nat.beq j 100) 100 (cond (Nat.beq j 33) 51 (cond (Nat.beq j 31) 41 (cond (Nat.beq j 30) 6 (cond (Nat.beq j 12) 52 (cond (Nat.beq j 11) 42 (102)))))))) (k:=30) rfl (krC (ρ:=fun j=>cond (Nat.beq j 101) 101 (cond (Nat.beq j 100) 100 (cond (Nat.beq j 33) 51 (cond (Nat.beq j 31) 41 (cond (Nat.beq j 30) 6 (cond (Nat.beq j 12) 52 (cond (Nat.beq j 11) 42 (102)))))))) (k:=11) xa6 (krC (ρ:=fun j=>cond (Nat.beq j 101) 101 (cond (Nat.beq j 100) 100 (cond (Nat.beq j 33) 51 (cond (Nat.beq j 31) 41 (cond (Nat.beq j 30) 6 (cond (Nat.beq j 12) 52 (cond (Nat.beq j 11) 42 (102)))))))) (k:=12) rfl (krC (ρ:=fun j=>cond (Nat.beq j 101) 101 (cond (Nat.beq j 100) 100 (cond (Nat.beq j 33) 51 (cond (Nat.beq j 31) 41 (cond (Nat.beq j 30) 6 (cond (Nat.beq j 12) 52 (cond (Nat.beq j 11) 42 (102)))))))) (k:=100) xa6 (krC (ρ:=fun j=>cond (Nat.beq j 101) 101 (cond (Nat.beq j 100) 100 (cond (Nat.beq j 33) 51 (cond (Nat.beq j 31) 41 (cond (Nat.beq j 30) 6 (cond (Nat.beq j 12) 52 (cond (Nat.beq j 11) 42 (102)))))))) (k:=101) xa6 (krN (ρ:=fun j=>cond (Nat.beq j 101) 101 (cond (Nat.beq j 100) 100 (cond (Nat.beq j 33) 51 (cond (Nat.beq j 31) 41 (cond (Nat.beq j 30) 6 (cond (Nat.beq j 12) 52 (cond (Nat.beq j 11) 42 (102)))))))))))))) ⟨⟨rfl,(SupX.lit rfl)⟩,⟨rfl,xa5⟩,⟨rfl,(SupX.lit rfl)⟩,⟨rfl,xa5⟩,⟨rfl,xa5⟩,trivial⟩ rfl) ⟨rfl,rfl,trivial⟩ ⟨rfl,rfl,rfl,rfl,rfl,trivial⟩ ⟨rfl,rfl,trivial⟩ ?_;refine A8 ?_;exact fun _ _ hs=>xh2 2 ⟨(by decide),(by decide)⟩ (zae rfl (zan rfl (zan rfl zay))) (SubK.cons rfl (SubK.cons rfl (SubK.cons rfl (SubK.cons rfl (SubK.cons rfl (SubK.cons rfl (SubK.cons rfl (SubK.cons rfl zax)))))))) (zaj (zak rfl (zak rfl zar))) (zam rfl (supJL rfl) (zam rfl (supJ xa5) (zam rfl (supJ xa5) (zam rfl (supJ xa5) (zam rfl (supJL rfl) (zam rfl (supJL rfl) (zam rfl (supJ xa5) (zam rfl (supJL rfl) zaz)))))))) (lkOk rfl) hs
 ·
  show wc _ _ _ _ (upd (upd (upd (fun _=>none) 0 (some (.own (.sl 20 1 0 3)))) 3 (some (.own (.ptr 6 0)))) 4 (some (.val (tI 2)))) (upd (upd (upd (upd (upd (upd (upd (upd (fun _=>none) 6 (some ((bgT (.own (.sl 42 1 0 ((0+2*a.length)+2*b.length))) (.own (.sl 52 1 0 2)))))) 42 (some (⟨37,1,false,rV tH (hdz a++hdz b)⟩))) 52 (some (⟨51,1,false,[.own (.sl 100 8 0 a.length),.own (.sl 101 8 0 b.length)]⟩))) 20 (some (⟨51,1,false,[.own (.sl 100 8 0 a.length),.own (.sl 101 8 0 b.length),.own (.sl 102 8 0 c.length)]⟩))) 100 (some (⟨59,8,true,rV tZe a⟩))) 101 (some (⟨59,8,true,rV tZe b⟩))) 102 (some (⟨59,8,true,rV tZe c⟩))) 99 (some (⟨0,1,false,[]⟩))) (nm [6,42,52,20,100,101,102,99,33,34,41,51]);refine A9 ?_;refine yr6 rfl (zbg (by decide)) ?_;refine A8 ?_;refine R2 (zag sl133 rfl) rfl rfl ?_;refine RE (xc1 (2) ti51 rfl rfl) ⟨rfl,trivial⟩ ⟨rfl,trivial⟩ trivial ?_;refine RE (xb7 (fun j=>cond (Nat.beq j 101) 101 (cond (Nat.beq j 100) 100 (cond (Nat.beq j 33) 52 (cond (Nat.beq j 31) 42 (cond (Nat.beq j 30) 6 (cond (Nat.beq j 12) 53 (cond (Nat.beq j 11) 43 (102)))))))) (ju6 (hdz a++hdz b) (hdz a++hdz b++hdz c) a b c ((0+2*a.length)+2*b.length) (by simp [yc1]) (by simp) (by omega) (by omega)) fi197 rfl (krC (ρ:=fun j=>cond (Nat.beq j 101) 101 (cond (Nat.beq j 100) 100 (cond (Nat.beq j 33) 52 (cond (Nat.beq j 31) 42 (cond (Nat.beq j 30) 6 (cond (Nat.beq j 12) 53 (cond (Nat.beq j 11) 43 (102)))))))) (k:=30) rfl (krC (ρ:=fun j=>cond (Nat.beq j 101) 101 (cond (Nat.beq j 100) 100 (cond (Nat.beq j 33) 52 (cond (Nat.beq j 31) 42 (cond (Nat.beq j 30) 6 (cond (Nat.beq j 12) 53 (cond (Nat.beq j 11) 43 (102)))))))) (k:=31) xa6 (krC (ρ:=fun j=>cond (Nat.beq j 101) 101 (cond (Nat.beq j 100) 100 (cond (Nat.beq j 33) 52 (cond (Nat.beq j 31) 42 (cond (Nat.beq j 30) 6 (cond (Nat.beq j 12) 53 (cond (Nat.beq j 11) 43 (102)))))))) (k:=33) rfl (krC (ρ:=fun j=>cond (Nat.beq j 101) 101 (cond (Nat.beq j 100) 100 (cond (Nat.beq j 33) 52 (cond (Nat.beq j 31) 42 (cond (Nat.beq j 30) 6 (cond (Nat.beq j 12) 53 (cond (Nat.beq j 11) 43 (102)))))))) (k:=100) xa6 (krC (ρ:=fun j=>cond (Nat.beq j 101) 101 (cond (Nat.beq j 100) 100 (cond (Nat.beq j 33) 52 (cond (Nat.beq j 31) 42 (cond (Nat.beq j 30) 6 (cond (Nat.beq j 12) 53 (cond (Nat.beq j 11) 43 (102)))))))) (k:=101) xa6 (krC (ρ:=fun j=>cond (Nat.beq j 101) 101 (cond (Nat.beq j 100) 100 (cond (Nat.beq j 33) 52 (cond (Nat.beq j 31) 42 (cond (Nat.beq j 30) 6 (cond (Nat.beq j 12) 53 (cond (Nat.beq j 11) 43 (102)))))))) (k:=102) xa6 (krN (ρ:=fun j=>cond (Nat.beq j 101) 101 (cond (Nat.beq j 100) 100 (cond (Nat.beq j 33) 52 (cond (Nat.beq j 31) 42 (cond (Nat.beq j 30) 6 (cond (Nat.beq j 12) 53 (cond (Nat.beq j 11) 43 (102))))))))))))))) (krC (ρ:=fun j=>cond (Nat.beq j 101) 101 (cond (Nat.beq j 100) 100 (cond (Nat.beq j 33) 52 (cond (Nat.beq j 31) 42 (cond (Nat.beq j 30) 6 (cond (Nat.beq j 12) 53 (cond (Nat.beq j 11) 43 (102)))))))) (k:=30) rfl (krC (ρ:=fun j=>cond (Nat.beq j 101) 101 (cond (Nat.beq j 100) 100 (cond (Nat.beq j 33) 52 (cond (Nat.beq j 31) 42 (cond (Nat.beq j 30) 6 (cond (Nat.beq j 12) 53 (cond (Nat.beq j 11) 43 (102)))))))) (k:=11) xa6 (krC (ρ:=fun j=>cond (Nat.beq j 101) 101 (cond (Nat.beq j 100) 100 (cond (Nat.beq j 33) 52 (cond (Nat.beq j 31) 42 (cond (Nat.beq j 30) 6 (cond (Nat.beq j 12) 53 (cond (Nat.beq j 11) 43 (102)))))))) (k:=12) rfl (krC (ρ:=fun j=>cond (Nat.beq j 101) 101 (cond (Nat.beq j 100) 100 (cond (Nat.beq j 33) 52 (cond (Nat.beq j 31) 42 (cond (Nat.beq j 30) 6 (cond (Nat.beq j 12) 53 (cond (Nat.beq j 11) 43 (102)))))))) (k:=100) xa6 (krC (ρ:=fun j=>cond (Nat.beq j 101) 101 (cond (Nat.beq j 100) 100 (cond (Nat.beq j 33) 52 (cond (Nat.beq j 31) 42 (cond (Nat.beq j 30) 6 (cond (Nat.beq j 12) 53 (cond (Nat.beq j 11) 43 (102)))))))) (k:=101) xa6 (krC (ρ:=fun j=>cond (Nat.beq j 101) 101 (cond (Nat.beq j 100) 100 (cond (Nat.beq j 33) 52 (cond (Nat.beq j 31) 42 (cond (Nat.beq j 30) 6 (cond (Nat.beq j 12) 53 (cond (Nat.beq j 11) 43 (102)))))))) (k:=102) xa6 (krN (ρ:=fun j=>cond (Nat.beq j 101) 101 (cond (Nat.beq j 100) 100 (cond (Nat.beq j 33) 52 (cond (Nat.beq j 31) 42 (cond (Nat.beq j 30) 6 (cond (Nat.beq j 12) 53 (cond (Nat.beq j 11) 43 (102))))))))))))))) ⟨⟨rfl,(SupX.lit rfl)⟩,⟨rfl,xa5⟩,⟨rfl,(SupX.lit rfl)⟩,⟨rfl,xa5⟩,⟨rfl,xa5⟩,⟨rfl,xa5⟩,trivial⟩ rfl) ⟨rfl,rfl,trivial⟩ ⟨rfl,rfl,rfl,rfl,rfl,rfl,trivial⟩ ⟨rfl,rfl,trivial⟩ ?_
  refine A8 ?_;exact fun _ _ hs=>xh2 3 ⟨(by decide),(by decide)⟩ (zae rfl (zan rfl (zan rfl zay))) (SubK.cons rfl (SubK.cons rfl (SubK.cons rfl (SubK.cons rfl (SubK.cons rfl (SubK.cons rfl (SubK.cons rfl (SubK.cons rfl zax)))))))) (zaj (zak rfl (zak rfl zar))) (zam rfl (supJL rfl) (zam rfl (supJ xa5) (zam rfl (supJ xa5) (zam rfl (supJ xa5) (zam rfl (supJL rfl) (zam rfl (supJL rfl) (zam rfl (supJ xa5) (zam rfl (supJL rfl) zaz)))))))) (lkOk rfl) hs
 ·
  show wc _ _ _ _ (upd (upd (upd (fun _=>none) 0 (some (.own (.sl 20 1 0 3)))) 3 (some (.own (.ptr 6 0)))) 4 (some (.val (tI 3)))) (upd (upd (upd (upd (upd (upd (upd (upd (fun _=>none) 6 (some ((bgT (.own (.sl 43 1 0 (((0+2*a.length)+2*b.length)+2*c.length))) (.own (.sl 53 1 0 3)))))) 43 (some (⟨37,1,false,rV tH (hdz a++hdz b++hdz c)⟩))) 53 (some (⟨51,1,false,[.own (.sl 100 8 0 a.length),.own (.sl 101 8 0 b.length),.own (.sl 102 8 0 c.length)]⟩))) 20 (some (⟨51,1,false,[.own (.sl 100 8 0 a.length),.own (.sl 101 8 0 b.length),.own (.sl 102 8 0 c.length)]⟩))) 100 (some (⟨59,8,true,rV tZe a⟩))) 101 (some (⟨59,8,true,rV tZe b⟩))) 102 (some (⟨59,8,true,rV tZe c⟩))) 99 (some (⟨0,1,false,[]⟩))) (nm [6,43,53,20,100,101,102,99,33,34,41,51,42,52]);refine A9 ?_;refine xw4 rfl (zbf (by decide)) ?_;refine A6 ?_;have hlen:us.length=(((0+2*a.length)+2*b.length)+2*c.length):=by
   have h:=congrArg List.length hus;rw [zcq,zbp,zbp,yc1,yc1,yc1] at h;omega
  have hfree: ∀x∈([(30,(bgT (.own (.sl 31 1 0 (((0+2*a.length)+2*b.length)+2*c.length))) (.own (.sl 32 1 0 3)))),(31,⟨37,1,false,rV tH (hdz a++hdz b++hdz c)⟩),(32,⟨51,1,false,[.own (.sl 100 8 0 a.length),.own (.sl 101 8 0 b.length),.own (.sl 102 8 0 c.length)]⟩),(100,⟨59,8,true,rV tZe a⟩),(101,⟨59,8,true,rV tZe b⟩),(102,⟨59,8,true,rV tZe c⟩)]:List (Nat×HEnt)),∀e∈x.2.ts,Wk e e:=fun x hx=>by
   simp only [zbr,zdm,or_false] at hx;rcases hx with rfl | rfl | rfl | rfl | rfl | rfl
   ·exact wk_bag
   ·exact xt0 fun _=>Free.E
   ·exact wd8
   ·exact xt0 fun _=>Free.ze
   ·exact xt0 fun _=>Free.ze
   ·exact xt0 fun _=>Free.ze
  refine A2 ?_;refine RE (qj8 (fun j=>cond (Nat.beq j 30) 6 (cond (Nat.beq j 31) 43 (cond (Nat.beq j 32) 53 j))) hU (jr6 V us (hdz a++hdz b++hdz c) (((0+2*a.length)+2*b.length)+2*c.length) a b c hlen hus hsep (by omega) hul ha hb hc) fi153 rfl (krC (ρ:=(fun j=>cond (Nat.beq j 30) 6 (cond (Nat.beq j 31) 43 (cond (Nat.beq j 32) 53 j)))) (k:=30) rfl (krC (ρ:=(fun j=>cond (Nat.beq j 30) 6 (cond (Nat.beq j 31) 43 (cond (Nat.beq j 32) 53 j)))) (k:=31) xa6 (krC (ρ:=(fun j=>cond (Nat.beq j 30) 6 (cond (Nat.beq j 31) 43 (cond (Nat.beq j 32) 53 j)))) (k:=32) rfl (krC (ρ:=(fun j=>cond (Nat.beq j 30) 6 (cond (Nat.beq j 31) 43 (cond (Nat.beq j 32) 53 j)))) (k:=100) xa6 (krC (ρ:=(fun j=>cond (Nat.beq j 30) 6 (cond (Nat.beq j 31) 43 (cond (Nat.beq j 32) 53 j)))) (k:=101) xa6 (krC (ρ:=(fun j=>cond (Nat.beq j 30) 6 (cond (Nat.beq j 31) 43 (cond (Nat.beq j 32) 53 j)))) (k:=102) xa6 (krN (ρ:=(fun j=>cond (Nat.beq j 30) 6 (cond (Nat.beq j 31) 43 (cond (Nat.beq j 32) 53 j))))))))))) rfl (by intro e he;rw [zbj.1 he];exact .ptr) hfree) ⟨rfl,trivial⟩ ⟨rfl,rfl,rfl,rfl,rfl,rfl,rfl,trivial⟩ trivial ?_;refine A4 ?_;exact qw0 hU rfl rfl rfl
instance fi199:FnI Tryz.prog 199:=⟨_,func199,by kernel_rfl,rfl⟩
theorem fr0_eq {f:Fr} (h1:f.n.neg=false) (h2:f.d.neg=false) (h3:f.n.l.length=0) (h4:f.d.l.length=0):f=fr0:=by
 obtain ⟨⟨n1,l1⟩,⟨n2,l2⟩⟩:=f;simp only at h1 h2 h3 h4;rw [h1,h2,zcw.1 h3,zcw.1 h4];rfl
theorem fr0_ne {f:Fr} (h:f.n.neg=true∨f.d.neg=true∨0 < f.n.l.length∨0 < f.d.l.length):f≠fr0:=by
 rintro rfl;rcases h with h | h | h | h <;> cases h
theorem qs9 {v:Va} (h1: ¬(v.kind=2∨v.kind=3)) (h2:v.f≠fr0):v.valid=false:=by
 simp only [Va.valid];rw [if_neg h1,zbf h2];simp
theorem qt0 {u v:Va}:u=v↔u.kind=v.kind/\u.i=v.i/\u.f.n=v.f.n/\u.f.d=v.f.d:=by
 constructor
 ·rintro rfl;exact ⟨rfl,rfl,rfl,rfl⟩
 ·obtain ⟨k,⟨n,d⟩,i⟩:=u;obtain ⟨k2,⟨n2,d2⟩,i2⟩:=v;rintro ⟨h1,h2,h3,h4⟩;simp only at h1 h2 h3 h4;rw [h1,h2,h3,h4]
theorem zn0 (v:Va) (hD:v.f.dig) (h1:v.f.n.l.length<=1048576) (h2:v.f.d.l.length<=1048576):
  Ct Tryz.prog 122 [tVa v] (tB v.valid):=by
 refine Ct.intro func122 rfl ntmps122 rfl ?_;intro w F;refine A13 ?_;refine RGcaseD (t:=6) rfl (fun h14=> ?_) (fun h14=> ?_)
 ·
  refine A13 ?_;refine RGcaseD (t:=14) rfl (fun h15=> ?_) (fun h15=> ?_)
  ·
   refine A2 ?_;refine Rg (zbg h15) rfl (x3 (yo7 v.f hD.1 hD.2) fi52 rfl) rfl qA ?_;refine A6 ?_;exact E1 rfl rfl (zau (by simp only [Va.valid];rw [if_pos (show v.kind=2∨v.kind=3 by omega),zbg h15,zdr]))
  ·
   refine A9 ?_;exact E1 rfl rfl (zau (by simp only [Va.valid];rw [if_pos (show v.kind=2∨v.kind=3 by omega),zbf h15];rfl))
 ·
  refine A6 ?_;refine x6 rfl (fun h14_2=> ?_) (fun h14_2=> ?_)
  ·
   refine A6 ?_;refine RGcaseD (t:=14) rfl (fun h15=> ?_) (fun h15=> ?_)
   ·
    refine A2 ?_;refine Rg (zbg h15) rfl (x3 (yo7 v.f hD.1 hD.2) fi52 rfl) rfl qA ?_;refine A6 ?_;exact E1 rfl rfl (zau (by simp only [Va.valid];rw [if_pos (show v.kind=2∨v.kind=3 by omega),zbg h15,zdr]))
   ·
    refine A9 ?_;exact E1 rfl rfl (zau (by simp only [Va.valid];rw [if_pos (show v.kind=2∨v.kind=3 by omega),zbf h15];rfl))
  ·
   refine A8 ?_;refine xe1 (0) ti4 rfl rfl rfl (At.t (At.g 1 rfl rfl) (At.t (At.g 0 rfl rfl) (At.g 0 rfl rfl))) rfl ?_;refine A1 ?_;refine RGcase (t:=23) rfl (fun h17=> ?_) (fun h17=> ?_)
   ·
    have hnf:v.f≠fr0:=fr0_ne (.inl h17);refine A18 ?_;refine A11 ?_;exact E1 rfl rfl (zau (qs9 (by omega) hnf).symm)
   ·
    refine A3 ?_;refine xb2 h17 rfl rfl (0) ti4 rfl rfl rfl (At.t (At.g 1 rfl rfl) (At.t (At.g 1 rfl rfl) (At.g 0 rfl rfl))) rfl ?_;refine A2 ?_;refine RGcase (t:=29) rfl (fun h17_2=> ?_) (fun h17_2=> ?_)
    ·
     have hnf:v.f≠fr0:=fr0_ne (.inr (.inl h17_2));refine A18 ?_;refine A5 ?_;exact E1 rfl rfl (zau (qs9 (by omega) hnf).symm)
    ·
     refine A3 ?_;refine xb2 h17_2 rfl rfl (0) ti37 rfl rfl rfl (At.t (At.g 1 rfl rfl) (At.t (At.g 0 rfl rfl) (At.g 1 rfl rfl))) rfl ?_;refine A4 ?_;refine xb2 h17_2 rfl rfl (0) ti37 rfl rfl rfl (At.t (At.g 1 rfl rfl) (At.t (At.g 1 rfl rfl) (At.g 1 rfl rfl))) rfl ?_;refine A1 ?_;refine Rg h17_2 rfl (xd8 zah) rfl qB ?_;refine A4 ?_;refine x6 rfl (fun h17_3=> ?_) (fun h17_3=> ?_)
     ·
      have hnf:v.f≠fr0:=fr0_ne (by omega);refine A7 ?_;exact E1 rfl rfl (zau (qs9 (by omega) hnf).symm)
     ·
      have hf0:v.f=fr0:=fr0_eq h17 h17_2 (by omega) (by omega);refine A16 ?_;refine x6 rfl (fun h21=> ?_) (fun h21=> ?_)
      ·
       refine A6 ?_;refine RGcaseD (t:=50) rfl (fun h22=> ?_) (fun h22=> ?_)
       ·
        refine A10 ?_;exact E1 rfl rfl (zau (by simp only [Va.valid];rw [if_neg (show ¬(v.kind=2∨v.kind=3) by omega),if_pos (show v.kind=1 by omega),zbg hf0,zdr,zbg (show 0<=v.i by omega),zbg (show v.i<=1 by omega)];rfl))
       ·
        refine A10 ?_;exact E1 rfl rfl (zau (by simp only [Va.valid];rw [if_neg (show ¬(v.kind=2∨v.kind=3) by omega),if_pos (show v.kind=1 by omega),zbg hf0,zdr,<-Bool.decide_and];exact zea.2 (by omega)))
      ·
       refine A6 ?_;refine x6 rfl (fun h23=> ?_) (fun h23=> ?_)
       ·
        refine A6 ?_;refine RGcaseD (t:=60) rfl (fun h24=> ?_) (fun h24=> ?_)
        ·
         refine A10 ?_;exact E1 rfl rfl (zau (by simp only [Va.valid];rw [if_neg (show ¬(v.kind=2∨v.kind=3) by omega),if_neg (show ¬v.kind=1 by omega),if_pos (show v.kind=4 by omega),zbg hf0,zdr,<-Bool.decide_and];exact zea.2 (by omega)))
        ·
         refine A10 ?_;exact E1 rfl rfl (zau (by simp only [Va.valid];rw [if_neg (show ¬(v.kind=2∨v.kind=3) by omega),if_neg (show ¬v.kind=1 by omega),if_pos (show v.kind=4 by omega),zbg hf0,zdr,zbf (show ¬0<=v.i by omega)];rfl))
       ·
        refine A7 ?_;refine x6 rfl (fun h25=> ?_) (fun h25=> ?_)
        ·
         refine A2 ?_;refine yr6 rfl (zbg (by omega)) ?_;refine A6 ?_;refine RGcaseD (t:=71) rfl (fun h26=> ?_) (fun h26=> ?_)
         ·
          refine A10 ?_;exact E1 rfl rfl (zau (by simp only [Va.valid];rw [if_neg (show ¬(v.kind=2∨v.kind=3) by omega),if_neg (show ¬v.kind=1 by omega),if_neg (show ¬v.kind=4 by omega),if_pos (show v.kind=5∨v.kind=6 by omega),zbg hf0,zdr,<-Bool.decide_and];exact zea.2 (by omega)))
         ·
          refine A10 ?_;exact E1 rfl rfl (zau (by simp only [Va.valid];rw [if_neg (show ¬(v.kind=2∨v.kind=3) by omega),if_neg (show ¬v.kind=1 by omega),if_neg (show ¬v.kind=4 by omega),if_pos (show v.kind=5∨v.kind=6 by omega),zbg hf0,zdr,zbf (show ¬ -1048576<=v.i by omega)];rfl))
        ·
         refine A5 ?_;refine x6 rfl (fun h25_2=> ?_) (fun h25_2=> ?_)
         ·
          refine A6 ?_;refine RGcaseD (t:=71) rfl (fun h26=> ?_) (fun h26=> ?_)
          ·
           refine A10 ?_;exact E1 rfl rfl (zau (by simp only [Va.valid];rw [if_neg (show ¬(v.kind=2∨v.kind=3) by omega),if_neg (show ¬v.kind=1 by omega),if_neg (show ¬v.kind=4 by omega),if_pos (show v.kind=5∨v.kind=6 by omega),zbg hf0,zdr,<-Bool.decide_and];exact zea.2 (by omega)))
          ·
           refine A10 ?_;exact E1 rfl rfl (zau (by simp only [Va.valid];rw [if_neg (show ¬(v.kind=2∨v.kind=3) by omega),if_neg (show ¬v.kind=1 by omega),if_neg (show ¬v.kind=4 by omega),if_pos (show v.kind=5∨v.kind=6 by omega),zbg hf0,zdr,zbf (show ¬ -1048576<=v.i by omega)];rfl))
         ·
          refine A9 ?_;exact E1 rfl rfl (zau (by simp only [Va.valid];rw [if_neg (show ¬(v.kind=2∨v.kind=3) by omega),if_neg (show ¬v.kind=1 by omega),if_neg (show ¬v.kind=4 by omega),if_neg (show ¬(v.kind=5∨v.kind=6) by omega)]))
theorem zm7 (x y:Wh) (hx:x.l.length<=1048576):
  Ct Tryz.prog 199 [tWh x,tWh y] (tB (decide (x=y))):=by
 refine Ct.intro func199 rfl ntmps199 rfl ?_;intro w F;refine A16 ?_;refine RGcase (t:=11) rfl (fun h33=> ?_) (fun h33=> ?_)
 ·
  have hn:x.neg≠y.neg:=fun h=>by rw [h] at h33;simp at h33
  refine A18 ?_;exact E1 rfl rfl (zau (zbf (fun h=>hn (by rw [h]))).symm)
 ·
  have hn:x.neg=y.neg:=by simpa using h33
  refine A10 ?_;refine x6 rfl (fun h33_2=> ?_) (fun h33_2=> ?_)
  ·
   refine A7 ?_;exact E1 rfl rfl (zau (zbf (fun h=>by rw [h] at h33_2;omega)).symm)
  ·
   have hll:x.l.length=y.l.length:=by omega
   refine A9 ?_;refine cL (fun (i:Nat)=>i<=x.l.length/\x.l.take i=y.l.take i) (fun (i:Nat)=>uV (uO (uO uN 2 (.ptr 2 0)) 3 (.ptr 3 0)) 5 (tI i)) (fun (i:Nat)=>uK (uK uN 2 39 2 true [.val (tWh x)]) 3 39 2 true [.val (tWh y)]) [2,3] (fun (i:Nat)=>x.l.length - i) (0) ⟨zbq _,rfl⟩ ?_;intro i hI;obtain ⟨hi,ht⟩:=hI;refine A10 ?_;refine x6 rfl (fun h36=> ?_) (fun h36=> ?_)
   ·
    refine A9 ?_;refine R2 (x4 sl37 (i) (by omega) (gN (by omega))) rfl rfl ?_;refine A4 ?_;refine R2 (x4 sl37 (i) (by omega) (gN (by omega))) rfl rfl ?_;refine A4 ?_;refine x6 rfl (fun h37=> ?_) (fun h37=> ?_)
    ·
     refine A11 ?_;exact E1 rfl rfl (zau (zbf (fun h=>by rw [h] at h37;omega)).symm)
    ·
     refine A8 ?_;exact kF (i+1) ⟨⟨by omega,by rw [xf8 x.l i (by omega),xf8 y.l i (by omega),ht,show x.l.getD i 0=y.l.getD i 0 by omega]⟩,(by omega)⟩
   ·
    refine A11 ?_;exact E1 rfl rfl (zau (zbg (by rw [show i=x.l.length by omega,zbx,hll,zbx] at ht;obtain ⟨a,b⟩:=x;obtain ⟨c,d⟩:=y;simp only at hn ht;rw [hn,ht])).symm)
theorem ym0 (u v:Va) (h1:u.f.n.l.length<=1048576) (h2:u.f.d.l.length<=1048576):
  Ct Tryz.prog 124 [tVa u,tVa v] (tB (decide (u=v))):=by
 refine Ct.intro func124 rfl ntmps124 rfl ?_;intro w F;refine A15 ?_;refine RGcaseD (t:=10) rfl (fun h46=> ?_) (fun h46=> ?_)
 ·
  refine A7 ?_;refine RGcaseD (t:=17) rfl (fun h46_2=> ?_) (fun h46_2=> ?_)
  ·
   refine A2 ?_;refine xb2 (zbg h46_2) rfl rfl (0) ti39 rfl rfl rfl (At.t (At.g 1 rfl rfl) (At.g 0 rfl rfl)) rfl ?_;refine A2 ?_;refine xb2 (zbg h46_2) rfl rfl (0) ti39 rfl rfl rfl (At.t (At.g 1 rfl rfl) (At.g 0 rfl rfl)) rfl (Rg (zbg h46_2) rfl (x3 (zm7 _ _ h1) fi199 rfl) rfl qB ?_);refine A2 ?_;refine RGcaseD (t:=26) rfl (fun h46_3=> ?_) (fun h46_3=> ?_)
   ·
    refine A2 ?_;refine xb2 (zbg h46_3) rfl rfl (0) ti39 rfl rfl rfl (At.t (At.g 1 rfl rfl) (At.g 1 rfl rfl)) rfl ?_;refine A2 ?_;refine xb2 (zbg h46_3) rfl rfl (0) ti39 rfl rfl rfl (At.t (At.g 1 rfl rfl) (At.g 1 rfl rfl)) rfl (Rg (zbg h46_3) rfl (x3 (zm7 _ _ h2) fi199 rfl) rfl qB ?_);refine A5 ?_;exact E1 rfl rfl (zau (zea.2 (by rw [qt0];exact ⟨fun h=>⟨by omega,by omega,h46_3,h⟩,fun h=>h.2.2.2⟩)))
   ·
    refine A12 ?_;exact E1 rfl rfl (zau (zbf (fun h=>h46_3 (qt0.1 h).2.2.1)).symm)
  ·
   refine A18 ?_;refine A3 ?_;exact E1 rfl rfl (zau (zbf (fun h=>h46_2 (qt0.1 h).2.1)).symm)
 ·
  refine A18 ?_;refine A10 ?_;exact E1 rfl rfl (zau (zbf (fun h=>h46 (by rw [h]))).symm)
end An.S
namespace An.S
open Go
def rOk (l:List Tst) (i:Nat):Prop:=((0<=(l.getD i tst0).lo/\(l.getD i tst0).lo < (l.getD i tst0).hi/\(l.getD i tst0).hi<=65536)/\(l.getD i tst0).v.valid=true/\(l.getD i tst0).v.kind=(l.getD 0 tst0).v.kind)/\
 (i=0∨(l.getD (i - 1) tst0).hi<=(l.getD i tst0).lo/\ ¬((l.getD (i - 1) tst0).hi=(l.getD i tst0).lo/\(l.getD (i - 1) tst0).v=(l.getD i tst0).v))
theorem qk7 {l:List Tst}:tRight l=true↔ ∀i,i < l.length->rOk l i:=by
 constructor
 ·intro h i hi;have h1:=xt7 h hi;exact ⟨⟨⟨h1.1,h1.2.1,h1.2.2.1⟩,y5 h _ (xi0 hi),zg6 h hi⟩,h1.2.2.2.imp id fun h2=>⟨h2.1,h2.2.2⟩⟩
 ·intro h;refine yf8.2 ⟨fun i hi=>yb8.2 ?_,fun s hs=> ?_⟩
  ·have h1:=h i hi;refine ⟨h1.1.1.1,h1.1.1.2.1,h1.1.1.2.2,h1.2.imp id fun h2=>⟨h2.1,?_,h2.2⟩⟩;rw [h1.1.2.2];by_cases h0:i=0
   ·subst h0;rfl
   ·exact (h (i - 1) (by omega)).1.2.2
  ·obtain ⟨i,hi,rfl⟩:=xv0 hs;exact (h i hi).1.2.1
theorem ye6 {l:List Tst} {i:Nat} (hi:i < l.length) (h: ¬rOk l i):false=tRight l:=by
 cases hr:tRight l with
 | false=>rfl
 | true=>exact absurd (qk7.1 hr i hi) h
def parR (acc:List Tst) (s:Tst):List Tst:=if s.lo < s.hi then acc++[s] else acc
def cutR (l:List Tst) (a b:Int):List Tst:=(l.map (clip a b)).foldl parR []
theorem yq8 {l:List Tst} {a b:Int} {i:Nat} (hi:i < l.length):cutR (l.take (i+1)) a b=parR (cutR (l.take i) a b) (clip a b (l.getD i tst0)):=by
 rw [cutR,cutR,zby hi,zeo,zft,zbh,zbi hi];rfl
theorem jg0 {l:List Tst} {a b:Int} {i:Nat} (hi:i < l.length):cutT (l.take (i+1)) a b=pst1 (cutT (l.take i) a b) (clip a b (l.getD i tst0)):=by
 rw [cutT,cutT,zby hi,zeo,pst,zft,zbh,zbi hi];rfl
theorem zw6 {l:List Tst} {a b:Int}: ∀{i:Nat},i<=l.length->(cutR (l.take i) a b).length<=i
 | 0,_=>by simp [cutR]
 | i+1,hi=>by
  have:=zw6 (l:=l) (a:=a) (b:=b) (i:=i) (by omega);rw [yq8 (by omega),parR];split
  ·simp;omega
  ·omega
theorem qu7 {l:List Tst} {a b:Int} (h:tRight l=true): ∀i,i<=l.length->cutR (l.take i) a b=cutT (l.take i) a b/\ ∀x∈cutR (l.take i) a b,∃j,j < i/\x=clip a b (l.getD j tst0)/\x.lo < x.hi
 | 0,_=>⟨by simp [cutR,cutT,pst],fun x hx=>by simp [cutR] at hx⟩
 | i+1,hi=>by
  obtain ⟨h1,h2⟩:=qu7 h i (by omega);rw [yq8 (by omega),jg0 (by omega),<-h1];have h3:=xt7 h (i:=i) (by omega);refine ⟨?_,fun x hx=> ?_⟩
  ·rw [parR,pst1];by_cases c1:(clip a b (l.getD i tst0)).lo < (clip a b (l.getD i tst0)).hi
   ·rw [if_pos c1,if_neg (by omega),if_neg];rintro ⟨q1,q2,q3⟩;obtain ⟨j,hj,e,hlt⟩:=h2 _ (xi0 (l:=cutR (l.take i) a b) (i:=(cutR (l.take i) a b).length - 1) (by omega));rw [e] at q2 q3 hlt;simp only [clip] at q2 q3 hlt c1;have h4:=ya8 h hj (by omega);have e1:(l.getD j tst0).hi=(l.getD i tst0).lo:=by omega
    by_cases hji:j=i - 1
    ·subst hji;rcases h3.2.2.2 with h0 | h0
     ·omega
     ·exact h0.2.2 ⟨e1,q3⟩
    ·have h5:=ya8 h (i:=j) (j:=i - 1) (by omega) (by omega);have h6:=(xt7 h (i:=i - 1) (by omega)).2.1;have h7:=ya8 h (i:=i - 1) (j:=i) (by omega) (by omega);omega
   ·rw [if_neg c1,if_pos (by omega)]
  ·rw [parR] at hx;split at hx
   ·rename_i hc;rcases zbo.1 hx with hx | hx
    ·obtain ⟨j,hj,h4⟩:=h2 x hx;exact ⟨j,by omega,h4⟩
    ·rw [zbj.1 hx];exact ⟨i,by omega,rfl,hc⟩
   ·obtain ⟨j,hj,h4⟩:=h2 x hx;exact ⟨j,by omega,h4⟩
theorem cut_R {l:List Tst} {a b:Int} (h:tRight l=true):cutR l a b=cutT l a b:=by
 have:=(qu7 (a:=a) (b:=b) h l.length (zbs _)).1
 rwa [zbx] at this
end An.S
namespace An.S
open Go Go.Proofs An Tryz
instance fi23:FnI Tryz.prog 23:=⟨_,func23,by kernel_rfl,rfl⟩
instance fi107:FnI Tryz.prog 107:=⟨_,func107,by kernel_rfl,rfl⟩
instance fi116:FnI Tryz.prog 116:=⟨_,func116,by kernel_rfl,rfl⟩
instance fi122:FnI Tryz.prog 122:=⟨_,func122,by kernel_rfl,rfl⟩
instance fi124:FnI Tryz.prog 124:=⟨_,func124,by kernel_rfl,rfl⟩
instance fi163:FnI Tryz.prog 163:=⟨_,func163,by kernel_rfl,rfl⟩
instance fi193:FnI Tryz.prog 193:=⟨_,func193,by kernel_rfl,rfl⟩
instance fi194:FnI Tryz.prog 194:=⟨_,func194,by kernel_rfl,rfl⟩
instance fi195:FnI Tryz.prog 195:=⟨_,func195,by kernel_rfl,rfl⟩
instance fi227:FnI Tryz.prog 227:=⟨_,func227,by kernel_rfl,rfl⟩
theorem jp7 (a b:Rat) (ha:short a) (hb:short b):
  Ct Tryz.prog 227 [tFr (fr a),tFr (fr b)] (tFr (fr (a+b))):=by
 obtain ⟨an,ad⟩:=ha;obtain ⟨bn,bd⟩:=hb;have ha:short a:=⟨an,ad⟩
 have hb:short b:=⟨bn,bd⟩
 have da:=a.den_nz;have db:=b.den_nz;have l1:=len16_mul an bd;have l2:=len16_mul bn ad;have l3:=len16_mul ad bd;have l4:=len16_add (x:=a.num*(b.den:Int)) (y:=b.num*(a.den:Int)) (k:=512) (by omega) (by omega);refine Ct.intro func227 rfl ntmps227 rfl ?_;intro w F;refine A4 ?_;refine RE (x7 (k:=4) (n:=4) (agg:=true) zr41.1 zr41.2 rfl) trivial trivial qA ?_;refine A8 ?_;refine R2 (x3 (yf7 a.num (b.den:Int) (by omega) (by omega)) fi140 rfl) rfl rfl ?_;refine A4 ?_;refine R2 (x3 (yf7 b.num (a.den:Int) (by omega) (by omega)) fi140 rfl) rfl rfl (R2 (x3 (c_RSum (a.num*(b.den:Int)) (b.num*(a.den:Int)) (by omega) (by omega)) fi217 rfl) rfl rfl (RE (x7 (k:=5) (n:=2) (agg:=true) zr39.1 zr39.2 rfl) trivial trivial qA ?_));refine A10 ?_;refine R2 (x3 (yf7 (a.den:Int) (b.den:Int) (by omega) (by omega)) fi140 rfl) rfl rfl (R2 (x3 (zo1 (a.num*(b.den:Int)+b.num*(a.den:Int)) ((a.den:Int)*(b.den:Int)) (by omega) (by omega) (Int.mul_ne_zero (by omega) (by omega))) fi70 rfl) rfl rfl ?_);refine A4 ?_;exact EC rfl ⟨_,_,_,_,_,rfl,rfl,ti41,(Le.of (by rw [ym3]))⟩
theorem w6 (a b:Rat) (ha:short a) (hb:short b):
  Ct Tryz.prog 193 [tFr (fr a),tFr (fr b)] (tT [tFr (resF (a+b)),tI (resFE (a+b))]):=by
 refine Ct.intro func193 rfl ntmps193 rfl ?_;intro w F;refine A4 ?_;refine RE (x7 (k:=4) (n:=4) (agg:=true) zr41.1 zr41.2 rfl) trivial trivial qA ?_;refine A7 ?_;refine R1 (x3 (yi7 a ha) fi52 rfl) rfl ?_;refine A3 ?_;refine Rg rfl rfl (x3 (yi7 b hb) fi52 rfl) rfl qA ?_;refine A11 ?_;refine R2 (x3 (jp7 a b ha hb) fi227 rfl) rfl rfl (R1 (x3 (qa5 (a+b)) fi258 rfl) rfl ?_);refine A7 ?_;exact EN (rs:=[.cell 4 41,.tmp 5]) rfl rfl ⟨⟨_,_,_,_,_,rfl,rfl,ti41,zao⟩,⟨_,rfl,zao⟩,trivial⟩
theorem jr8 (f:Fr) (n:Int) (hf1:f=fr f.rat) (hf2:short f.rat) (hn:short (n:Rat)):Ct Tryz.prog 163 [tFr f,tFr (fr (n:Rat))] (tT [tFr (resF (f.rat*(n:Rat))),tI (resFE (f.rat*(n:Rat)))]):=by
 have h:=jv9 f.rat (n:Rat) hf2 hn;rw [<-hf1] at h;exact h
theorem jp6 (q p:Rat) (hq:short q) (hp:short p):Ct Tryz.prog 193 [tFr (fr q),tFr (resF p)] (tT [tFr (resF (q+p)),tI (resFE (q+p))]):=by
 rw [show resF p=fr p from if_pos hp];exact w6 q p hq hp
theorem ya7 (l:List Tst) (hl:l.length<=500000) (hD: ∀s∈l,s.v.f.dig) (hs: ∀s∈l,s.v.f.n.l.length<=1048576/\s.v.f.d.l.length<=1048576):
  Ct Tryz.prog 107 [tL 8 true tTs l] (tB (tRight l)):=by
 refine Ct.intro func107 rfl ntmps107 rfl ?_;intro w F;refine A12 ?_;refine cL (fun (i:Nat)=>i<=l.length/\ ∀j,j < i->rOk l j) (fun (i:Nat)=>uV (uV uN 0 (tL 8 true tTs l)) 3 (tI i)) (fun (i:Nat)=>fun _=>none) [] (fun (i:Nat)=>l.length - i) (0) ⟨zbq _,fun j hj=>by omega⟩ ?_;intro i hI;obtain ⟨hi,hok⟩:=hI;refine A9 ?_;refine x6 rfl (fun h51=> ?_) (fun h51=> ?_)
 ·
  refine A9 ?_;refine R2 (x4 sl51 (i) (by omega) (zai (l:=l) (n:=i) (d:=tst0))) rfl rfl (R1 (xf3 fo59_0.h (At.f 0 rfl rfl) rfl) rfl ?_);refine A3 ?_;refine RGcaseD (t:=16) rfl (fun h52=> ?_) (fun h52=> ?_)
  ·
   refine A18 ?_;refine A18 ?_;refine A18 ?_;refine A4 ?_;exact E1 rfl rfl (zau (ye6 (i:=i) (by omega) (fun h=>by have q1:=h.1.1;have q2:=h.1.2.1;have q3:=h.1.2.2;first | omega | (rw [q2] at h52_4;cases h52_4))))
  ·
   refine A2 ?_;refine Rg (zbf h52) rfl (x4 sl51 (i) (by omega) (zai (l:=l) (n:=i) (d:=tst0))) rfl ⟨rfl,rfl,trivial⟩ (Rg (zbf h52) rfl (xf3 fo59_0.h (At.f 0 rfl rfl) rfl) rfl ⟨rfl,trivial⟩ ?_);refine A3 ?_;refine Rg (zbf h52) rfl (x4 sl51 (i) (by omega) (zai (l:=l) (n:=i) (d:=tst0))) rfl ⟨rfl,rfl,trivial⟩ (Rg (zbf h52) rfl (xf3 fo59_1.h (At.f 1 rfl rfl) rfl) rfl ⟨rfl,trivial⟩ ?_);refine A4 ?_;refine RGcaseD (t:=29) rfl (fun h52_2=> ?_) (fun h52_2=> ?_)
   ·
    refine A18 ?_;refine A18 ?_;refine A9 ?_;exact E1 rfl rfl (zau (ye6 (i:=i) (by omega) (fun h=>by have q1:=h.1.1;have q2:=h.1.2.1;have q3:=h.1.2.2;first | omega | (rw [q2] at h52_4;cases h52_4))))
   ·
    refine A2 ?_;refine Rg (zbf h52_2) rfl (x4 sl51 (i) (by omega) (zai (l:=l) (n:=i) (d:=tst0))) rfl ⟨rfl,rfl,trivial⟩ (Rg (zbf h52_2) rfl (xf3 fo59_1.h (At.f 1 rfl rfl) rfl) rfl ⟨rfl,trivial⟩ ?_);refine A4 ?_;refine RGcaseD (t:=37) rfl (fun h52_3=> ?_) (fun h52_3=> ?_)
    ·
     refine A18 ?_;refine A18 ?_;refine A1 ?_;exact E1 rfl rfl (zau (ye6 (i:=i) (by omega) (fun h=>by have q1:=h.1.1;have q2:=h.1.2.1;have q3:=h.1.2.2;first | omega | (rw [q2] at h52_4;cases h52_4))))
    ·
     refine A2 ?_;refine Rg (zbf h52_3) rfl (x4 sl51 (i) (by omega) (zai (l:=l) (n:=i) (d:=tst0))) rfl ⟨rfl,rfl,trivial⟩ (Rg (zbf h52_3) rfl (xf3 fo59_2.h (At.f 2 rfl rfl) rfl) rfl ⟨rfl,trivial⟩ ?_);refine A1 ?_;refine Rg (zbf h52_3) rfl (x3 (zn0 _ (hD _ (xi0 (l:=l) (i:=i) (by omega))) (hs _ (xi0 (l:=l) (i:=i) (by omega))).1 (hs _ (xi0 (l:=l) (i:=i) (by omega))).2) fi122 rfl) rfl qA ?_;refine A3 ?_;refine RGcase (t:=46) rfl (fun h52_4=> ?_) (fun h52_4=> ?_)
     ·
      refine A18 ?_;refine A10 ?_;exact E1 rfl rfl (zau (ye6 (i:=i) (by omega) (fun h=>by have q1:=h.1.1;have q2:=h.1.2.1;have q3:=h.1.2.2;first | omega | (rw [q2] at h52_4;cases h52_4))))
     ·
      have hv:(l.getD i tst0).v.valid=true:=by simpa using h52_4
      refine A2 ?_;refine Rg h52_4 rfl (x4 sl51 (i) (by omega) (zai (l:=l) (n:=i) (d:=tst0))) rfl ⟨rfl,rfl,trivial⟩ (Rg h52_4 rfl (xf3 fo59_2.h (At.f 2 rfl rfl) rfl) rfl ⟨rfl,trivial⟩ (Rg h52_4 rfl (xf3 fo57_0.h (At.f 0 rfl rfl) rfl) rfl ⟨rfl,trivial⟩ ?_));refine A2 ?_;refine Rg h52_4 rfl (x4 sl51 (0) (by omega) (zai (l:=l) (n:=0) (d:=tst0))) rfl ⟨rfl,rfl,trivial⟩ (Rg h52_4 rfl (xf3 fo59_2.h (At.f 2 rfl rfl) rfl) rfl ⟨rfl,trivial⟩ (Rg h52_4 rfl (xf3 fo57_0.h (At.f 0 rfl rfl) rfl) rfl ⟨rfl,trivial⟩ ?_));refine A5 ?_;refine x6 rfl (fun h52_5=> ?_) (fun h52_5=> ?_)
      ·
       refine A12 ?_;exact E1 rfl rfl (zau (ye6 (i:=i) (by omega) (fun h=>by have q1:=h.1.1;have q2:=h.1.2.1;have q3:=h.1.2.2;first | omega | (rw [q2] at h52_4;cases h52_4))))
      ·
       refine A7 ?_;refine RGcaseD (t:=62) rfl (fun h55=> ?_) (fun h55=> ?_)
       ·
        refine A2 ?_;refine Rg (zbg h55) rfl (xd6 zah) rfl ⟨rfl,rfl,trivial⟩ (Rg (zbg h55) rfl (x4 sl51 (i - 1) (by omega) (zai (l:=l) (n:=i - 1) (d:=tst0))) rfl ⟨rfl,rfl,trivial⟩ (Rg (zbg h55) rfl (xf3 fo59_1.h (At.f 1 rfl rfl) rfl) rfl ⟨rfl,trivial⟩ ?_));refine A3 ?_;refine Rg (zbg h55) rfl (x4 sl51 (i) (by omega) (zai (l:=l) (n:=i) (d:=tst0))) rfl ⟨rfl,rfl,trivial⟩ (Rg (zbg h55) rfl (xf3 fo59_0.h (At.f 0 rfl rfl) rfl) rfl ⟨rfl,trivial⟩ ?_);refine A3 ?_;refine RGcaseD (t:=75) rfl (fun h55_2=> ?_) (fun h55_2=> ?_)
        ·
         refine A18 ?_;refine A8 ?_;refine Rg (zbg h55) rfl (xc9 (zbg h55_2)) rfl qB ?_;refine A15 ?_;exact E1 rfl rfl (zau (ye6 (i:=i) (by omega) (fun h=>by have q:=h.2;first | omega | exact (q.resolve_left (by omega)).2 ⟨by omega,by assumption⟩)))
        ·
         refine A2 ?_;refine Rg (zbf h55_2) rfl (xd6 zah) rfl ⟨rfl,rfl,trivial⟩ (Rg (zbf h55_2) rfl (x4 sl51 (i - 1) (by omega) (zai (l:=l) (n:=i - 1) (d:=tst0))) rfl ⟨rfl,rfl,trivial⟩ (Rg (zbf h55_2) rfl (xf3 fo59_1.h (At.f 1 rfl rfl) rfl) rfl ⟨rfl,trivial⟩ ?_));refine A3 ?_;refine Rg (zbf h55_2) rfl (x4 sl51 (i) (by omega) (zai (l:=l) (n:=i) (d:=tst0))) rfl ⟨rfl,rfl,trivial⟩ (Rg (zbf h55_2) rfl (xf3 fo59_0.h (At.f 0 rfl rfl) rfl) rfl ⟨rfl,trivial⟩ ?_);refine A3 ?_;refine RGcaseD (t:=88) rfl (fun h55_3=> ?_) (fun h55_3=> ?_)
         ·
          refine A2 ?_;refine Rg (zbg h55_3) rfl (xd6 zah) rfl ⟨rfl,rfl,trivial⟩ (Rg (zbg h55_3) rfl (x4 sl51 (i - 1) (by omega) (zai (l:=l) (n:=i - 1) (d:=tst0))) rfl ⟨rfl,rfl,trivial⟩ (Rg (zbg h55_3) rfl (xf3 fo59_2.h (At.f 2 rfl rfl) rfl) rfl ⟨rfl,trivial⟩ ?_));refine A3 ?_;refine Rg (zbg h55_3) rfl (x4 sl51 (i) (by omega) (zai (l:=l) (n:=i) (d:=tst0))) rfl ⟨rfl,rfl,trivial⟩ (Rg (zbg h55_3) rfl (xf3 fo59_2.h (At.f 2 rfl rfl) rfl) rfl ⟨rfl,trivial⟩ ?_);refine A1 ?_;refine Rg (zbg h55_3) rfl (x3 (ym0 _ _ (hs _ (xi0 (l:=l) (i:=i - 1) (by omega))).1 (hs _ (xi0 (l:=l) (i:=i - 1) (by omega))).2) fi124 rfl) rfl qB (Rg (zbf h55_2) rfl (xc9 (zbg h55_3)) rfl qB (Rg (zbg h55) rfl (xc7 (zbf h55_2)) rfl qB ?_));refine A3 ?_;refine x6 rfl (fun h55_4=> ?_) (fun h55_4=> ?_)
          ·
           refine A11 ?_;exact E1 rfl rfl (zau (ye6 (i:=i) (by omega) (fun h=>by have q:=h.2;first | omega | exact (q.resolve_left (by omega)).2 ⟨by omega,by assumption⟩)))
          ·
           refine A8 ?_;exact xz8 (i+1) ⟨⟨by omega,fun j hj=>by
  by_cases hji:j=i
  ·subst hji;exact ⟨⟨⟨by omega,by omega,by omega⟩,hv,by omega⟩,.inr ⟨by omega,fun h=>h55_4 h.2⟩⟩
  ·exact hok j (by omega)⟩, (by omega)⟩ (Sub.int rfl (by first | omega | rfl | (dsimp only; omega)) (zan rfl zay)) zax (zaj (zaj zar)) zaz (lkOk rfl)
         ·
          refine A12 ?_;refine Rg (zbf h55_2) rfl (xc7 (zbf h55_3)) rfl qB (Rg (zbg h55) rfl (xc7 (zbf h55_2)) rfl qB ?_);refine A12 ?_;exact xz8 (i+1) ⟨⟨by omega,fun j hj=>by
  by_cases hji:j=i
  ·subst hji;exact ⟨⟨⟨by omega,by omega,by omega⟩,hv,by omega⟩,.inr ⟨by omega,fun h=>by omega⟩⟩
  ·exact hok j (by omega)⟩, (by omega)⟩ (Sub.int rfl (by first | omega | rfl | (dsimp only; omega)) (zan rfl zay)) zax (zaj (zaj zar)) zaz (lkOk rfl)
       ·
        refine A18 ?_;refine A18 ?_;refine A16 ?_;exact xz8 (i+1) ⟨⟨by omega,fun j hj=>by
  by_cases hji:j=i
  ·subst hji;exact ⟨⟨⟨by omega,by omega,by omega⟩,hv,by omega⟩,.inl (by omega)⟩
  ·exact hok j (by omega)⟩,(by omega)⟩ (zae rfl (zan rfl zay)) zax (zaj (zaj zar)) zaz (lkOk rfl)
 ·
  refine A11 ?_;exact E1 rfl rfl (zau (qk7.2 (fun j hj=>hok j (by omega))).symm)
theorem zb2 (a b:Int):
  Ct Tryz.prog 194 [tI a,tI b] (tB (Sn.ok ⟨a,b⟩)):=by
 refine Ct.intro func194 rfl ntmps194 rfl ?_;intro w F;refine A10 ?_;refine RGcaseD (t:=7) rfl (fun h91=> ?_) (fun h91=> ?_)
 ·
  refine A5 ?_;refine RGcaseD (t:=12) rfl (fun h91_2=> ?_) (fun h91_2=> ?_)
  ·
   refine A7 ?_;exact E1 rfl rfl (zau (by simp [Sn.ok, *]))
  ·
   refine A7 ?_;exact E1 rfl rfl (zau (by simp [Sn.ok, *]))
 ·
  refine A12 ?_;exact E1 rfl rfl (zau (by simp [Sn.ok, *]))
theorem yw3 (zs:List Tst) (s:Tst) (a b:Int) (hz:zs.length<=1000000):
  CtG Tryz.prog 195 [(1,⟨59,8,true,rV tTs zs⟩)] [.own (.sl 1 8 0 zs.length),.val (tTs s),.val (tI a),.val (tI b)] (.own (.sl 90 8 0 (parR zs (clip a b s)).length)) [(90,⟨59,8,true,rV tTs (parR zs (clip a b s))⟩)] [90]:=by
 refine CtG.intro [1] func195 rfl ntmps195 rfl rfl ⟨⟨rfl,xa5⟩,trivial⟩ ?_;intro w F η;refine jc9 (t:=0) (k:=1) 90 rfl rfl rfl ?_;refine A11 ?_;refine R2 yo8 rfl rfl ?_;refine A3 ?_;refine R2 qa1 rfl rfl ?_;refine A1 ?_;refine xi8 (0) ti3 rfl rfl rfl rfl (Up.g 0 rfl rfl rfl) rfl rfl ?_;refine A1 ?_;refine xi8 (0) ti3 rfl rfl rfl rfl (Up.g 1 rfl rfl rfl) rfl rfl ?_;refine A2 ?_;refine xf0 (fun (_j:Unit)=>True) (fun (_j:Unit)=>uO uN 0 (.sl 90 8 0 (parR zs (clip a b s)).length)) (fun (_j:Unit)=>uK uN 90 59 8 true (rV tTs (parR zs (clip a b s)))) (nm [90,1]) ?_ ?_
 ·
  refine A9 ?_;refine x6 rfl (fun h106=> ?_) (fun h106=> ?_)
  ·
   refine A3 ?_;refine R1 (xb5 (n:=1) (f:=tTs) [(clip a b s)] zhm el59 zf59 rfl (fun _=>inferInstance) rfl rfl rfl) rfl (RE (xb3 (k:=90) (k':=27) (f:=tTs) (ys:=[(clip a b s)]) (ts':=rV tTs (zs++[(clip a b s)])) zhm el59 zf59 rfl rfl (fun _=>inferInstance) xd2 (by simp;omega) (by simp;omega) (by simp [rV]) (n':=zs.length+1) rfl) qB qA qA ?_);refine A2 ?_;have e:(parR zs (clip a b s))=zs++[(clip a b s)]:=if_pos h106;exact xc6 (l:=[90,1]) (zab 90 27) (()) trivial ((zbc rfl (zaw (by rw [e,zbp];rfl))) zbd) ((zbb rfl (zat (by rw [e];exact xa6.symm))) zbe) (zak rfl zar) (zam rfl (supJ xa5) zaz) (lkOk rfl) rfl rfl (fun _ h=>by cases h)
  ·
   refine A1 ?_;have e:(parR zs (clip a b s))=zs:=if_neg h106;exact kF (()) trivial (hg:=((zav rfl (zaw (by rw [e]))) zay)) (hh:=((zaq rfl (zat (by rw [e]))) zax))
 ·
  intro _j hj106;refine A7 ?_;exact xc5 LentC.mk' rfl rfl Imp.refl qA rfl ⟨⟨rfl,xa5⟩,trivial⟩ rfl
theorem qm8 (l:List Tst) (hl:l.length<=500000) (a b:Int) (hD: ∀s∈l,s.v.f.dig) (hs: ∀s∈l,s.v.f.n.l.length<=1048576/\s.v.f.d.l.length<=1048576):
  Ct Tryz.prog 116 [tL 8 true tTs l,tI a,tI b] (tT [tL 8 true tTs (if (tRight l=true/\Sn.ok ⟨a,b⟩=true) then cutR l a b else []),tI (if (tRight l=true/\Sn.ok ⟨a,b⟩=true) then 0 else 2)]):=by
 refine Ct.intro func116 rfl ntmps116 rfl ?_;intro w F;refine A10 ?_;refine R1 (x3 (ya7 l hl hD hs) fi107 rfl) rfl ?_;refine A2 ?_;refine RGcase (t:=13) rfl (fun h114=> ?_) (fun h114=> ?_)
 ·
  refine A16 ?_;exact E2 rfl rfl rfl (leNil (if_neg (fun h=>by simp [h.1] at*))) (zba (if_neg (fun h=>by simp [h.1] at*)).symm)
 ·
  refine A2 ?_;refine Rg h114 rfl (x3 (zb2 a b) fi194 rfl) rfl qB ?_;refine A4 ?_;refine xc2 rfl (fun h114_2=> ?_) (fun h114_2=> ?_)
  ·
   refine A8 ?_;exact E2 rfl rfl rfl (leNil (if_neg (fun h=>by simp [h.1,h.2] at*))) (zba (if_neg (fun h=>by simp [h.1,h.2] at*)).symm)
  ·
   refine A4 ?_;refine RE (xe3 (k:=8) 59 8 true rfl (fun h=>by cases h)) trivial trivial qA ?_;refine A9 ?_;have hok:(tRight l=true/\Sn.ok ⟨a,b⟩=true):=by simpa using And.intro h114 h114_2
   refine cL (fun (fm:(Nat)×(List Tst))=>(fun (i:Nat) (zs:List Tst)=>i<=l.length/\zs=cutR (l.take i) a b) fm.1 fm.2) (wB fun (i:Nat) (zs:List Tst)=>uV (uO (uV (uV (uV uN 0 (tL 8 true tTs l)) 1 (tI a)) 2 (tI b)) 8 (.sl 8 8 0 zs.length)) 9 (tI i)) (wB fun (i:Nat) (zs:List Tst)=>uK uN 8 59 8 true (rV tTs zs)) [8] (fun (fm:(Nat)×(List Tst))=>(fun (i:Nat) (zs:List Tst)=>l.length - i) fm.1 fm.2) ((0,[])) (by dsimp only;exact ⟨zbq _,rfl⟩) ?_;intro fm hI;obtain ⟨i,zs⟩:=fm;replace hI:i<=l.length/\zs=cutR (l.take i) a b:=hI;show wc _ _ _ _ (uV (uO (uV (uV (uV uN 0 (tL 8 true tTs l)) 1 (tI a)) 2 (tI b)) 8 (.sl 8 8 0 zs.length)) 9 (tI i)) (uK uN 8 59 8 true (rV tTs zs)) _;obtain ⟨hi,hz⟩:=hI;have hzl:zs.length<=i:=by rw [hz];exact zw6 hi
   refine A9 ?_;refine x6 rfl (fun h118=> ?_) (fun h118=> ?_)
   ·
    refine A8 ?_;refine R2 (x4 sl51 (i) (by omega) (zai (l:=l) (n:=i) (d:=tst0))) rfl rfl ?_;refine A3 ?_;refine RE (xb7 (fun j=>cond (Nat.beq j 1) 8 (32)) (yw3 zs (l.getD i tst0) a b (by omega)) fi195 rfl (krC (ρ:=fun j=>cond (Nat.beq j 1) 8 (32)) (k:=1) xa6 (krN (ρ:=fun j=>cond (Nat.beq j 1) 8 (32)))) (krC (ρ:=fun j=>cond (Nat.beq j 1) 8 (32)) (k:=90) xa6 (krN (ρ:=fun j=>cond (Nat.beq j 1) 8 (32)))) ⟨⟨rfl,xa5⟩,trivial⟩ rfl) qD qA qA ?_;refine A9 ?_;exact xc6 (l:=[8]) (zab 8 32) ((i+1,parR zs (clip a b (l.getD i tst0)))) ⟨(by dsimp only;exact ⟨by omega,by rw [yq8 (by omega),<-hz]⟩),(by dsimp only;omega)⟩ (zaf rfl (zas rfl (zaf rfl (zaf rfl (zas rfl zbd))))) ((zbb rfl (zat xa6.symm)) zbe) (zaj (zak rfl (zaj (zaj (zaj zar))))) (zam rfl (supJ xa5) zaz) (lkOk rfl) rfl rfl (fun _ h=>by cases h)
   ·
    refine A7 ?_;refine RE (xi6 (f:=tTs) (xs:=zs) (fun _ h=>h) (xg2 rfl) rfl) qA qA trivial ?_;refine A5 ?_;exact E2 rfl rfl rfl (Le.of (by rw [if_pos hok,hz,show i=l.length by omega,zbx])) (zba (by rw [if_pos hok]))
theorem ju3 (l:List Tst) (hl:l.length<=500000) (a b:Int) (hD: ∀s∈l,s.v.f.dig) (hs: ∀s∈l,s.v.f.n.l.length<=1048576/\s.v.f.d.l.length<=1048576):
  Ct Tryz.prog 115 [tL 8 true tTs l,tI a,tI b] (tT [tFr (if sumC l a b then sumF (sumT (cutT l a b)) else fr0),tI (if sumC l a b then sumE (sumT (cutT l a b)) else 2)]):=by
 have hcut:=qm8 l hl a b hD hs;obtain ⟨part,hpart⟩: ∃p:List Tst,p=(if (tRight l=true/\Sn.ok ⟨a,b⟩=true) then cutR l a b else []):=⟨_,rfl⟩
 obtain ⟨er,her⟩: ∃e:Int,e=(if (tRight l=true/\Sn.ok ⟨a,b⟩=true) then 0 else 2):=⟨_,rfl⟩
 rw [<-hpart,<-her] at hcut;refine Ct.intro func115 rfl ntmps115 rfl ?_;intro w F;refine A2 ?_;refine RE (x7 (k:=6) (n:=4) (agg:=true) zr41.1 zr41.2 rfl) trivial trivial qA ?_;refine A8 ?_;refine R3 (x3 hcut fi116 rfl) rfl rfl rfl ?_;refine A7 ?_;refine xf0 (fun (_j:Unit)=>numK l/\(tRight l=true/\Sn.ok ⟨a,b⟩=true)) (fun (_j:Unit)=>uV (uO uN 6 (.ptr 6 0)) 8 (tL 8 true tTs part)) (fun (_j:Unit)=>uK uN 6 41 4 true [.val (tFr fr0)]) (nm [6]) ?_ ?_
 ·
  refine A5 ?_;refine RGcaseD (t:=23) rfl (fun h156=> ?_) (fun h156=> ?_)
  ·
   have hb0: ¬(tRight l=true/\Sn.ok ⟨a,b⟩=true):=fun h=>h156 (by rw [her,if_pos h]);have hb: ¬sumC l a b:=fun h=>hb0 h.1;refine A18 ?_;refine A7 ?_;refine R0 (xb0 (r:=zad) (ts:=[]) bu41 zr41.2 zao) ?_;refine A6 ?_;exact EN (rs:=[.cell 6 41,.tmp 7]) rfl rfl ⟨⟨_,_,_,_,_,rfl,rfl,ti41,(Le.of (by rw [if_neg hb];rfl))⟩,⟨_,rfl,(zba (by rw [if_neg hb]))⟩,trivial⟩
  ·
   have hok:(tRight l=true/\Sn.ok ⟨a,b⟩=true):=zgs fun h=>h156 (by rw [her,if_neg h];decide);refine A4 ?_;refine RGcaseD (t:=27) rfl (fun h156_2=> ?_) (fun h156_2=> ?_)
   ·
    refine A1 ?_;refine Rg (zbg h156_2) rfl (x4 sl51 (0) (by omega) (zai (l:=l) (n:=0) (d:=tst0))) rfl ⟨rfl,rfl,trivial⟩ (Rg (zbg h156_2) rfl (xf3 fo59_2.h (At.f 2 rfl rfl) rfl) rfl ⟨rfl,trivial⟩ (Rg (zbg h156_2) rfl (xf3 fo57_0.h (At.f 0 rfl rfl) rfl) rfl ⟨rfl,trivial⟩ ?_));refine A2 ?_;refine Rg (zbf h156) rfl (xc9 (zbg h156_2)) rfl qB ?_;refine A1 ?_;refine RGcaseD (t:=35) rfl (fun h156_3=> ?_) (fun h156_3=> ?_)
    ·
     refine A1 ?_;refine Rg (zbg h156_3) rfl (x4 sl51 (0) (by omega) (zai (l:=l) (n:=0) (d:=tst0))) rfl ⟨rfl,rfl,trivial⟩ (Rg (zbg h156_3) rfl (xf3 fo59_2.h (At.f 2 rfl rfl) rfl) rfl ⟨rfl,trivial⟩ (Rg (zbg h156_3) rfl (xf3 fo57_0.h (At.f 0 rfl rfl) rfl) rfl ⟨rfl,trivial⟩ ?_));refine A2 ?_;refine Rg (zbf h156) rfl (xc9 (zbg h156_3)) rfl qB ?_;refine A3 ?_;refine x6 rfl (fun h156_4=> ?_) (fun h156_4=> ?_)
     ·
      refine A2 ?_;refine R0 (xb0 (r:=zad) (ts:=[]) bu41 zr41.2 zao) ?_;refine A6 ?_;exact EN (rs:=[.cell 6 41,.tmp 7]) rfl rfl ⟨⟨_,_,_,_,_,rfl,rfl,ti41,(Le.of (by rw [if_neg (fun h=>by have:=h.2;simp only [numK] at this;omega)];rfl))⟩,⟨_,rfl,(zba (by rw [if_neg (fun h=>by have:=h.2;simp only [numK] at this;omega)]))⟩,trivial⟩
     ·
      refine A1 ?_;exact kF (()) ⟨by simp only [numK];omega,hok⟩
    ·
     refine A6 ?_;refine Rg (zbf h156) rfl (xc7 (zbf h156_3)) rfl qB ?_;refine A5 ?_;exact kF (()) ⟨by simp only [numK];omega,hok⟩
   ·
    refine A6 ?_;refine Rg (zbf h156) rfl (xc7 (zbf h156_2)) rfl qB ?_;refine A7 ?_;refine Rg (zbf h156) rfl (xc7 rfl) rfl qB ?_;refine A5 ?_;exact kF (()) ⟨by simp only [numK];omega,hok⟩
 ·
  intro _j hnk;refine A2 ?_;refine R1 (x3 (yu1 0 (by decide) (by decide)) fi23 rfl) rfl (RE (x7 (k:=10) (n:=4) (agg:=true) zr41.1 zr41.2 rfl) trivial trivial qA ?_);refine A10 ?_;have hok:=hnk.2;have hc:sumC l a b:=⟨hok,hnk.1⟩
  have hnum:=qq1 (a:=a) (b:=b) hok.1 hD hc.2;rw [if_pos hok,cut_R hok.1] at hpart;rw [<-hpart] at hnum;refine xg9 (s:=8) rfl (fun hl0=> ?_);refine cL (fun (fm:(Nat)×(Rat))=>(fun (i:Nat) (q:Rat)=>i<=part.length/\sumT (part.take i)=some q/\short q) fm.1 fm.2) (wB fun (i:Nat) (q:Rat)=>uV (uO (uV (uO uN 6 (.ptr 6 0)) 8 (tL 8 true tTs part)) 10 (.ptr 10 0)) 11 (tI i)) (wB fun (i:Nat) (q:Rat)=>uK (uK uN 6 41 4 true [.val (tFr fr0)]) 10 41 4 true [.val (tFr (fr q))]) [6,10] (fun (fm:(Nat)×(Rat))=>(fun (i:Nat) (q:Rat)=>part.length - i) fm.1 fm.2) ((0,((0:Int):Rat))) (by dsimp only;exact ⟨zbq _,rfl,xt6 (zcj (len16_64 (by decide) (by decide)) (by decide))⟩) ?_;intro fm hI;obtain ⟨i,q⟩:=fm;replace hI:i<=part.length/\sumT (part.take i)=some q/\short q:=hI;show wc _ _ _ _ (uV (uO (uV (uO uN 6 (.ptr 6 0)) 8 (tL 8 true tTs part)) 10 (.ptr 10 0)) 11 (tI i)) (uK (uK uN 6 41 4 true [.val (tFr fr0)]) 10 41 4 true [.val (tFr (fr q))]) _;obtain ⟨hi,hq,hsq⟩:=hI;refine A9 ?_;refine x6 rfl (fun h160=> ?_) (fun h160=> ?_)
  ·
   refine A8 ?_;obtain ⟨n1,n2,n3,n4,n5⟩:=hnum _ (xi0 (l:=part) (i:=i) (by omega));refine R2 (x4 sl51 (i) (by omega) (zai (l:=part) (n:=i) (d:=tst0))) rfl rfl (R1 (xf3 fo59_2.h (At.f 2 rfl rfl) rfl) rfl (R1 (xf3 fo57_1.h (At.f 1 rfl rfl) rfl) rfl ?_));refine A3 ?_;refine R2 (x4 sl51 (i) (by omega) (zai (l:=part) (n:=i) (d:=tst0))) rfl rfl (R1 (xf3 fo59_1.h (At.f 1 rfl rfl) rfl) rfl ?_);refine A3 ?_;refine R2 (x4 sl51 (i) (by omega) (zai (l:=part) (n:=i) (d:=tst0))) rfl rfl (R1 (xf3 fo59_0.h (At.f 0 rfl rfl) rfl) rfl ?_);refine A2 ?_;refine R1 (x3 (yu1 ((part.getD i tst0).hi - (part.getD i tst0).lo) (by omega) (by omega)) fi23 rfl) rfl (R2 (x3 (jr8 (part.getD i tst0).v.f ((part.getD i tst0).hi - (part.getD i tst0).lo) n4 n5 (xt6 (zcj (len16_64 (by omega) (by omega)) (by decide)))) fi163 rfl) rfl rfl ?_);refine A3 ?_;refine RE (x7 (k:=12) (n:=4) (agg:=true) zr41.1 zr41.2 rfl) trivial trivial qA ?_;refine A11 ?_;refine x6 rfl (fun h162=> ?_) (fun h162=> ?_)
   ·
    refine A2 ?_;refine R0 (xb0 (r:=zad) (ts:=[]) bu41 zr41.2 zao) ?_;refine A12 ?_;exact EN (rs:=[.cell 6 41,.tmp 7]) rfl rfl ⟨⟨_,_,_,_,_,rfl,rfl,ti41,(Le.of (by rw [if_pos hc,<-hpart,ya5 (i:=i+1) (by rw [xz9 (by omega),hq,sumStep,if_neg (fun h=>xz4 h162 h.1)])];rfl))⟩,⟨_,rfl,(zba (by rw [if_pos hc,<-hpart,ya5 (i:=i+1) (by rw [xz9 (by omega),hq,sumStep,if_neg (fun h=>xz4 h162 h.1)]),resFE,if_neg (xz4 h162)];rfl))⟩,trivial⟩
   ·
    have hp:=y8 (Decidable.not_not.1 h162);refine A6 ?_;refine R2 (x3 (jp6 q ((part.getD i tst0).v.f.rat*(((part.getD i tst0).hi - (part.getD i tst0).lo:Int):Rat)) hsq hp) fi193 rfl) rfl rfl ?_;refine A13 ?_;refine x6 rfl (fun h166=> ?_) (fun h166=> ?_)
    ·
     refine A2 ?_;refine R0 (xb0 (r:=zad) (ts:=[]) bu41 zr41.2 zao) ?_;refine A11 ?_;exact EN (rs:=[.cell 6 41,.tmp 7]) rfl rfl ⟨⟨_,_,_,_,_,rfl,rfl,ti41,(Le.of (by rw [if_pos hc,<-hpart,ya5 (i:=i+1) (by rw [xz9 (by omega),hq,sumStep,if_neg (fun h=>xz4 h166 h.2)])];rfl))⟩,⟨_,rfl,(zba (by rw [if_pos hc,<-hpart,ya5 (i:=i+1) (by rw [xz9 (by omega),hq,sumStep,if_neg (fun h=>xz4 h166 h.2)]),resFE,if_neg (xz4 h166)];rfl))⟩,trivial⟩
    ·
     have h166z:=Decidable.not_not.1 h166;refine A8 ?_;exact kF ((i+1,q+((part.getD i tst0).v.f.rat*(((part.getD i tst0).hi - (part.getD i tst0).lo:Int):Rat)))) ⟨(by dsimp only;exact ⟨by omega,by rw [xz9 (by omega),hq,sumStep,if_pos ⟨hp,y8 h166z⟩],y8 h166z⟩),(by dsimp only;omega)⟩ (hh:=((zaq rfl (zat (by dsimp only;rw [resF,if_pos (y8 h166z)];rfl))) (SubK.cons rfl zax)))
  ·
   refine A13 ?_;exact EN (rs:=[.cell 6 41,.tmp 7]) rfl rfl ⟨⟨_,_,_,_,_,rfl,rfl,ti41,(Le.of (by rw [if_pos hc,<-hpart,<-zbx (l:=part),<-show i=part.length by omega,hq];rfl))⟩,⟨_,rfl,(zba (by rw [if_pos hc,<-hpart,<-zbx (l:=part),<-show i=part.length by omega,hq];rfl))⟩,trivial⟩
end An.S
namespace An.S
open Go
@[irreducible] def rowD {α:Type} (f:Nat->α):List α:=(List.range 65536).map f
theorem xz1 {α:Type} {f:Nat->α}:(rowD f).length=65536:=by unfold rowD;rw [zcq,List.length_range]
theorem xz0 {α:Type} {f:Nat->α} {d:Nat} (h:d < 65536):(rowD f)[d]? =some (f d):=by
 unfold rowD;rw [zbu,zfd h];rfl
theorem yw4 {α:Type} {f g:Nat->α} {d:Nat} {v:α} (hv:g d=v) (hg: ∀e,e≠d->g e=f e):(rowD f).set d v=rowD g:=by
 apply zfk;intro e;rw [zgf];by_cases he:d=e
 ·subst he;rw [if_pos rfl];by_cases h:d < 65536
  ·rw [if_pos (by rw [xz1];exact h),xz0 h,hv]
  ·rw [if_neg (by rw [xz1];exact h),zct (by rw [xz1];omega)]
 ·rw [if_neg he];by_cases h:e < 65536
  ·rw [xz0 h,xz0 h,hg e (fun h'=>he h'.symm)]
  ·rw [zct (by rw [xz1];omega),zct (by rw [xz1];omega)]
theorem ym2 {α:Type} (x:α):List.replicate 65536 x=rowD fun _=>x:=by
 unfold rowD;rw [List.map_const',List.length_range]
def tabI (l:List Tst):Nat->Nat->Int
 | 0,_=>0
 | i+1,d=>if (l.getD i tst0).lo<=d/\(d:Int) < (l.getD i tst0).hi then (i:Int)+1 else tabI l i d
def tabF (l:List Tst) (i:Nat) (e:Int) (d:Nat):Int:=if (l.getD i tst0).lo<=d/\(d:Int) < e then (i:Int)+1 else tabI l i d
theorem qu6 {l:List Tst} {i:Nat}:tabF l i (l.getD i tst0).lo=tabI l i:=by
 funext d;rw [tabF,if_neg (by omega)]
theorem qv9 {l:List Tst} {i:Nat} {e:Int} (h:e=(l.getD i tst0).hi):tabF l i e=tabI l (i+1):=by
 subst h;funext d;rfl
theorem qq3 {l:List Tst} {i d:Nat} {e:Int} (he:e=(d:Int)) (h:(l.getD i tst0).lo<=d):(rowD (tabF l i e)).set d ((i:Int)+1)=rowD (tabF l i (e+1)):=by
 subst he;refine yw4 (by rw [tabF,if_pos (by omega)]) fun x hx=> ?_;rw [tabF,tabF];by_cases h1:(l.getD i tst0).lo<=x/\(x:Int) < d
 ·rw [if_pos h1,if_pos (by omega)]
 ·rw [if_neg h1,if_neg (by omega)]
theorem xv4 {l:List Tst} {i:Nat} (hi:i < l.length) (d:Int):valT (l.take (i+1)) d=(valT (l.take i) d).or (if (l.getD i tst0).lo<=d/\d < (l.getD i tst0).hi then some (l.getD i tst0).v else none):=by
 rw [zby hi,xs7,xg1,zbh,zbi hi];rfl
theorem qp2 {l:List Tst} (h:tRight l=true) (d:Nat): ∀i,i<=l.length->(tabI l i d=0/\valT (l.take i) d=none)∨ ∃j,j < i/\tabI l i d=(j:Int)+1/\valT (l.take i) d=some (l.getD j tst0).v
 | 0,_=> .inl ⟨rfl,by simp [valT]⟩
 | i+1,hi=>by
  have ih:=qp2 h d i (by omega);rw [xv4 (by omega)];by_cases hd:(l.getD i tst0).lo<=d/\(d:Int) < (l.getD i tst0).hi
  ·refine .inr ⟨i,by omega,by rw [tabI,if_pos hd],?_⟩;have hn:valT (l.take i) d=none:=yc3.2 fun s hs hsd=>by
    obtain ⟨j,hj,e⟩:=List.getElem_of_mem hs;rw [zde] at hj;have h1:=ya8 h (i:=j) (j:=i) (by omega) (by omega);rw [List.getElem_take] at e;have e2:l.getD j tst0=s:=by rw [zbh,zbi (by omega)];exact e
    rw [e2] at h1;omega
   rw [hn,if_pos hd];rfl
  ·rw [tabI,if_neg hd,if_neg hd,Option.or_none];rcases ih with ih | ⟨j,hj,h1,h2⟩
   ·exact .inl ih
   ·exact .inr ⟨j,by omega,h1,h2⟩
abbrev tabT (l:List Tst):Nat->Int:=tabI l l.length
theorem yg3 {l:List Tst} (h:tRight l=true) (d:Nat):(tabT l d=0/\valT l d=none)∨ ∃j,j < l.length/\tabT l d=(j:Int)+1/\valT l d=some (l.getD j tst0).v:=by
 have:=qp2 h d l.length (zbs _)
 rwa [zbx] at this
def setK (f:Nat->Bool):Nat->List Sn
 | 0=>[]
 | d+1=>if f d then (if 0 < d/\f (d - 1)=true then (setK f d).set ((setK f d).length - 1) ⟨(lastS (setK f d)).lo,(d:Int)+1⟩ else setK f d++[⟨(d:Int),(d:Int)+1⟩]) else setK f d
theorem qi8 {f:Nat->Bool} {d:Nat} (h:f d=false):setK f (d+1)=setK f d:=by rw [setK,h];rfl
theorem zk2 {f:Nat->Bool} {d:Nat} (h:f d=true) (h0:0 < d/\f (d - 1)=true):setK f (d+1)=(setK f d).set ((setK f d).length - 1) ⟨(lastS (setK f d)).lo,(d:Int)+1⟩:=by rw [setK,if_pos h,if_pos h0]
theorem yw1 {f:Nat->Bool} {d:Nat} (h:f d=true) (h0: ¬(0 < d/\f (d - 1)=true)):setK f (d+1)=setK f d++[⟨(d:Int),(d:Int)+1⟩]:=by rw [setK,if_pos h,if_neg h0]
theorem yk7 {l:List Sn} {s:Sn}:lastS (l++[s])=s:=by rw [lastS,xu4,zbp];simp
theorem yk1 {f:Nat->Bool}: ∀d,d<=65536->sVal (setK f d)=true/\(∀x:Int,mem (setK f d) x=true↔0<=x/\x < d/\f x.toNat=true)/\(0 < (setK f d).length->(lastS (setK f d)).hi<=d)/\(0 < d/\f (d - 1)=true->0 < (setK f d).length/\(lastS (setK f d)).hi=d)/\(setK f d).length<=d/\(0 < (setK f d).length-> ¬(0 < d/\f (d - 1)=true)->(lastS (setK f d)).hi < d)
 | 0,_=>⟨rfl,fun x=>by simp [setK,mem];omega,fun h=>by simp [setK] at h,fun h=>by omega,by simp [setK],fun h=>by simp [setK] at h⟩
 | d+1,hd=>by
  obtain ⟨h1,h2,h3,h4,h5,h6⟩:=yk1 (f:=f) d (by omega);cases hf:f d with
  | false=>
   rw [qi8 hf];refine ⟨h1,fun x=> ?_,fun h=>by have:=h3 h;omega,fun h=>(by rw [zgq,hf] at h;cases h.2),by omega,fun h _=>by have:=h3 h;omega⟩;rw [h2];constructor
   ·rintro ⟨q1,q2,q3⟩;exact ⟨q1,by omega,q3⟩
   ·rintro ⟨q1,q2,q3⟩;refine ⟨q1,?_,q3⟩;by_cases hx:x.toNat=d
    ·rw [hx,hf] at q3;cases q3
    ·omega
  | true=>
   have hlast:0 < d+1/\f (d+1 - 1)=true:=⟨by omega,hf⟩
   by_cases h0:0 < d/\f (d - 1)=true
   ·obtain ⟨k1,k2⟩:=h4 h0;rw [zk2 hf h0];have hl:lastS ((setK f d).set ((setK f d).length - 1) ⟨(lastS (setK f d)).lo,(d:Int)+1⟩)=⟨(lastS (setK f d)).lo,(d:Int)+1⟩:=by
     rw [xv3 k1];exact yk7
    refine ⟨zn9 h1 k1 (by omega) (by omega),fun x=> ?_,fun _=>by rw [hl];dsimp only;omega,fun _=>⟨by rw [zdy];exact k1,by rw [hl];dsimp only;omega⟩,by rw [zdy];omega,fun _ h=>absurd hlast h⟩;have e1:=ym4 k1;have e2: ∀x,mem (setK f d) x=(mem ((setK f d).take ((setK f d).length - 1)) x || (decide ((lastS (setK f d)).lo<=x) && decide (x < (lastS (setK f d)).hi))):=fun x=>by
     conv=>lhs;rw [e1]
     exact yg5
    have hok:=yh0 h1 (i:=(setK f d).length - 1) (by omega);have hlo:(lastS (setK f d)).lo < (lastS (setK f d)).hi:=hok.2.1;rw [xv3 k1,yg5];have h2x:=h2 x;rw [e2,zfn,zcg,zdj,zdj] at h2x;rw [zfn,zcg,zdj,zdj];by_cases hx:x=d
    ·subst hx;refine ⟨fun _=>⟨by omega,by omega,by simpa using hf⟩,fun _=> .inr ⟨by dsimp only;omega,by dsimp only;omega⟩⟩
    ·constructor
     ·intro hq;have:=h2x.1 (hq.imp id fun h=>⟨h.1,by dsimp only at h;omega⟩);exact ⟨this.1,by omega,this.2.2⟩
     ·intro hq;exact (h2x.2 ⟨hq.1,by omega,hq.2.2⟩).imp id fun h=>⟨h.1,by dsimp only;omega⟩
   ·rw [yw1 hf h0];refine ⟨zn6 h1 ⟨by dsimp only;omega,by dsimp only;omega,by dsimp only;omega⟩ (fun h=>by have:=h6 h h0;dsimp only;omega),fun x=> ?_,fun _=>by rw [yk7];dsimp only;omega,fun _=>⟨by rw [zbp];simp,by rw [yk7];dsimp only;omega⟩,by rw [zbp];simp;omega,fun _ h=>absurd hlast h⟩;rw [yg5,zfn,zcg,zdj,zdj,h2];by_cases hx:x=d
    ·subst hx;exact ⟨fun _=>⟨by omega,by omega,by simpa using hf⟩,fun _=> .inr ⟨by dsimp only;omega,by dsimp only;omega⟩⟩
    ·constructor
     ·rintro (q | q)
      ·exact ⟨q.1,by omega,q.2.2⟩
      ·dsimp only at q;omega
     ·rintro ⟨q1,q2,q3⟩;exact .inl ⟨q1,by omega,q3⟩
abbrev setD (f:Nat->Bool):List Sn:=setK f 65536
theorem qz7 {f:Nat->Bool} {S:List Sn} (h:sVal S=true) (hm: ∀d:Nat,d < 65536->f d=mem S d):setD f=S:=by
 obtain ⟨h1,h2,_⟩:=yk1 (f:=f) 65536 (zbs _);refine jq8 h1 h fun x=> ?_;have h2x:=h2 x;by_cases hx:0<=x/\x < 65536
 ·have e:((x.toNat:Nat):Int)=x:=by omega
  have:=hm x.toNat (by omega);rw [e] at this;rw [<-this];cases hfx:f x.toNat with
  | true=>exact h2x.2 ⟨hx.1,by omega,hfx⟩
  | false=>exact Bool.eq_false_iff.2 fun h=>by have:=(h2x.1 h).2.2;rw [hfx] at this;cases this
 ·rw [Bool.eq_false_iff.2 fun h=>hx ⟨(h2x.1 h).1,by have:=(h2x.1 h).2.1;omega⟩];refine (ji3.2 fun s hs hsd=> ?_).symm;obtain ⟨i,hi,rfl⟩:=yu4 hs;have:=yh0 h hi;omega
theorem js4 {l:List Tst} (h:tRight l=true):setD (fun d=>decide (0 < tabT l d))=cvT l:=by
 obtain ⟨h1,h2⟩:=wc0 h;refine qz7 h1 fun d hd=> ?_;rw [h2];rcases yg3 h d with ⟨e1,e2⟩ | ⟨j,_,e1,e2⟩
 ·rw [e1,e2];rfl
 ·rw [e1,e2,zbg (by omega)];rfl
def dfR (a b:List Tst) (d:Nat):Bool:=if 0 < tabT a d/\0 < tabT b d then !decide ((a.getD (tabT a d - 1).toNat tst0).v=(b.getD (tabT b d - 1).toNat tst0).v) else decide (0 < tabT a d+tabT b d)
theorem diff_R {a b:List Tst} (ha:tRight a=true) (hb:tRight b=true):setD (dfR a b)=dfS a b:=by
 obtain ⟨h1,h2⟩:=jz7 ha hb;refine qz7 h1 fun d hd=> ?_;rw [h2,dfB,dfR];rcases yg3 ha d with ⟨e1,e2⟩ | ⟨i,_,e1,e2⟩ <;> rcases yg3 hb d with ⟨f1,f2⟩ | ⟨j,_,f1,f2⟩
 ·rw [if_neg (by omega),e1,e2,f1,f2];rfl
 ·rw [if_neg (by omega),e1,e2,f1,f2,zbg (by omega)];simp
 ·rw [if_neg (by omega),e1,e2,f1,f2,zbg (by omega)];simp
 ·rw [if_pos ⟨by omega,by omega⟩,e1,e2,f1,f2,show ((i:Int)+1 - 1).toNat=i by omega,show ((j:Int)+1 - 1).toNat=j by omega];simp
def chR (l:List Tst):Nat->List Int
 | 0=>[]
 | i+1=>(if i=0∨(l.getD (i - 1) tst0).hi≠(l.getD i tst0).lo then chR l i++[(l.getD i tst0).lo] else chR l i)++[(l.getD i tst0).hi]
theorem zi9 {l:List Tst}: ∀i,(chR l i).length<=2*i
 | 0=>by simp [chR]
 | i+1=>by
  have:=zi9 (l:=l) i;rw [chR,zbp];split
  ·rw [zbp];simp;omega
  ·simp;omega
theorem qi2 {l:List Tst} (h:tRight l=true): ∀i,i<=l.length->(chR l i).Pairwise (· < ·)/\(∀x∈chR l i,0 < i/\x<=(l.getD (i - 1) tst0).hi)/\ ∀x,x∈chR l i↔ ∃j,j < i/\(x=(l.getD j tst0).lo∨x=(l.getD j tst0).hi)
 | 0,_=>⟨.nil,fun x hx=>(by cases hx),fun x=>⟨fun h=>(by cases h),fun ⟨j,hj,_⟩=>(by omega)⟩⟩
 | i+1,hi=>by
  obtain ⟨h1,h2,h3⟩:=qi2 h i (by omega);have h4:=xt7 h (i:=i) (by omega);have hb: ∀x∈chR l i,x<=(l.getD i tst0).lo:=fun x hx=>by
   obtain ⟨q1,q2⟩:=h2 x hx;rcases h4.2.2.2 with h0 | h0
   ·omega
   ·omega
  have key: ∀zs:List Int,zs.Pairwise (· < ·)->(∀x∈zs,x<=(l.getD i tst0).lo)->(∀x,x∈zs↔(∃j,j < i/\(x=(l.getD j tst0).lo∨x=(l.getD j tst0).hi))∨x=(l.getD i tst0).lo)->
    (zs++[(l.getD i tst0).hi]).Pairwise (· < ·)/\(∀x∈zs++[(l.getD i tst0).hi],0 < i+1/\x<=(l.getD (i+1 - 1) tst0).hi)/\ ∀x,x∈zs++[(l.getD i tst0).hi]↔ ∃j,j < i+1/\(x=(l.getD j tst0).lo∨x=(l.getD j tst0).hi):=fun zs z1 z2 z3=>by
   refine ⟨zga.2 ⟨z1,zge ..,fun x hx y hy=> ?_⟩,fun x hx=>⟨by omega,?_⟩,fun x=> ?_⟩
   ·rw [zbj.1 hy];have:=z2 x hx;omega
   ·rw [zgq];rcases zbo.1 hx with hx | hx
    ·have:=z2 x hx;omega
    ·rw [zbj.1 hx];omega
   ·rw [zbo,z3,zbj];constructor
    ·rintro ((⟨j,hj,hx⟩ | hx) | hx)
     ·exact ⟨j,by omega,hx⟩
     ·exact ⟨i,by omega,.inl hx⟩
     ·exact ⟨i,by omega,.inr hx⟩
    ·rintro ⟨j,hj,hx⟩;by_cases hji:j=i
     ·subst hji;rcases hx with hx | hx
      ·exact .inl (.inr hx)
      ·exact .inr hx
     ·exact .inl (.inl ⟨j,by omega,hx⟩)
  rw [chR];split
  ·rename_i hc;refine key _ (zga.2 ⟨h1,zge ..,fun x hx y hy=> ?_⟩) (fun x hx=> ?_) fun x=> ?_
   ·rw [zbj.1 hy];obtain ⟨q1,q2⟩:=h2 x hx;rcases h4.2.2.2 with h0 | h0
    ·omega
    ·rcases hc with hc | hc
     ·omega
     ·omega
   ·rcases zbo.1 hx with hx | hx
    ·exact hb x hx
    ·rw [zbj.1 hx];omega
   ·rw [zbo,zbj,h3]
  ·rename_i hc;refine key _ h1 hb fun x=> ?_;rw [h3];constructor
   ·exact .inl
   ·rintro (hx | hx)
    ·exact hx
    ·have hi0:i≠0:=fun h=>hc (.inl h);have he:(l.getD (i - 1) tst0).hi=(l.getD i tst0).lo:=zgs fun h=>hc (.inr h);exact ⟨i - 1,by omega,.inr (by omega)⟩
theorem qw4: ∀{xs ys:List Int},xs.Pairwise (· < ·)->ys.Pairwise (· < ·)->(∀x,x∈xs↔x∈ys)->xs=ys
 | [],[],_,_,_=>rfl
 | [],y::_,_,_,h=>by have:=(h y).2 (zcb ..);cases this
 | x::_,[],_,_,h=>by have:=(h x).1 (zcb ..);cases this
 | x::xs,y::ys,hx,hy,h=>by
  obtain ⟨hx1,hx2⟩:=zcv.1 hx;obtain ⟨hy1,hy2⟩:=zcv.1 hy;have e:x=y:=by
   have q1:=(h x).1 (zcb ..);have q2:=(h y).2 (zcb ..);rcases zbr.1 q1 with q1 | q1
   ·exact q1
   ·rcases zbr.1 q2 with q2 | q2
    ·exact q2.symm
    ·have:=hx1 y q2;have:=hy1 x q1;omega
  subst e
  congr 1
  refine qw4 hx2 hy2 fun z=>⟨fun hz=> ?_,fun hz=> ?_⟩
  ·rcases zbr.1 ((h z).1 (zcd _ hz)) with q | q
   ·have:=hx1 z hz;omega
   ·exact q
  ·rcases zbr.1 ((h z).2 (zcd _ hz)) with q | q
   ·have:=hy1 z hz;omega
   ·exact q
theorem chg_R {l:List Tst} (h:tRight l=true):chR l l.length=bds [l]:=by
 obtain ⟨h1,_,h3⟩:=qi2 h l.length (zbs _);refine qw4 h1 xr9 fun x=> ?_;rw [h3,ys8];constructor
 ·rintro ⟨j,hj,hx⟩;exact ⟨l,by simp,_,xi0 hj,hx⟩
 ·rintro ⟨m,hm,s,hs,hx⟩;rw [zbj] at hm;subst hm;obtain ⟨j,hj,rfl⟩:=xv0 hs;exact ⟨j,hj,hx⟩
theorem tab0 {l:List Tst}:tabI l 0=fun _=>0:=rfl
theorem zg0 {l:List Tst} (h:tRight l=true) (d:Nat):0<=tabT l d/\tabT l d<=l.length:=by
 rcases yg3 h d with ⟨e,_⟩ | ⟨j,hj,e,_⟩ <;> rw [e] <;> omega
def mk (f:Nat->Bool) (d e:Nat):Bool:=decide (e < d) && f e
theorem mkD0 {f:Nat->Bool}:mk f 0=fun _=>false:=by funext e;simp [mk]
theorem yt6 {f:Nat->Bool} {d:Nat}:(rowD (mk f d)).set d (f d)=rowD (mk f (d+1)):=
 yw4 (by simp [mk]) fun e he=>by
  rw [mk,mk]
  congr 1
  exact zea.2 (by omega)
theorem qh1 {f:Nat->Bool}:rowD (mk f 65536)=rowD f:=by
 apply zfk;intro e;by_cases h:e < 65536
 ·rw [xz0 h,xz0 h,mk,zbg h,zdr]
 ·rw [zct (by rw [xz1];omega),zct (by rw [xz1];omega)]
theorem je2 {l:List Tst} {i:Nat} {d:Int} (hi:i < l.length) (hn:valT (l.take i) d=none) (h:(l.getD i tst0).lo<=d/\d < (l.getD i tst0).hi):valT l d=some (l.getD i tst0).v:=by
 have e:valT l d=(valT (l.take (i+1)) d).or (valT (l.drop (i+1)) d):=by rw [<-xs7,List.take_append_drop]
 rw [e,xv4 hi,hn,if_pos h];rfl
theorem ys4 {l:List Tst} {d:Int} (h:tRight l=true->valT l d=none):atR l d=none:=by
 rw [atR];split
 ·rename_i hr;exact h hr
 ·rfl
theorem zp0 {l:List Tst} {i:Nat} (h:0 < i->tRight l=true) (hi:i=l.length):tRight l=true:=by
 rcases zcf i with h0 | h0
 ·have:l=[]:=zcw.1 (by omega);subst this;rfl
 ·exact h h0
attribute [irreducible] setK tabI
end An.S
namespace An.S
open Go Go.Proofs An Tryz
instance sl210:SlI Tryz.prog 210 4 1 false:=⟨zhq,ti4⟩
instance fi178:FnI Tryz.prog 178:=⟨_,func178,by kernel_rfl,rfl⟩
instance fi188:FnI Tryz.prog 188:=⟨_,func188,by kernel_rfl,rfl⟩
theorem el4:ElI Tryz.prog 4 1 1 false (.bool false):=⟨ti4,by kernel_rfl,by kernel_rfl⟩
theorem xu5 (l:List Tst) (hl:l.length<=500000) (hok:tRight l=true):
  Ct Tryz.prog 188 [tL 8 true tTs l] (tL 1 false tI (rowD (tabT l))):=by
 obtain ⟨n,hn⟩: ∃n:Nat,n=65536:=⟨_,rfl⟩
 refine Ct.intro func188 rfl ntmps188 rfl ?_;intro w F;refine A7 ?_;refine RE (xg0 (k:=6) (t:=tI 0) (ts:=rV tI (List.replicate n 0)) n n zha el3 (fun _ _=>rfl) rfl (by omega) (by omega) (zbs _) (by omega) (by omega) (xk0 _ _ rfl)) qB trivial qA ?_;refine A10 ?_;refine cL (fun (i:Nat)=>i<=l.length) (fun (i:Nat)=>uV (uO (uV uN 0 (tL 8 true tTs l)) 3 (.sl 6 1 0 n)) 4 (tI i)) (fun (i:Nat)=>uK uN 6 3 1 false (rV tI (rowD (tabI l i)))) [6] (fun (i:Nat)=>l.length - i) (0) (zbq _) (hh:=((zaq rfl (zat (by rw [hn,ym2,tab0]))) zax)) ?_;intro i hI;refine A9 ?_;refine x6 rfl (fun h65=> ?_) (fun h65=> ?_)
 ·
  refine A8 ?_;refine R2 (x4 sl51 (i) (by omega) (zai (l:=l) (n:=i) (d:=tst0))) rfl rfl (R1 (xf3 fo59_0.h (At.f 0 rfl rfl) rfl) rfl ?_);refine A5 ?_;have hat:=xt7 hok (i:=i) (by omega);refine cL (fun (e:Int)=>(l.getD i tst0).lo<=e/\e<=(l.getD i tst0).hi) (fun (e:Int)=>uV (uV (uO (uV uN 0 (tL 8 true tTs l)) 3 (.sl 6 1 0 n)) 4 (tI i)) 5 (tI e)) (fun (e:Int)=>uK uN 6 3 1 false (rV tI (rowD (tabF l i e)))) [6] (fun (e:Int)=>((l.getD i tst0).hi - e).toNat) ((l.getD i tst0).lo) ⟨by omega,by omega⟩ (hh:=((zaq rfl (zat (by rw [qu6]))) zax)) ?_;intro e hI2;obtain ⟨he1,he2⟩:=hI2;refine A6 ?_;refine R2 (x4 sl51 (i) (by omega) (zai (l:=l) (n:=i) (d:=tst0))) rfl rfl (R1 (xf3 fo59_1.h (At.f 1 rfl rfl) rfl) rfl ?_);refine A4 ?_;refine x6 rfl (fun h66=> ?_) (fun h66=> ?_)
  ·
   refine A9 ?_;refine R2 (zag sl23 rfl) rfl rfl (RE (xb8 (e.toNat) ti3 (xe8 (by rw [xz1];omega)) (by omega) (xi3 (f:=tI) (m:=(i:Int)+1) rfl)) qB qA trivial ?_);refine A8 ?_;exact kF (e+1) ⟨⟨by omega,by omega⟩,(by omega)⟩ (hh:=((zaq rfl (zat (by rw [qq3 (by omega) (by omega)]))) zax))
  ·
   refine A11 ?_;exact kF (i+1) ⟨(by omega),(by omega)⟩ (hh:=((zaq rfl (zat (by rw [qv9 (by omega)]))) zax))
 ·
  refine A7 ?_;refine RE (xi6 (f:=tI) (xs:=rowD (tabI l i)) (fun _ h=>h) (xg2 (by rw [xz1];omega)) (by rw [xz1];omega)) qA qA trivial ?_;refine A4 ?_;exact E1 rfl rfl (Le.of (by rw [show i=l.length by omega]))
theorem qn5 (f:Nat->Bool):
  Ct Tryz.prog 178 [tL 1 false tB (rowD f)] (tL 2 true tSn (setD f)):=by
 refine Ct.intro func178 rfl ntmps178 rfl ?_;intro w F;refine xm6 ?_;refine xw5 ?_;refine R1 xe5 rfl (xm4 (by kernel_rfl) (xf5 (xm6 ?_)));refine xw5 ?_;refine RE (xe3 (k:=3) 119 2 true rfl (fun h=>by cases h)) trivial trivial qA (xm4 (by kernel_rfl) (xf5 (xm6 (xm6 ?_))));refine xw5 ?_;refine R1 xe5 rfl (xm4 (by kernel_rfl) (xf5 (xw7 ?_)));refine cL (fun (fm:(Nat)×(List Sn))=>(fun (d:Nat) (xs:List Sn)=>d<=65536/\xs=setK f d) fm.1 fm.2) (wB fun (d:Nat) (xs:List Sn)=>uV (uO (uV uN 0 (tL 1 false tB (rowD f))) 3 (.sl 3 2 0 xs.length)) 4 (tI d)) (wB fun (d:Nat) (xs:List Sn)=>uK uN 3 119 2 true (rV tSn xs)) [3] (fun (fm:(Nat)×(List Sn))=>(fun (d:Nat) (xs:List Sn)=>65536 - d) fm.1 fm.2) ((0,[])) (by dsimp only;exact ⟨zbq _,by rw [setK]⟩) ?_;intro fm hI;obtain ⟨d,xs⟩:=fm;replace hI:d<=65536/\xs=setK f d:=hI;show wc _ _ _ _ (uV (uO (uV uN 0 (tL 1 false tB (rowD f))) 3 (.sl 3 2 0 xs.length)) 4 (tI d)) (uK uN 3 119 2 true (rV tSn xs)) _;obtain ⟨hd,hx⟩:=hI;have hxl:xs.length<=d:=by rw [hx];exact (yk1 d hd).2.2.2.2.1
 refine xm6 (xm6 ?_);refine xw5 ?_;refine R1 xb9 rfl (R2 xh6 rfl rfl (xm4 (by kernel_rfl) (xf5 ?_)));refine x6 rfl (fun h35=> ?_) (fun h35=> ?_)
 ·
  refine xz3 (xf5 (xm6 (xw7 (xm6 (xm6 ?_)))));refine xw5 ?_;refine R1 xb9 rfl (R1 xb9 rfl (R2 (x4 sl210 (d) (by omega) (xz0 (by omega))) rfl rfl (R1 (xm1 ti4) rfl (R1 xz2 rfl (xm4 (by kernel_rfl) (xf5 ?_))))));refine xc2 rfl (fun h36=> ?_) (fun h36=> ?_)
  ·
   have hf:f d=false:=by simpa using h36
   refine yb4 (y9 (xf2 (xf5 ?_)));refine xw5 ?_;refine R1 xb9 rfl (R2 (xd8 zah) rfl rfl (R1 xe5 rfl (xm4 (by kernel_rfl) ?_)));exact kF ((d+1,xs)) ⟨(by dsimp only;exact ⟨by omega,by rw [qi8 hf,<-hx]⟩),(by dsimp only;omega)⟩
  ·
   have hf:f d=true:=by simpa using h36
   refine xz3 (xf5 (xm6 ?_));refine xw5 ?_;refine R1 xb9 rfl (R2 yc6 rfl rfl (R1 xb9 rfl ?_));refine RGcaseD (t:=16) rfl (fun h39=> ?_) (fun h39=> ?_)
   ·
    refine Rg (zbg h39) rfl xb9 rfl qA (Rg (zbg h39) rfl xb9 rfl qA (Rg (zbg h39) rfl (xd6 zah) rfl qB (Rg (zbg h39) rfl (x4 sl210 (d - 1) (by omega) (xz0 (by omega))) rfl qB (Rg (zbg h39) rfl (xm1 ti4) rfl qA (R2 (xc9 (zbg h39)) rfl rfl (xm4 (by kernel_rfl) (xf5 ?_)))))));refine xc2 rfl (fun h39_2=> ?_) (fun h39_2=> ?_)
    ·
     have hk:=(yk1 (f:=f) d (by omega)).2.2.2.1 ⟨by omega,h39_2⟩;rw [<-hx] at hk;refine xw5 ?_;refine R1 xb9 rfl (R1 xb9 rfl (R1 (zc9 zhk) rfl (R2 (xd6 zah) rfl rfl (R1 xb9 rfl (R2 (xd8 zah) rfl rfl (R2 (zag sl113 rfl) rfl rfl (R1 (xh0 fo119_1.h rfl) rfl (RE (xj2 (es:=2) (o:=1) (t2:=tSn ⟨(xs.getD (xs.length - 1) sn0).lo,(d:Int)+1⟩) (xs.length - 1) ti3 (xc4 (d:=sn0) (by omega)) (Up.g 1 rfl rfl rfl) (by omega) (xi3 rfl)) qB qA trivial (xm4 (by kernel_rfl) (ya0 (xf5 ?_)))))))))));refine xw5 ?_;refine R1 xb9 rfl (R2 (xd8 zah) rfl rfl (R1 xe5 rfl (xm4 (by kernel_rfl) ?_)));exact kF ((d+1,(xs.set (xs.length - 1) ⟨(xs.getD (xs.length - 1) sn0).lo,(d:Int)+1⟩))) ⟨(by dsimp only;exact ⟨by omega,by rw [zk2 hf ⟨by omega,h39_2⟩,<-hx];rfl⟩),(by dsimp only;omega)⟩ (hg:=(sI ((zav rfl (zaw (by dsimp only;rw [zdy]))) (sC zay))))
    ·
     refine xw5 ?_;refine R1 xb9 rfl (R1 xb9 rfl (R1 xb9 rfl (R2 (xd8 zah) rfl rfl (R2 (xb0 (r:=tS [⟨1,false,tI (d:Int)⟩,⟨1,false,tI ((d:Int)+1)⟩]) (ts:=[(0,tI (d:Int)),(1,tI ((d:Int)+1))]) bu119 zr119.2 (Bc 0 rfl rfl rfl (Bc 1 rfl rfl rfl zao))) rfl rfl (R1 (xb5 (n:=1) (f:=tSn) [(⟨(d:Int),(d:Int)+1⟩:Sn)] zhk el119 zf119 rfl (fun _=>inferInstance) rfl rfl rfl) rfl (RE (xb3 (k:=3) (k':=37) (f:=tSn) (ys:=[(⟨(d:Int),(d:Int)+1⟩:Sn)]) (ts':=rV tSn (xs++[(⟨(d:Int),(d:Int)+1⟩:Sn)])) zhk el119 zf119 rfl rfl (fun _=>inferInstance) xd2 (by simp;omega) (by simp;omega) (by simp [rV]) (n':=xs.length+1) rfl) qB qA qA (R1 xe5 rfl (xm4 (by kernel_rfl) (ya0 (xf5 ?_))))))))));refine xw5 ?_;refine R1 xb9 rfl (R2 (xd8 zah) rfl rfl (R1 xe5 rfl (xm4 (by kernel_rfl) ?_)));exact xc6 (l:=[3]) (zab 3 37) ((d+1,xs++[(⟨(d:Int),(d:Int)+1⟩:Sn)])) ⟨(by dsimp only;exact ⟨by omega,by rw [yw1 hf (fun h=>by rw [h39_2] at h;cases h.2),<-hx]⟩),(by dsimp only;omega)⟩ (zaf rfl ((zbc rfl (zaw (by dsimp only;rw [zbp];rfl))) (zas rfl zbd))) ((zbb rfl (zat xa6.symm)) zbe) (zaj (zak rfl (zaj zar))) (zam rfl (supJ xa5) zaz) (lkOk rfl) rfl rfl (fun _ h=>by cases h)
   ·
    refine RGoff (zbf h39) rfl rfl (RGoff (zbf h39) rfl rfl (RGoff (zbf h39) rfl rfl (RGoff (zbf h39) rfl rfl (RGoff (zbf h39) rfl rfl (R2 (xc7 (zbf h39)) rfl rfl (xm4 (by kernel_rfl) (xf5 (xw4 rfl rfl ?_))))))));refine xw5 ?_;refine R1 xb9 rfl (R1 xb9 rfl (R1 xb9 rfl (R2 (xd8 zah) rfl rfl (R2 (xb0 (r:=tS [⟨1,false,tI (d:Int)⟩,⟨1,false,tI ((d:Int)+1)⟩]) (ts:=[(0,tI (d:Int)),(1,tI ((d:Int)+1))]) bu119 zr119.2 (Bc 0 rfl rfl rfl (Bc 1 rfl rfl rfl zao))) rfl rfl (R1 (xb5 (n:=1) (f:=tSn) [(⟨(d:Int),(d:Int)+1⟩:Sn)] zhk el119 zf119 rfl (fun _=>inferInstance) rfl rfl rfl) rfl (RE (xb3 (k:=3) (k':=37) (f:=tSn) (ys:=[(⟨(d:Int),(d:Int)+1⟩:Sn)]) (ts':=rV tSn (xs++[(⟨(d:Int),(d:Int)+1⟩:Sn)])) zhk el119 zf119 rfl rfl (fun _=>inferInstance) xd2 (by simp;omega) (by simp;omega) (by simp [rV]) (n':=xs.length+1) rfl) qB qA qA (R1 xe5 rfl (xm4 (by kernel_rfl) (ya0 (xf5 ?_))))))))));refine xw5 ?_;refine R1 xb9 rfl (R2 (xd8 zah) rfl rfl (R1 xe5 rfl (xm4 (by kernel_rfl) ?_)));exact xc6 (l:=[3]) (zab 3 37) ((d+1,xs++[(⟨(d:Int),(d:Int)+1⟩:Sn)])) ⟨(by dsimp only;exact ⟨by omega,by rw [yw1 hf (fun h=>by omega),<-hx]⟩),(by dsimp only;omega)⟩ (zaf rfl ((zbc rfl (zaw (by dsimp only;rw [zbp];rfl))) (zas rfl zbd))) ((zbb rfl (zat xa6.symm)) zbe) (zaj (zak rfl (zaj zar))) (zam rfl (supJ xa5) zaz) (lkOk rfl) rfl rfl (fun _ h=>by cases h)
 ·
  refine yb4 (y9 (y9 (xf2 (xf5 (xm6 ?_)))));refine xw5 ?_;refine RE (xi6 (f:=tSn) (xs:=xs) (fun _ h=>h) (xg2 rfl) rfl) qA qA trivial (R1 xe5 rfl (xm4 (by kernel_rfl) (xf5 (yb5 ?_))));exact E1 rfl rfl (Le.of (by rw [hx,show d=65536 by omega]))
theorem qr5 (l:List Tst) (hl:l.length<=500000) (hD: ∀s∈l,s.v.f.dig) (hs: ∀s∈l,s.v.f.n.l.length<=1048576/\s.v.f.d.l.length<=1048576):
  Ct Tryz.prog 108 [tL 8 true tTs l] (tL 2 true tSn (if tRight l=true then cvT l else [])):=by
 obtain ⟨n,hn⟩: ∃n:Nat,n=65536:=⟨_,rfl⟩
 refine Ct.intro func108 rfl ntmps108 rfl ?_;intro w F;refine A9 ?_;refine R1 (x3 (ya7 l hl hD hs) fi107 rfl) rfl ?_;refine A3 ?_;refine xc2 rfl (fun h175=> ?_) (fun h175=> ?_)
 ·
  refine A7 ?_;exact E1 rfl rfl (leNil (by rw [if_neg (by simpa using h175)]))
 ·
  have hok:tRight l=true:=by simpa using h175
  refine A5 ?_;refine R1 (x3 (xu5 l hl hok) fi188 rfl) rfl ?_;refine A5 ?_;refine RE (xg0 (k:=11) (t:=tB false) (ts:=rV tB (List.replicate n false)) n n zhq el4 (fun _ _=>rfl) rfl (by omega) (by omega) (zbs _) (by omega) (by omega) (xk0 _ _ rfl)) qB trivial qA ?_;refine A10 ?_;refine cL (fun (d:Nat)=>d<=65536) (fun (d:Nat)=>uV (uO (uV uN 3 (tL 1 false tI (rowD (tabT l)))) 4 (.sl 11 1 0 n)) 5 (tI d)) (fun (d:Nat)=>uK uN 11 4 1 false (rV tB (rowD (mk (fun d=>decide (0 < tabT l d)) d)))) [11] (fun (d:Nat)=>65536 - d) (0) (zbq _) (hh:=((zaq rfl (zat (by rw [hn,ym2,mkD0]))) zax)) ?_;intro d hI;refine A7 ?_;refine x6 rfl (fun h180=> ?_) (fun h180=> ?_)
  ·
   refine A9 ?_;refine R2 (x4 sl23 (d) (by omega) (xz0 (by omega))) rfl rfl ?_;refine A2 ?_;refine R2 (zag sl210 rfl) rfl rfl (RE (xb8 (d) ti4 (xe8 (by rw [xz1];omega)) (by omega) (xi3 (f:=tB) (m:=decide (0 < tabT l d)) rfl)) qB qA trivial ?_);refine A8 ?_;exact kF (d+1) ⟨(by omega),(by omega)⟩ (hh:=((zaq rfl (zat (by rw [yt6 (f:=(fun d=>decide (0 < tabT l d)))]))) zax))
  ·
   refine A6 ?_;have hd6:d=65536:=by omega
   refine yb2 (k:=11) (e':=⟨4,1,false,rV tB (rowD (fun d=>decide (0 < tabT l d)))⟩) rfl (by rw [hd6,qh1]) ?_;refine A1 ?_;refine RE (xi6 (f:=tB) (xs:=rowD (fun d=>decide (0 < tabT l d))) (fun _ h=>h) (xg2 (by rw [xz1];omega)) (by rw [xz1];omega)) qA qA trivial (R1 (x3 (qn5 (fun d=>decide (0 < tabT l d))) fi178 rfl) rfl ?_);refine A4 ?_;exact E1 rfl rfl (Le.of (by rw [if_pos hok,js4 hok]))
theorem jo6 (a b:List Tst) (hla:a.length<=200000) (hlb:b.length<=200000) (hDa: ∀s∈a,s.v.f.dig) (hDb: ∀s∈b,s.v.f.dig) (hsa: ∀s∈a,s.v.f.n.l.length<=1048576/\s.v.f.d.l.length<=1048576) (hsb: ∀s∈b,s.v.f.n.l.length<=1048576/\s.v.f.d.l.length<=1048576):
  Ct Tryz.prog 103 [tL 8 true tTs a,tL 8 true tTs b] (tT [tL 2 true tSn (if tRight a=true/\tRight b=true then dfS a b else []),tI (if tRight a=true/\tRight b=true then 0 else 2)]):=by
 obtain ⟨n,hn⟩: ∃n:Nat,n=65536:=⟨_,rfl⟩
 refine Ct.intro func103 rfl ntmps103 rfl ?_;intro w F;refine xm6 ?_;refine xw5 ?_;refine R1 xe5 rfl (R1 xe5 rfl (xm4 (by kernel_rfl) (xf5 (xm6 (xm6 ?_)))));refine xw5 ?_;refine R1 xb9 rfl (R1 (x3 (ya7 a (by omega) hDa hsa) fi107 rfl) rfl (R1 xz2 rfl (R1 xb9 rfl ?_)));refine RGcase (t:=13) rfl (fun h200=> ?_) (fun h200=> ?_)
 ·
  refine RGoff h200 rfl rfl (RGoff h200 rfl rfl (RGoff h200 rfl rfl (R2 (xc9 h200) rfl rfl (xm4 (by kernel_rfl) (xf5 (yr6 rfl rfl (xm6 ?_)))))));refine xw5 ?_;refine R1 xe5 rfl (R1 xe5 rfl (xm4 (by kernel_rfl) (xf5 (yb5 (xk5 ?_)))));exact E2 rfl rfl rfl (leNil (if_neg (fun h=>by simp [h.1] at*))) (zba (if_neg (fun h=>by simp [h.1] at*)).symm)
 ·
  refine Rg h200 rfl xb9 rfl qA (Rg h200 rfl (x3 (ya7 b (by omega) hDb hsb) fi107 rfl) rfl qA (Rg h200 rfl xz2 rfl qA (R2 (xc7 h200) rfl rfl (xm4 (by kernel_rfl) (xf5 ?_)))));refine xc2 rfl (fun h200_2=> ?_) (fun h200_2=> ?_)
  ·
   refine xm6 ?_;refine xw5 ?_;refine R1 xe5 rfl (R1 xe5 rfl (xm4 (by kernel_rfl) (xf5 (yb5 (xk5 ?_)))));exact E2 rfl rfl rfl (leNil (if_neg (fun h=>by simp [h.1,h.2] at*))) (zba (if_neg (fun h=>by simp [h.1,h.2] at*)).symm)
  ·
   refine xz3 (xf5 (xm6 ?_));have hok:tRight a=true/\tRight b=true:=⟨by simpa using h200,by simpa using h200_2⟩
   refine xw5 ?_;refine R1 xb9 rfl (R1 (x3 (xu5 a (by omega) hok.1) fi188 rfl) rfl (R1 xb9 rfl (R1 (x3 (xu5 b (by omega) hok.2) fi188 rfl) rfl (R1 xe5 rfl (R1 xe5 rfl (xm4 (by kernel_rfl) (xf5 (xm6 ?_))))))));refine xw5 ?_;refine RE (xg0 (k:=22) (t:=tB false) (ts:=rV tB (List.replicate n false)) n n zhq el4 (fun _ _=>rfl) rfl (by omega) (by omega) (zbs _) (by omega) (by omega) (xk0 _ _ rfl)) qB trivial qA (R1 xe5 rfl (xm4 (by kernel_rfl) (xf5 (xm6 (xm6 ?_)))));refine xw5 ?_;refine R1 xe5 rfl (xm4 (by kernel_rfl) (xf5 (xw7 ?_)));refine cL (fun (d:Nat)=>d<=65536) (fun (d:Nat)=>uV (uO (uV (uV (uV (uV uN 0 (tL 8 true tTs a)) 1 (tL 8 true tTs b)) 6 (tL 1 false tI (rowD (tabT a)))) 7 (tL 1 false tI (rowD (tabT b)))) 8 (.sl 22 1 0 n)) 9 (tI d)) (fun (d:Nat)=>uK uN 22 4 1 false (rV tB (rowD (mk (dfR a b) d)))) [22] (fun (d:Nat)=>65536 - d) (0) (zbq _) (hh:=((zaq rfl (zat (by rw [hn,ym2,mkD0]))) zax)) ?_;intro d hI;have qa:=zg0 hok.1 d;have qb:=zg0 hok.2 d;refine xm6 (xm6 ?_);refine xw5 ?_;refine R1 xb9 rfl (R2 xh6 rfl rfl (xm4 (by kernel_rfl) (xf5 ?_)));refine x6 rfl (fun h205=> ?_) (fun h205=> ?_)
   ·
    refine xz3 (xf5 (xm6 (xw7 (xm6 ?_))));refine xw5 ?_;refine R1 xb9 rfl (R1 xb9 rfl (R2 (x4 sl23 (d) (by omega) (xz0 (by omega))) rfl rfl (R1 (xm1 ti3) rfl (R2 yc6 rfl rfl (R1 xb9 rfl ?_)))));refine RGcaseD (t:=32) rfl (fun h206=> ?_) (fun h206=> ?_)
    ·
     refine Rg (zbg h206) rfl xb9 rfl qA (Rg (zbg h206) rfl xb9 rfl qA (Rg (zbg h206) rfl (x4 sl23 (d) (by omega) (xz0 (by omega))) rfl qB (Rg (zbg h206) rfl (xm1 ti3) rfl qA (Rg (zbg h206) rfl yc6 rfl qB (R2 (xc9 (zbg h206)) rfl rfl (xm4 (by kernel_rfl) (xf5 ?_)))))));refine x6 rfl (fun h206_2=> ?_) (fun h206_2=> ?_)
     ·
      refine ye5 mixed ?_;refine R1 xb9 rfl (R1 xb9 rfl (R1 xb9 rfl (R1 xb9 rfl (R1 xb9 rfl (R2 (x4 sl23 (d) (by omega) (xz0 (by omega))) rfl rfl (R1 (xm1 ti3) rfl (R2 (xd6 zah) rfl rfl (R2 (x4 sl51 ((tabT a d - 1).toNat) (by omega) (zai (l:=a) (n:=(tabT a d - 1).toNat) (d:=tst0))) rfl rfl (R1 (xf3 fo59_2.h (At.f 2 rfl rfl) rfl) rfl (R1 (xm1 ti57) rfl (R1 xb9 rfl (R1 xb9 rfl (R1 xb9 rfl (R2 (x4 sl23 (d) (by omega) (xz0 (by omega))) rfl rfl (R1 (xm1 ti3) rfl ?_)))))))))))))));refine R2 (xd6 zah) rfl rfl (R2 (x4 sl51 ((tabT b d - 1).toNat) (by omega) (zai (l:=b) (n:=(tabT b d - 1).toNat) (d:=tst0))) rfl rfl (R1 (xf3 fo59_2.h (At.f 2 rfl rfl) rfl) rfl (R1 (xm1 ti57) rfl (R2 (x3 (ym0 _ _ (hsa _ (xi0 (by omega))).1 (hsa _ (xi0 (by omega))).2) fi124 rfl) rfl rfl (R1 xz2 rfl (R2 (zag sl210 rfl) rfl rfl (RE (xb8 (d) ti4 (xe8 (by rw [xz1];omega)) (by omega) (xi3 (f:=tB) (m:=dfR a b d) (by rw [dfR,if_pos ⟨by omega,by omega⟩]))) ⟨rfl,rfl,trivial⟩ ⟨rfl,trivial⟩ trivial (yb7 (by kernel_rfl) (ya0 (xf5 ?_))))))))));refine xw5 ?_;refine R1 xb9 rfl (R2 (xd8 zah) rfl rfl (R1 xe5 rfl (xm4 (by kernel_rfl) ?_)));exact kF (d+1) ⟨(by omega),(by omega)⟩ (hh:=((zaq rfl (zat (by rw [yt6 (f:=(dfR a b))]))) zax))
     ·
      refine ye5 mixed ?_;refine R1 xb9 rfl (R1 xb9 rfl (R1 xb9 rfl (R1 xb9 rfl (R2 (x4 sl23 (d) (by omega) (xz0 (by omega))) rfl rfl (R1 (xm1 ti3) rfl (R1 xb9 rfl (R1 xb9 rfl (R2 (x4 sl23 (d) (by omega) (xz0 (by omega))) rfl rfl (R1 (xm1 ti3) rfl (R2 (xd8 zah) rfl rfl (R2 yc6 rfl rfl (R2 (zag sl210 rfl) rfl rfl (RE (xb8 (d) ti4 (xe8 (by rw [xz1];omega)) (by omega) (xi3 (f:=tB) (m:=dfR a b d) (by rw [dfR,if_neg (by omega)]))) qB qA trivial (yb7 (by kernel_rfl) (ya0 ?_)))))))))))))));refine xf5 ?_;refine xw5 ?_;refine R1 xb9 rfl (R2 (xd8 zah) rfl rfl (R1 xe5 rfl (xm4 (by kernel_rfl) ?_)));exact kF (d+1) ⟨(by omega),(by omega)⟩ (hh:=((zaq rfl (zat (by rw [yt6 (f:=(dfR a b))]))) zax))
    ·
     refine RGoff (zbf h206) rfl rfl (RGoff (zbf h206) rfl rfl (RGoff (zbf h206) rfl rfl (RGoff (zbf h206) rfl rfl (RGoff (zbf h206) rfl rfl (R2 (xc7 (zbf h206)) rfl rfl (xm4 (by kernel_rfl) (xf5 (xw4 rfl rfl ?_))))))));refine ye5 mixed ?_;refine R1 xb9 rfl (R1 xb9 rfl (R1 xb9 rfl (R1 xb9 rfl (R2 (x4 sl23 (d) (by omega) (xz0 (by omega))) rfl rfl (R1 (xm1 ti3) rfl (R1 xb9 rfl (R1 xb9 rfl (R2 (x4 sl23 (d) (by omega) (xz0 (by omega))) rfl rfl (R1 (xm1 ti3) rfl (R2 (xd8 zah) rfl rfl (R2 yc6 rfl rfl (R2 (zag sl210 rfl) rfl rfl (RE (xb8 (d) ti4 (xe8 (by rw [xz1];omega)) (by omega) (xi3 (f:=tB) (m:=dfR a b d) (by rw [dfR,if_neg (by omega)]))) qB qA trivial (yb7 (by kernel_rfl) (ya0 ?_)))))))))))))));refine xf5 ?_;refine xw5 ?_;refine R1 xb9 rfl (R2 (xd8 zah) rfl rfl (R1 xe5 rfl (xm4 (by kernel_rfl) ?_)));exact kF (d+1) ⟨(by omega),(by omega)⟩ (hh:=((zaq rfl (zat (by rw [yt6 (f:=(dfR a b))]))) zax))
   ·
    refine yb4 (y9 (y9 (xf2 (xf5 (xm6 ?_)))));have hd6:d=65536:=by omega
    refine yb2 (k:=22) (e':=⟨4,1,false,rV tB (rowD (dfR a b))⟩) rfl (by rw [hd6,qh1]) ?_;refine xw5 ?_;refine RE (xi6 (f:=tB) (xs:=rowD (dfR a b)) (fun _ h=>h) (xg2 (by rw [xz1];omega)) (by rw [xz1];omega)) qA qA trivial (R1 (x3 (qn5 (dfR a b)) fi178 rfl) rfl (R1 xe5 rfl (R1 xe5 rfl (xm4 (by kernel_rfl) (xf5 (yb5 ?_))))));exact E2 rfl rfl rfl (Le.of (by rw [if_pos hok,diff_R hok.1 hok.2])) (zba (by rw [if_pos hok]))
theorem c_R5At (l:List Tst) (d:Int) (hl:l.length<=500000) (hD: ∀s∈l,s.v.f.dig) (hs: ∀s∈l,s.v.f.n.l.length<=1048576/\s.v.f.d.l.length<=1048576):
  Ct Tryz.prog 101 [tL 8 true tTs l,tI d] (tT [tVa ((atR l d).getD An.va0),tB (atR l d).isSome]):=by
 refine Ct.intro func101 rfl ntmps101 rfl ?_;intro w F;refine A2 ?_;refine RE (x7 (k:=4) (n:=6) (agg:=true) zr57.1 zr57.2 rfl) trivial trivial qA ?_;refine A10 ?_;refine cL (fun (i:Nat)=>i<=l.length/\valT (l.take i) d=none) (fun (i:Nat)=>uV (uO (uV (uV uN 0 (tL 8 true tTs l)) 1 (tI d)) 4 (.ptr 4 0)) 6 (tI i)) (fun (i:Nat)=>uK uN 4 57 6 true [.val (tVa An.va0)]) [4] (fun (i:Nat)=>l.length - i) (0) ⟨zbq _,rfl⟩ ?_;intro i hI;obtain ⟨hi,hn⟩:=hI;refine A8 ?_;refine RGcaseD (t:=11) rfl (fun h95=> ?_) (fun h95=> ?_)
 ·
  refine A1 ?_;refine Rg (zbg h95) rfl (x3 (ya7 l hl hD hs) fi107 rfl) rfl qA ?_;refine A3 ?_;refine xc2 rfl (fun h95_2=> ?_) (fun h95_2=> ?_)
  ·
   refine A8 ?_;refine R2 (x4 sl51 (i) (by omega) (zai (l:=l) (n:=i) (d:=tst0))) rfl rfl (R1 (xf3 fo59_0.h (At.f 0 rfl rfl) rfl) rfl ?_);refine A4 ?_;refine RGcaseD (t:=24) rfl (fun h96=> ?_) (fun h96=> ?_)
   ·
    refine A3 ?_;refine Rg (zbg h96) rfl (x4 sl51 (i) (by omega) (zai (l:=l) (n:=i) (d:=tst0))) rfl ⟨rfl,rfl,trivial⟩ (Rg (zbg h96) rfl (xf3 fo59_1.h (At.f 1 rfl rfl) rfl) rfl ⟨rfl,trivial⟩ ?_);refine A5 ?_;refine x6 rfl (fun h96_2=> ?_) (fun h96_2=> ?_)
    ·
     refine A4 ?_;refine R2 (x4 sl51 (i) (by omega) (zai (l:=l) (n:=i) (d:=tst0))) rfl rfl (R1 (xf3 fo59_2.h (At.f 2 rfl rfl) rfl) rfl ?_);refine A11 ?_;exact EN (rs:=[.cell 4 57,.tmp 5]) rfl rfl ⟨⟨_,_,_,_,_,rfl,rfl,ti57,(Le.of (by rw [atR,if_pos h95_2,je2 (by omega) hn ⟨by omega,by omega⟩];rfl))⟩,⟨_,rfl,(zau (by rw [atR,if_pos h95_2,je2 (by omega) hn ⟨by omega,by omega⟩];rfl))⟩,trivial⟩
    ·
     refine A8 ?_;exact kF (i+1) ⟨⟨by omega,by rw [xv4 (by omega),hn,if_neg (by omega)];rfl⟩,(by omega)⟩
   ·
    refine A18 ?_;refine A1 ?_;exact kF (i+1) ⟨⟨by omega,by rw [xv4 (by omega),hn,if_neg (by omega)];rfl⟩,(by omega)⟩
  ·
   refine A7 ?_;refine R0 (xb0 (r:=tS [⟨1,false,(tE (.int .u8 0))⟩,⟨4,true,zad⟩,⟨1,false,(tE (.int .i64 0))⟩]) (ts:=[]) bu57 zr57.2 zao) ?_;refine A5 ?_;exact EN (rs:=[.cell 4 57,.tmp 5]) rfl rfl ⟨⟨_,_,_,_,_,rfl,rfl,ti57,(Le.of (by rw [ys4 (fun h=>by rw [h] at h95_2;cases h95_2)];rfl))⟩,⟨_,rfl,(zau (by rw [ys4 (fun h=>by rw [h] at h95_2;cases h95_2)];rfl))⟩,trivial⟩
 ·
  refine A13 ?_;refine R0 (xb0 (r:=tS [⟨1,false,(tE (.int .u8 0))⟩,⟨4,true,zad⟩,⟨1,false,(tE (.int .i64 0))⟩]) (ts:=[]) bu57 zr57.2 zao) ?_;refine A5 ?_;exact EN (rs:=[.cell 4 57,.tmp 5]) rfl rfl ⟨⟨_,_,_,_,_,rfl,rfl,ti57,(Le.of (by rw [ys4 (fun _=>by rw [show i=l.length by omega,zbx] at hn;exact hn)];rfl))⟩,⟨_,rfl,(zau (by rw [ys4 (fun _=>by rw [show i=l.length by omega,zbx] at hn;exact hn)];rfl))⟩,trivial⟩
theorem leNil2 {l:List Tst} {xs:List Int} {i:Nat} (hx:xs=chR l i) (h:tRight l=false) (hr:0 < i->tRight l=true):Le (tL 1 false tI xs) (tL 1 false tI (if tRight l=true then bds [l] else [])):=by
 have h0:i=0:=by
  rcases zcf i with h0 | h0
  ·exact h0
  ·rw [hr h0] at h;cases h
 subst h0;rw [if_neg (by rw [h];decide),hx];exact zao
theorem qd5 (l:List Tst) (hl:l.length<=500000) (hD: ∀s∈l,s.v.f.dig) (hs: ∀s∈l,s.v.f.n.l.length<=1048576/\s.v.f.d.l.length<=1048576):
  Ct Tryz.prog 109 [tL 8 true tTs l] (tL 1 false tI (if tRight l=true then bds [l] else [])):=by
 refine Ct.intro func109 rfl ntmps109 rfl ?_;intro w F;refine A7 ?_;refine RE (xe3 (k:=3) 3 1 false rfl (fun _=>rfl)) trivial trivial qA ?_;refine A9 ?_;refine cL (fun (fm:(Nat)×(List Int))=>(fun (i:Nat) (xs:List Int)=>i<=l.length/\(0 < i->tRight l=true)/\xs=chR l i) fm.1 fm.2) (wB fun (i:Nat) (xs:List Int)=>uV (uO (uV uN 0 (tL 8 true tTs l)) 3 (.sl 3 1 0 xs.length)) 4 (tI i)) (wB fun (i:Nat) (xs:List Int)=>uK uN 3 3 1 false (rV tI xs)) [3] (fun (fm:(Nat)×(List Int))=>(fun (i:Nat) (xs:List Int)=>l.length - i) fm.1 fm.2) ((0,[])) (by dsimp only;exact ⟨zbq _,fun h=>absurd h (by decide),rfl⟩) ?_;intro fm hI;obtain ⟨i,xs⟩:=fm;replace hI:i<=l.length/\(0 < i->tRight l=true)/\xs=chR l i:=hI;show wc _ _ _ _ (uV (uO (uV uN 0 (tL 8 true tTs l)) 3 (.sl 3 1 0 xs.length)) 4 (tI i)) (uK uN 3 3 1 false (rV tI xs)) _;obtain ⟨hi,hr,hx⟩:=hI;have hxl:xs.length<=2*i:=by rw [hx];exact zi9 i
 refine A8 ?_;refine RGcaseD (t:=9) rfl (fun h189=> ?_) (fun h189=> ?_)
 ·
  refine A1 ?_;refine Rg (zbg h189) rfl (x3 (ya7 l hl hD hs) fi107 rfl) rfl qA ?_;refine A3 ?_;refine xc2 rfl (fun h189_2=> ?_) (fun h189_2=> ?_)
  ·
   refine A4 ?_;refine xf0 (fun (ys:List Int)=>ys=(if i=0∨(l.getD (i - 1) tst0).hi≠(l.getD i tst0).lo then chR l i++[(l.getD i tst0).lo] else chR l i)) (fun (ys:List Int)=>uV (uO (uV uN 0 (tL 8 true tTs l)) 3 (.sl 3 1 0 ys.length)) 4 (tI i)) (fun (ys:List Int)=>uK uN 3 3 1 false (rV tI ys)) (nm [3]) ?_ ?_
   ·
    refine A5 ?_;refine RGcaseD (t:=17) rfl (fun h190=> ?_) (fun h190=> ?_)
    ·
     refine A18 ?_;refine A2 ?_;refine R2 (x4 sl51 (i) (by omega) (zai (l:=l) (n:=i) (d:=tst0))) rfl rfl (R1 (xf3 fo59_0.h (At.f 0 rfl rfl) rfl) rfl ?_);refine A1 ?_;refine R1 (xb5 (n:=1) (f:=fun n:Int=>tI n) [(l.getD i tst0).lo] zha el3 zf3 rfl (fun _=>inferInstance) rfl rfl rfl) rfl (RE (xb3 (k:=3) (k':=38) (f:=fun n:Int=>tI n) (ys:=[(l.getD i tst0).lo]) (ts':=rV tI (xs++[(l.getD i tst0).lo])) zha el3 zf3 rfl rfl (fun _=>inferInstance) xd2 (by simp;omega) (by simp;omega) (by simp [rV]) (n':=xs.length+1) rfl) qB qA qA ?_);refine A2 ?_;exact xc6 (l:=[3]) (zab 3 38) ((xs++[(l.getD i tst0).lo])) (by rw [if_pos (.inl (by omega)),hx]) (zaf rfl ((zbc rfl (zaw (by rw [zbp];rfl))) (zas rfl zbd))) ((zbb rfl (zat xa6.symm)) zbe) (zaj (zak rfl (zaj zar))) (zam rfl (supJ xa5) zaz) (lkOk rfl) rfl rfl (fun _ h=>by cases h)
    ·
     refine A2 ?_;refine Rg (zbf h190) rfl (xd6 zah) rfl ⟨rfl,rfl,trivial⟩ (Rg (zbf h190) rfl (x4 sl51 (i - 1) (by omega) (zai (l:=l) (n:=i - 1) (d:=tst0))) rfl ⟨rfl,rfl,trivial⟩ (Rg (zbf h190) rfl (xf3 fo59_1.h (At.f 1 rfl rfl) rfl) rfl ⟨rfl,trivial⟩ ?_));refine A3 ?_;refine Rg (zbf h190) rfl (x4 sl51 (i) (by omega) (zai (l:=l) (n:=i) (d:=tst0))) rfl ⟨rfl,rfl,trivial⟩ (Rg (zbf h190) rfl (xf3 fo59_0.h (At.f 0 rfl rfl) rfl) rfl ⟨rfl,trivial⟩ ?_);refine A5 ?_;refine x6 rfl (fun h190_2=> ?_) (fun h190_2=> ?_)
     ·
      refine A4 ?_;refine R2 (x4 sl51 (i) (by omega) (zai (l:=l) (n:=i) (d:=tst0))) rfl rfl (R1 (xf3 fo59_0.h (At.f 0 rfl rfl) rfl) rfl ?_);refine A1 ?_;refine R1 (xb5 (n:=1) (f:=fun n:Int=>tI n) [(l.getD i tst0).lo] zha el3 zf3 rfl (fun _=>inferInstance) rfl rfl rfl) rfl (RE (xb3 (k:=3) (k':=38) (f:=fun n:Int=>tI n) (ys:=[(l.getD i tst0).lo]) (ts':=rV tI (xs++[(l.getD i tst0).lo])) zha el3 zf3 rfl rfl (fun _=>inferInstance) xd2 (by simp;omega) (by simp;omega) (by simp [rV]) (n':=xs.length+1) rfl) qB qA qA ?_);refine A2 ?_;exact xc6 (l:=[3]) (zab 3 38) ((xs++[(l.getD i tst0).lo])) (by rw [if_pos (.inr (by omega)),hx]) (zaf rfl ((zbc rfl (zaw (by rw [zbp];rfl))) (zas rfl zbd))) ((zbb rfl (zat xa6.symm)) zbe) (zaj (zak rfl (zaj zar))) (zam rfl (supJ xa5) zaz) (lkOk rfl) rfl rfl (fun _ h=>by cases h)
     ·
      refine A1 ?_;exact kF (xs) (by rw [if_neg (by omega),hx])
   ·
    intro ys hj190;have hyl:ys.length<=2*i+1:=by
     rw [hj190];have:=zi9 (l:=l) i;split
     ·rw [zbp];simp;omega
     ·omega
    refine A4 ?_;refine R2 (x4 sl51 (i) (by omega) (zai (l:=l) (n:=i) (d:=tst0))) rfl rfl (R1 (xf3 fo59_1.h (At.f 1 rfl rfl) rfl) rfl ?_);refine A1 ?_;refine R1 (xb5 (n:=1) (f:=fun n:Int=>tI n) [(l.getD i tst0).hi] zha el3 zf3 rfl (fun _=>inferInstance) rfl rfl rfl) rfl (RE (xb3 (k:=3) (k':=46) (f:=fun n:Int=>tI n) (ys:=[(l.getD i tst0).hi]) (ts':=rV tI (ys++[(l.getD i tst0).hi])) zha el3 zf3 rfl rfl (fun _=>inferInstance) xd2 (by simp;omega) (by simp;omega) (by simp [rV]) (n':=ys.length+1) rfl) qB qA qA ?_);refine A9 ?_;exact xc6 (l:=[3]) (zab 3 46) ((i+1,ys++[(l.getD i tst0).hi])) ⟨(by dsimp only;exact ⟨by omega,fun _=>h189_2,by rw [chR,<-hj190]⟩),(by dsimp only;omega)⟩ (zaf rfl ((zbc rfl (zaw (by dsimp only;rw [zbp];rfl))) (zas rfl zbd))) ((zbb rfl (zat xa6.symm)) zbe) (zaj (zak rfl (zaj zar))) (zam rfl (supJ xa5) zaz) (lkOk rfl) rfl rfl (fun _ h=>by cases h)
  ·
   refine A7 ?_;refine RE (xi6 (f:=tI) (xs:=xs) (fun _ h=>h) (xg2 rfl) rfl) qA qA trivial ?_;refine A4 ?_;exact E1 rfl rfl (leNil2 hx h189_2 hr)
 ·
  refine A13 ?_;refine RE (xi6 (f:=tI) (xs:=xs) (fun _ h=>h) (xg2 rfl) rfl) qA qA trivial ?_;refine A4 ?_;exact E1 rfl rfl (Le.of (by rw [if_pos (zp0 hr (by omega)),hx,show i=l.length by omega,chg_R (zp0 hr (by omega))]))
end An.S
namespace An.S
open Go
def stK (f:Nat->Option Va):Nat->List Tst
 | 0=>[]
 | d+1=>match f d with
  | none=>stK f d
  | some v=>pst1 (stK f d) ⟨(d:Int),(d:Int)+1,v⟩
theorem jd9 {f:Nat->Option Va} {d:Nat} (h:f d=none):stK f (d+1)=stK f d:=by rw [stK,h]
theorem yz3 {f:Nat->Option Va} {d:Nat} {v:Va} (h:f d=some v):stK f (d+1)=pst1 (stK f d) ⟨(d:Int),(d:Int)+1,v⟩:=by rw [stK,h]
theorem xm0 {f:Nat->Option Va}: ∀d:Nat,ascT (stK f d)/\nbT (stK f d)/\(∀x∈stK f d,x.hi<=(d:Int))/\(∀e:Int,valT (stK f d) e=if 0<=e/\e < d then f e.toNat else none)/\(stK f d).length<=d/\
  (∀v,0 < d->f (d - 1)=some v->0 < (stK f d).length/\((stK f d).getD ((stK f d).length - 1) tst0).hi=(d:Int)/\((stK f d).getD ((stK f d).length - 1) tst0).v=v)/\(0 < d->f (d - 1)=none-> ∀x∈stK f d,x.hi < (d:Int))
 | 0=>⟨⟨fun s hs=>(by cases hs),.nil⟩,trivial,fun x hx=>(by cases hx),fun e=>by rw [if_neg (by omega)];rfl,zbs _,fun v h=>by omega,fun h=>by omega⟩
 | d+1=>by
  obtain ⟨h1,h2,h3,h4,h5,_,_⟩:=xm0 (f:=f) d;cases hf:f d with
  | none=>
   rw [jd9 hf];refine ⟨h1,h2,fun x hx=>by have:=h3 x hx;omega,fun e=> ?_,by omega,fun v _ h=> ?_,fun _ _ x hx=>by have:=h3 x hx;omega⟩
   ·rw [h4];by_cases c:0<=e/\e < d
    ·rw [if_pos c,if_pos (by omega)]
    ·rw [if_neg c];split
     ·rw [show e.toNat=d by omega,hf]
     ·rfl
   ·rw [zgq,hf] at h;cases h
  | some v=>
   rw [yz3 hf];have hlt:(⟨(d:Int),(d:Int)+1,v⟩:Tst).lo < (⟨(d:Int),(d:Int)+1,v⟩:Tst).hi:=by show (d:Int) < (d:Int)+1;omega
   obtain ⟨k1,k2,k3,k4⟩:=pst1_val (s:=⟨(d:Int),(d:Int)+1,v⟩) h1 h2 hlt fun x hx=>h3 x hx;refine ⟨k1,k2,fun x hx=>by have:=k3 x hx;simp only at this;omega,fun e=> ?_,?_,fun u _ h=> ?_,fun _ h=> ?_⟩
   ·rw [k4,h4];simp only;by_cases c:0<=e/\e < d
    ·rw [if_pos c,if_neg (by omega),if_pos (by omega),Option.or_none]
    ·rw [if_neg c,Option.none_or];by_cases c2:(d:Int)<=e/\e < (d:Int)+1
     ·rw [if_pos c2,if_pos (by omega),show e.toNat=d by omega,hf]
     ·rw [if_neg c2,if_neg (by omega)]
   ·have:=pst1_len (stK f d) ⟨(d:Int),(d:Int)+1,v⟩;omega
   ·rw [zgq,hf] at h;cases h;obtain ⟨p1,p2,p3⟩:=pst1_last (l:=stK f d) hlt;exact ⟨p1,by rw [p2];simp,p3⟩
   ·rw [zgq,hf] at h;cases h
theorem jk7 {f:Nat->Option Va} {d:Nat} {v:Va} (h:f d=some v) (h0:0 < d) (hu:f (d - 1)=some v):
  stK f (d+1)=(stK f d).set ((stK f d).length - 1) ⟨((stK f d).getD ((stK f d).length - 1) tst0).lo,(d:Int)+1,((stK f d).getD ((stK f d).length - 1) tst0).v⟩:=by
 obtain ⟨k1,k2,k3⟩:=(xm0 (f:=f) d).2.2.2.2.2.1 v h0 hu;rw [yz3 h,pst1,if_neg (by simp only;omega),if_pos ⟨k1,k2,k3⟩]
theorem zh1 {f:Nat->Option Va} {d:Nat} {v:Va} (h:f d=some v) (hn: ¬(0 < d/\f (d - 1)=some v)):stK f (d+1)=stK f d++[⟨(d:Int),(d:Int)+1,v⟩]:=by
 obtain ⟨_,_,h3,_,h5,h6,h7⟩:=xm0 (f:=f) d;rw [yz3 h,pst1,if_neg (by simp only;omega),if_neg];rintro ⟨q1,q2,q3⟩;simp only at q2 q3;have hd:0 < d:=by omega
 cases hu:f (d - 1) with
 | none=>
  have:=h7 hd hu _ (xi0 (l:=stK f d) (i:=(stK f d).length - 1) (by omega));omega
 | some u=>
  have:=(h6 u hd hu).2.2;rw [q3] at this;exact hn ⟨hd,by rw [hu,this]⟩
theorem zk3 {l:List Tst} (h:tRight l=true) {d:Int} (hd: ¬(0<=d/\d < 65536)):valT l d=none:=yc3.2 fun s hs hh=>by
 obtain ⟨i,hi,rfl⟩:=xv0 hs;have:=xt7 h hi;omega
theorem jn3 {a b:List Tst} (ha:tRight a=true) (hb:tRight b=true):stK (fun d=>jnG a b (d:Int)) 65536=jnT a b:=by
 obtain ⟨h1,h2,_,h4,_⟩:=xm0 (f:=fun d=>jnG a b (d:Int)) 65536;refine zs5 h1 h2 (zi7 xr9).1 (zi7 xr9).2.1 fun d=> ?_;rw [h4];have e:valT (jnT a b) d=(valT b d).or (valT a d):=wd6 d;rw [e];by_cases c:0<=d/\d < (65536:Nat)
 ·rw [if_pos c,jnG,show ((d.toNat:Nat):Int)=d by omega]
 ·rw [if_neg c,zk3 ha (by omega),zk3 hb (by omega)];rfl
def jnA (a b:List Tst) (d:Nat):Int:=if 0 < tabT b d then (a.length:Int)+tabT b d else tabT a d
theorem getD_l {a b:List Tst} {j:Nat} (h:j < a.length):(a++b).getD j tst0=a.getD j tst0:=by
 rw [zbh,zdo h,<-zbh]
theorem getD_r {a b:List Tst} {j:Nat}:(a++b).getD (a.length+j) tst0=b.getD j tst0:=by
 rw [zbh,zeg (by omega),Nat.add_sub_cancel_left,<-zbh]
theorem js9 {a b:List Tst} (ha:tRight a=true) (hb:tRight b=true) (d:Nat):(jnA a b d=0/\jnG a b (d:Int)=none)∨ ∃j,j < (a++b).length/\jnA a b d=(j:Int)+1/\jnG a b (d:Int)=some ((a++b).getD j tst0).v:=by
 rw [jnA,jnG];rcases yg3 hb d with ⟨h1,h2⟩ | ⟨j,h1,h2,h3⟩
 ·rw [h1,h2,if_neg (by omega),Option.none_or];rcases yg3 ha d with h3 | ⟨j,h3,h4,h5⟩
  ·exact .inl h3
  ·exact .inr ⟨j,by rw [zbp];omega,h4,by rw [getD_l h3];exact h5⟩
 ·rw [h2,h3,if_pos (by omega)];exact .inr ⟨a.length+j,by rw [zbp];omega,by omega,by rw [getD_r];rfl⟩
def woR (l:List Tst) (x y:Int):List Tst:=l.foldl (fun z s=>parR (parR z (clip 0 x s)) (clip y 65536 s)) []
theorem yv9 {l:List Tst} {x y:Int} {i:Nat} (hi:i < l.length):woR (l.take (i+1)) x y=parR (parR (woR (l.take i) x y) (clip 0 x (l.getD i tst0))) (clip y 65536 (l.getD i tst0)):=by
 rw [woR,woR,zby hi,zft,zbh,zbi hi];rfl
theorem yv7 {z:List Tst} {s:Tst}:(parR z s).length<=z.length+1:=by rw [parR];split <;> simp
theorem qp1 {l:List Tst} {x y:Int}: ∀{i:Nat},i<=l.length->(woR (l.take i) x y).length<=2*i
 | 0,_=>by simp [woR]
 | i+1,hi=>by
  have:=qp1 (l:=l) (x:=x) (y:=y) (i:=i) (by omega);rw [yv9 (by omega)];have h1:=yv7 (z:=woR (l.take i) x y) (s:=clip 0 x (l.getD i tst0));have h2:=yv7 (z:=parR (woR (l.take i) x y) (clip 0 x (l.getD i tst0))) (s:=clip y 65536 (l.getD i tst0));omega
theorem qk6 {z:List Tst} {s:Tst} (h: ∀e∈z,s.lo < s.hi->e.hi=s.lo->e.v≠s.v):parR z s=pst1 z s:=by
 rw [parR,pst1];by_cases c:s.lo < s.hi
 ·rw [if_pos c,if_neg (by omega),if_neg];rintro ⟨q1,q2,q3⟩;exact h _ (xi0 (l:=z) (i:=z.length - 1) (by omega)) c q2 q3
 ·rw [if_neg c,if_pos (by omega)]
theorem yz5 {z:List Tst} {s e:Tst} (h:e∈parR z s):e∈z∨e=s:=by
 rw [parR] at h;split at h
 ·rcases zbo.1 h with h | h
  ·exact .inl h
  ·exact .inr (zbj.1 h)
 ·exact .inl h
theorem wo_R' {l:List Tst} {x y:Int} (h:tRight l=true) (hxy:x < y): ∀i,i<=l.length->woR (l.take i) x y=pst [] ((l.take i).flatMap (woP x y))/\ ∀e∈woR (l.take i) x y,∃j,j < i/\e.hi<=(l.getD j tst0).hi/\e.v=(l.getD j tst0).v
 | 0,_=>⟨by simp [woR,pst],fun x hx=>by simp [woR] at hx⟩
 | i+1,hi=>by
  obtain ⟨h1,h2⟩:=wo_R' (x:=x) (y:=y) h hxy i (by omega);have h3:=xt7 h (i:=i) (by omega);have old: ∀e∈woR (l.take i) x y,∀p:Int,(l.getD i tst0).lo<=p->e.hi=p->e.v≠(l.getD i tst0).v:=fun e he p hp e1 e2=>by
   obtain ⟨j,hj,q1,q2⟩:=h2 e he;have h4:=ya8 h hj (by omega);by_cases hji:j=i - 1
   ·subst hji;rcases h3.2.2.2 with h0 | h0
    ·omega
    ·exact h0.2.2 ⟨by omega,q2.symm.trans e2⟩
   ·have h5:=ya8 h (i:=j) (j:=i - 1) (by omega) (by omega);have h6:=(xt7 h (i:=i - 1) (by omega)).2.1;have h7:=ya8 h (i:=i - 1) (j:=i) (by omega) (by omega);omega
  have c1:clip 0 x (l.getD i tst0)=⟨(l.getD i tst0).lo,min (l.getD i tst0).hi x,(l.getD i tst0).v⟩:=by
   simp only [clip];rw [show max (l.getD i tst0).lo 0=(l.getD i tst0).lo by omega]
  have c2:clip y 65536 (l.getD i tst0)=⟨max (l.getD i tst0).lo y,(l.getD i tst0).hi,(l.getD i tst0).v⟩:=by
   simp only [clip];rw [show min (l.getD i tst0).hi 65536=(l.getD i tst0).hi by omega]
  rw [yv9 (by omega)];refine ⟨?_,fun e he=> ?_⟩
  ·rw [qk6 (z:=parR _ _),qk6 (z:=woR _ _ _),h1,zby (by omega),zeu,pst,pst,zft,c1,c2]
   ·have e:l.getD i tst0=l[i]:=by rw [zbh,zbi (by omega)];rfl
    rw [e];simp [woP]
   ·intro e he _ q;rw [c1] at q ⊢;exact old e he _ (zfp _) q
   ·intro e he hlt q;rw [c2] at q hlt ⊢;rcases yz5 he with he | rfl
    ·exact old e he _ (by simp only;omega) q
    ·rw [c1] at q;simp only at q;omega
  ·rcases yz5 he with he | rfl
   ·rcases yz5 he with he | rfl
    ·obtain ⟨j,hj,q⟩:=h2 e he;exact ⟨j,by omega,q⟩
    ·exact ⟨i,by omega,by rw [c1];simp only;omega,by rw [c1]⟩
   ·exact ⟨i,by omega,by rw [c2];simp only;omega,by rw [c2]⟩
theorem wo_R {l:List Tst} {x y:Int} (h:tRight l=true) (hxy:x < y):woR l x y=woT l x y:=by
 have:=(wo_R' (x:=x) (y:=y) h hxy l.length (zbs _)).1
 rwa [zbx] at this
end An.S
namespace An
open Go
theorem wa1 {P:Program} {c:Base} {g:Slots} {h:Keys} {al:Names} {Q:Exit->Act->World->Prop} {A:Array Oper} {rest:List Oper} {t k T es off len:Nat} {agg:Bool} {ts:List Ent} {α:Type} {f:α->Ty} {xs:List α} (hg:g t=some (.own (.sl k es off len))) (hk:h k=some ⟨T,es,agg,ts⟩) (hlb:NoLb c)
  (hts:(ts.drop off).take len=xs.map fun x=> .val (f x)) (hl:xs.length=len) (H:wl P c A Q rest (upd g t (some (.val (tL es agg f xs)))) (upd h k none) al):wl P c A Q rest g h al:=fun a w ⟨η,s⟩=>by
 have h2:=s.give hk hlb hts hl (s.slot t _ hg).2.2;have s2:=(s.drop k).put (s.slot t _ hg).1 (e:= .val (tL es agg f xs)) h2 fun j hj=>by cases hj
 refine H a w ⟨η,?_⟩;have e:a.put (some t) (a.tmps.getD t undef)=a:=by
  have hlt:t < a.tmps.size:=by rw [s.tn];exact (s.slot t _ hg).1
  have:a.tmps.setIfInBounds t (a.tmps.getD t undef)=a.tmps:=by
   apply zds;intro i;rw [zew];by_cases hi:t=i
   ·subst hi;simp [hlt]
   ·simp [hi]
  simp only [Act.put,this]
 rwa [e] at s2
end An
namespace An.S
open Go Go.Proofs An Tryz
instance fi196:FnI Tryz.prog 196:=⟨_,func196,by kernel_rfl,rfl⟩
theorem ju4 {l:List Tst} {x:Int} (h:tRight l=true):woT l x x=l:=by
 obtain ⟨h1,h2,h3⟩:=wo_val (y7 h) (zfp x);exact zs5 h1 h2 (y7 h) (qv2 h) fun d=>by rw [h3,if_neg (by omega)]
theorem Sn.ok_le {x y:Int} (h:Sn.ok ⟨x,y⟩=true):x<=y:=by simp [Sn.ok] at h;omega
theorem qd9 (l:List Tst) (hl:l.length<=500000) (x y:Int) (hD: ∀s∈l,s.v.f.dig) (hs: ∀s∈l,s.v.f.n.l.length<=1048576/\s.v.f.d.l.length<=1048576):
  Ct Tryz.prog 117 [tL 8 true tTs l,tI x,tI y] (tT [tL 8 true tTs (if (tRight l=true/\Sn.ok ⟨x,y⟩=true) then woT l x y else []),tI (if (tRight l=true/\Sn.ok ⟨x,y⟩=true) then 0 else 2)]):=by
 refine Ct.intro func117 rfl ntmps117 rfl ?_;intro w F;refine A10 ?_;refine R1 (x3 (ya7 l hl hD hs) fi107 rfl) rfl ?_;refine A2 ?_;refine RGcase (t:=13) rfl (fun h126=> ?_) (fun h126=> ?_)
 ·
  refine A16 ?_;exact E2 rfl rfl rfl (leNil (if_neg (fun h=>by simp [h.1] at*))) (zba (if_neg (fun h=>by simp [h.1] at*)).symm)
 ·
  refine A2 ?_;refine Rg h126 rfl (x3 (zb2 x y) fi194 rfl) rfl qB ?_;refine A4 ?_;refine xc2 rfl (fun h126_2=> ?_) (fun h126_2=> ?_)
  ·
   refine A8 ?_;exact E2 rfl rfl rfl (leNil (if_neg (fun h=>by simp [h.1,h.2] at*))) (zba (if_neg (fun h=>by simp [h.1,h.2] at*)).symm)
  ·
   refine A10 ?_;refine x6 rfl (fun h129=> ?_) (fun h129=> ?_)
   ·
    have hok:(tRight l=true/\Sn.ok ⟨x,y⟩=true):=by simpa using And.intro h126 h126_2
    subst h129;refine A9 ?_;exact E2 rfl rfl rfl (Le.of (by rw [if_pos hok,ju4 hok.1])) (zba (by rw [if_pos hok]))
   ·
    have hok:(tRight l=true/\Sn.ok ⟨x,y⟩=true):=by simpa using And.intro h126 h126_2
    have hlt:x < y:=by have:=Sn.ok_le hok.2;omega
    refine A4 ?_;refine RE (xe3 (k:=8) 59 8 true rfl (fun h=>by cases h)) trivial trivial qA ?_;refine A9 ?_;refine cL (fun (fm:(Nat)×(List Tst))=>(fun (i:Nat) (zs:List Tst)=>i<=l.length/\zs=woR (l.take i) x y) fm.1 fm.2) (wB fun (i:Nat) (zs:List Tst)=>uV (uO (uV (uV (uV uN 0 (tL 8 true tTs l)) 1 (tI x)) 2 (tI y)) 8 (.sl 8 8 0 zs.length)) 9 (tI i)) (wB fun (i:Nat) (zs:List Tst)=>uK uN 8 59 8 true (rV tTs zs)) [8] (fun (fm:(Nat)×(List Tst))=>(fun (i:Nat) (zs:List Tst)=>l.length - i) fm.1 fm.2) ((0,[])) (by dsimp only;exact ⟨zbq _,rfl⟩) ?_;intro fm hI;obtain ⟨i,zs⟩:=fm;replace hI:i<=l.length/\zs=woR (l.take i) x y:=hI;show wc _ _ _ _ (uV (uO (uV (uV (uV uN 0 (tL 8 true tTs l)) 1 (tI x)) 2 (tI y)) 8 (.sl 8 8 0 zs.length)) 9 (tI i)) (uK uN 8 59 8 true (rV tTs zs)) _;obtain ⟨hi,hz⟩:=hI;have hzl:zs.length<=2*i:=by rw [hz];exact qp1 hi
    have hpl:=yv7 (z:=zs) (s:=clip 0 x (l.getD i tst0));refine A9 ?_;refine x6 rfl (fun h133=> ?_) (fun h133=> ?_)
    ·
     refine A8 ?_;refine R2 (x4 sl51 (i) (by omega) (zai (l:=l) (n:=i) (d:=tst0))) rfl rfl ?_;refine A2 ?_;refine RE (xb7 (fun j=>cond (Nat.beq j 1) 8 (35)) (yw3 zs (l.getD i tst0) 0 x (by omega)) fi195 rfl (krC (ρ:=fun j=>cond (Nat.beq j 1) 8 (35)) (k:=1) xa6 (krN (ρ:=fun j=>cond (Nat.beq j 1) 8 (35)))) (krC (ρ:=fun j=>cond (Nat.beq j 1) 8 (35)) (k:=90) xa6 (krN (ρ:=fun j=>cond (Nat.beq j 1) 8 (35)))) ⟨⟨rfl,xa5⟩,trivial⟩ rfl) qD qA qA ?_;refine A2 ?_;refine R2 (x4 sl51 (i) (by omega) (zai (l:=l) (n:=i) (d:=tst0))) rfl rfl ?_;refine A2 ?_;refine RE (xb7 (fun j=>cond (Nat.beq j 1) 35 (41)) (yw3 (parR zs (clip 0 x (l.getD i tst0))) (l.getD i tst0) y 65536 (by omega)) fi195 rfl (krC (ρ:=fun j=>cond (Nat.beq j 1) 35 (41)) (k:=1) xa6 (krN (ρ:=fun j=>cond (Nat.beq j 1) 35 (41)))) (krC (ρ:=fun j=>cond (Nat.beq j 1) 35 (41)) (k:=90) xa6 (krN (ρ:=fun j=>cond (Nat.beq j 1) 35 (41)))) ⟨⟨rfl,xa5⟩,trivial⟩ rfl) qD qA qA ?_;refine A9 ?_;exact xc6 (l:=[8]) (zab 8 41) ((i+1,parR (parR zs (clip 0 x (l.getD i tst0))) (clip y 65536 (l.getD i tst0)))) ⟨(by dsimp only;exact ⟨by omega,by rw [yv9 (by omega),<-hz]⟩),(by dsimp only;omega)⟩ (zaf rfl (zas rfl (zaf rfl (zaf rfl (zas rfl zbd))))) ((zbb rfl (zat xa6.symm)) zbe) (zaj (zak rfl (zaj (zaj (zaj zar))))) (zam rfl (supJ xa5) zaz) (lkOk rfl) rfl rfl (fun _ h=>by cases h)
    ·
     refine A7 ?_;refine RE (xi6 (f:=tTs) (xs:=zs) (fun _ h=>h) (xg2 rfl) rfl) qA qA trivial ?_;refine A5 ?_;exact E2 rfl rfl rfl (Le.of (by rw [if_pos hok,hz,show i=l.length by omega,zbx,wo_R hok.1 hlt])) (zba (by rw [if_pos hok]))
theorem qs8 (l:List Tst) (hl:l.length<=500000) (hok:tRight l=true) (n:Nat) (hn:n=65536):
  CtG Tryz.prog 188 [] [.val (tL 8 true tTs l)] (.own (.sl 6 1 0 n)) [(6,⟨3,1,false,rV tI (rowD (tabT l))⟩)] [6]:=by
 refine CtG.intro [] func188 rfl ntmps188 rfl rfl trivial ?_;intro w F η;refine A7 ?_;refine RE (xg0 (k:=6) (t:=tI 0) (ts:=rV tI (List.replicate n 0)) n n zha el3 (fun _ _=>rfl) rfl (by omega) (by omega) (zbs _) (by omega) (by omega) (xk0 _ _ rfl)) qB trivial qA ?_;refine A10 ?_;refine cL (fun (i:Nat)=>i<=l.length) (fun (i:Nat)=>uV (uO (uV uN 0 (tL 8 true tTs l)) 3 (.sl 6 1 0 n)) 4 (tI i)) (fun (i:Nat)=>uK uN 6 3 1 false (rV tI (rowD (tabI l i)))) [6] (fun (i:Nat)=>l.length - i) (0) (zbq _) (hh:=((zaq rfl (zat (by rw [hn,ym2,tab0]))) zax)) ?_;intro i hI;refine A9 ?_;refine x6 rfl (fun h65=> ?_) (fun h65=> ?_)
 ·
  refine A8 ?_;refine R2 (x4 sl51 (i) (by omega) (zai (l:=l) (n:=i) (d:=tst0))) rfl rfl (R1 (xf3 fo59_0.h (At.f 0 rfl rfl) rfl) rfl ?_);refine A5 ?_;have hat:=xt7 hok (i:=i) (by omega);refine cL (fun (e:Int)=>(l.getD i tst0).lo<=e/\e<=(l.getD i tst0).hi) (fun (e:Int)=>uV (uV (uO (uV uN 0 (tL 8 true tTs l)) 3 (.sl 6 1 0 n)) 4 (tI i)) 5 (tI e)) (fun (e:Int)=>uK uN 6 3 1 false (rV tI (rowD (tabF l i e)))) [6] (fun (e:Int)=>((l.getD i tst0).hi - e).toNat) ((l.getD i tst0).lo) ⟨by omega,by omega⟩ (hh:=((zaq rfl (zat (by rw [qu6]))) zax)) ?_;intro e hI2;obtain ⟨he1,he2⟩:=hI2;refine A6 ?_;refine R2 (x4 sl51 (i) (by omega) (zai (l:=l) (n:=i) (d:=tst0))) rfl rfl (R1 (xf3 fo59_1.h (At.f 1 rfl rfl) rfl) rfl ?_);refine A4 ?_;refine x6 rfl (fun h66=> ?_) (fun h66=> ?_)
  ·
   refine A9 ?_;refine R2 (zag sl23 rfl) rfl rfl (RE (xb8 (e.toNat) ti3 (xe8 (by rw [xz1];omega)) (by omega) (xi3 (f:=tI) (m:=(i:Int)+1) rfl)) qB qA trivial ?_);refine A8 ?_;exact kF (e+1) ⟨⟨by omega,by omega⟩,(by omega)⟩ (hh:=((zaq rfl (zat (by rw [qq3 (by omega) (by omega)]))) zax))
  ·
   refine A11 ?_;exact kF (i+1) ⟨(by omega),(by omega)⟩ (hh:=((zaq rfl (zat (by rw [qv9 (by omega)]))) zax))
 ·
  refine A6 ?_;refine yb2 (k:=6) (e':=⟨3,1,false,rV tI (rowD (tabT l))⟩) rfl (by rw [show i=l.length by omega]) ?_;refine A6 ?_;exact xc5 LentC.mk' rfl rfl Imp.refl qA rfl ⟨⟨rfl,xa5⟩,trivial⟩ rfl
theorem jb7 (l:List Tst) (A:Nat->Int) (f:Nat->Option Va) (hl:l.length<=1000000) (hs: ∀s∈l,s.v.f.n.l.length<=1048576/\s.v.f.d.l.length<=1048576) (hA: ∀d,d < 65536->0<=A d/\A d<=l.length/\f d=if A d=0 then none else some (l.getD (A d - 1).toNat tst0).v):
  Ct Tryz.prog 196 [tL 8 true tTs l,tL 1 false tI (rowD A)] (tL 8 true tTs (stK f 65536)):=by
 refine Ct.intro func196 rfl ntmps196 rfl ?_;intro w F;refine xm6 ?_;refine xw5 ?_;refine R1 xe5 rfl (xm4 (by kernel_rfl) (xf5 (xm6 ?_)));refine xw5 ?_;refine RE (xe3 (k:=5) 59 8 true rfl (fun h=>by cases h)) trivial trivial qA (xm4 (by kernel_rfl) (xf5 (xm6 (xm6 ?_))));refine xw5 ?_;refine R1 xe5 rfl (xm4 (by kernel_rfl) (xf5 (xw7 ?_)));refine cL (fun (fm:(Nat)×(List Tst))=>(fun (d:Nat) (xs:List Tst)=>d<=65536/\xs=stK f d) fm.1 fm.2) (wB fun (d:Nat) (xs:List Tst)=>uV (uO (uV (uV uN 0 (tL 8 true tTs l)) 1 (tL 1 false tI (rowD A))) 5 (.sl 5 8 0 xs.length)) 6 (tI d)) (wB fun (d:Nat) (xs:List Tst)=>uK uN 5 59 8 true (rV tTs xs)) [5] (fun (fm:(Nat)×(List Tst))=>(fun (d:Nat) (xs:List Tst)=>65536 - d) fm.1 fm.2) ((0,[])) (by dsimp only;exact ⟨zbq _,rfl⟩) ?_;intro fm hI;obtain ⟨d,xs⟩:=fm;replace hI:d<=65536/\xs=stK f d:=hI;show wc _ _ _ _ (uV (uO (uV (uV uN 0 (tL 8 true tTs l)) 1 (tL 1 false tI (rowD A))) 5 (.sl 5 8 0 xs.length)) 6 (tI d)) (uK uN 5 59 8 true (rV tTs xs)) _;obtain ⟨hd,hx⟩:=hI;have hxl:xs.length<=d:=by rw [hx];exact (xm0 d).2.2.2.2.1
 refine xm6 (xm6 ?_);refine xw5 ?_;refine R1 xb9 rfl (R2 xh6 rfl rfl (xm4 (by kernel_rfl) (xf5 ?_)));refine x6 rfl (fun h76=> ?_) (fun h76=> ?_)
 ·
  refine xz3 (xf5 (xm6 (xw7 (xm6 (xm6 ?_)))));have q:=hA d (by omega);have qp:=hA (d - 1) (by omega);refine xw5 ?_;refine R1 xb9 rfl (R1 xb9 rfl (R2 (x4 sl23 (d) (by omega) (xz0 (by omega))) rfl rfl (R1 (xm1 ti3) rfl (R2 ys3 rfl rfl (xm4 (by kernel_rfl) (xf5 ?_))))));refine x6 rfl (fun h77=> ?_) (fun h77=> ?_)
  ·
   refine yb4 (y9 (xf2 (xf5 ?_)));refine xw5 ?_;refine R1 xb9 rfl (R2 (xd8 zah) rfl rfl (R1 xe5 rfl (xm4 (by kernel_rfl) ?_)));exact kF ((d+1,xs)) ⟨(by dsimp only;exact ⟨by omega,by rw [jd9 (by rw [q.2.2,if_pos h77]),<-hx]⟩),(by dsimp only;omega)⟩
  ·
   have hfd:f d=some (l.getD (A d - 1).toNat tst0).v:=by rw [q.2.2,if_neg h77]
   refine xz3 (xf5 (xm6 ?_));refine xw5 ?_;refine R1 xb9 rfl (R1 xb9 rfl (R1 xb9 rfl (R2 (x4 sl23 (d) (by omega) (xz0 (by omega))) rfl rfl (R1 (xm1 ti3) rfl (R2 (xd6 zah) rfl rfl (R2 (x4 sl51 ((A d - 1).toNat) (by omega) (zai (l:=l) (n:=(A d - 1).toNat) (d:=tst0))) rfl rfl (R1 (xf3 fo59_2.h (At.f 2 rfl rfl) rfl) rfl (R1 (xm1 ti57) rfl (RE (x7 (k:=7) (n:=6) (agg:=true) zr57.1 zr57.2 rfl) trivial trivial ⟨rfl,trivial⟩ (RE (xb8 (es:=6) (agg:=true) (0) ti57 rfl rfl rfl) ⟨rfl,rfl,trivial⟩ ⟨rfl,trivial⟩ trivial (xm4 (by kernel_rfl) (xf5 (xm6 ?_)))))))))))));refine ye5 mixed ?_;refine R1 xb9 rfl (R2 yc6 rfl rfl (R1 xb9 rfl ?_));refine RGcaseD (t:=28) rfl (fun h81=> ?_) (fun h81=> ?_)
   ·
    refine Rg (zbg h81) rfl xb9 rfl qA (Rg (zbg h81) rfl xb9 rfl qA (Rg (zbg h81) rfl (xd6 zah) rfl qB (Rg (zbg h81) rfl (x4 sl23 (d - 1) (by omega) (xz0 (by omega))) rfl qB (Rg (zbg h81) rfl (xm1 ti3) rfl qA (Rg (zbg h81) rfl yc6 rfl qB (R2 (xc9 (zbg h81)) rfl rfl (R1 xb9 rfl ?_)))))));refine RGcaseD (t:=36) rfl (fun h81_2=> ?_) (fun h81_2=> ?_)
    ·
     refine Rg (zbg h81_2) rfl xb9 rfl ⟨rfl,trivial⟩ (Rg (zbg h81_2) rfl xb9 rfl ⟨rfl,trivial⟩ (Rg (zbg h81_2) rfl xb9 rfl ⟨rfl,trivial⟩ (Rg (zbg h81_2) rfl (xd6 zah) rfl ⟨rfl,rfl,trivial⟩ (Rg (zbg h81_2) rfl (x4 sl23 (d - 1) (by omega) (xz0 (by omega))) rfl ⟨rfl,rfl,trivial⟩ (Rg (zbg h81_2) rfl (xm1 ti3) rfl ⟨rfl,trivial⟩ (Rg (zbg h81_2) rfl (xd6 zah) rfl ⟨rfl,rfl,trivial⟩ (Rg (zbg h81_2) rfl (x4 sl51 ((A (d - 1) - 1).toNat) (by omega) (zai (l:=l) (n:=(A (d - 1) - 1).toNat) (d:=tst0))) rfl ⟨rfl,rfl,trivial⟩ (Rg (zbg h81_2) rfl (xf3 fo59_2.h (At.f 2 rfl rfl) rfl) rfl ⟨rfl,trivial⟩ (Rg (zbg h81_2) rfl (xm1 ti57) rfl ⟨rfl,trivial⟩ (RGon (zbg h81_2) rfl (xc1 (0) ti57 rfl rfl) rfl ⟨rfl,trivial⟩ ⟨rfl,trivial⟩ trivial (Rg (zbg h81_2) rfl (x3 (ym0 (l.getD (A (d - 1) - 1).toNat tst0).v (l.getD (A d - 1).toNat tst0).v (hs _ (xi0 (by omega))).1 (hs _ (xi0 (by omega))).2) fi124 rfl) rfl ⟨rfl,rfl,trivial⟩ (R2 (xc9 (zbg h81_2)) rfl rfl (yb7 (by kernel_rfl) (xf5 ?_))))))))))))));refine x6 rfl (fun h81_3=> ?_) (fun h81_3=> ?_)
     ·
      have hfp:f (d - 1)=some (l.getD (A d - 1).toNat tst0).v:=by rw [qp.2.2,if_neg (by omega),h81_3]
      have hk:=((xm0 (f:=f) d).2.2.2.2.2.1 _ (by omega) hfp).1;rw [<-hx] at hk;refine xw5 ?_;refine R1 xb9 rfl (R1 xb9 rfl (R1 (zc9 zhm) rfl (R2 (xd6 zah) rfl rfl (R1 xb9 rfl (R2 (xd8 zah) rfl rfl (R2 (zag sl51 rfl) rfl rfl (R1 (xh0 fo59_1.h rfl) rfl (RE (xj2 (es:=8) (o:=1) (t2:=tTs ⟨(xs.getD (xs.length - 1) tst0).lo,(d:Int)+1,(xs.getD (xs.length - 1) tst0).v⟩) (xs.length - 1) ti3 (xc4 (d:=tst0) (by omega)) (Up.g 1 rfl rfl rfl) (by omega) (xi3 rfl)) qB qA trivial (xm4 (by kernel_rfl) (ya0 (xf5 ?_)))))))))));refine xw5 ?_;refine R1 xb9 rfl (R2 (xd8 zah) rfl rfl (R1 xe5 rfl (xm4 (by kernel_rfl) ?_)));exact kF ((d+1,(xs.set (xs.length - 1) ⟨(xs.getD (xs.length - 1) tst0).lo,(d:Int)+1,(xs.getD (xs.length - 1) tst0).v⟩))) ⟨(by dsimp only;exact ⟨by omega,by rw [jk7 hfd (by omega) hfp,<-hx]⟩),(by dsimp only;omega)⟩ (hg:=(sI ((zav rfl (zaw (by dsimp only;rw [zdy]))) (sC (sC zay)))))
     ·
      refine xw5 ?_;refine R1 xb9 rfl (R1 xb9 rfl (R1 xb9 rfl (R2 (xd8 zah) rfl rfl (RE (xc1 (0) ti57 rfl rfl) qA qA trivial (R3 (xb0 (r:=tS [⟨1,false,tI (d:Int)⟩,⟨1,false,tI ((d:Int)+1)⟩,⟨6,true,tVa (l.getD (A d - 1).toNat tst0).v⟩]) (ts:=[(0,tI (d:Int)),(1,tI ((d:Int)+1)),(2,tVa (l.getD (A d - 1).toNat tst0).v)]) bu59 zr59.2 (Bc 0 rfl rfl rfl (Bc 1 rfl rfl rfl (Bc 2 rfl rfl rfl zao)))) rfl rfl rfl (R1 (xb5 (n:=1) (f:=tTs) [(⟨(d:Int),(d:Int)+1,(l.getD (A d - 1).toNat tst0).v⟩:Tst)] zhm el59 zf59 rfl (fun _=>inferInstance) rfl rfl rfl) rfl (RE (xb3 (k:=5) (k':=65) (f:=tTs) (ys:=[(⟨(d:Int),(d:Int)+1,(l.getD (A d - 1).toNat tst0).v⟩:Tst)]) (ts':=rV tTs (xs++[(⟨(d:Int),(d:Int)+1,(l.getD (A d - 1).toNat tst0).v⟩:Tst)])) zhm el59 zf59 rfl rfl (fun _=>inferInstance) xd2 (by simp;omega) (by simp;omega) (by simp [rV]) (n':=xs.length+1) rfl) qB qA qA (R1 xe5 rfl (xm4 (by kernel_rfl) (ya0 (xf5 ?_)))))))))));refine xw5 ?_;refine R1 xb9 rfl (R2 (xd8 zah) rfl rfl (R1 xe5 rfl (xm4 (by kernel_rfl) ?_)));exact xc6 (l:=[5]) (zab 5 65) ((d+1,xs++[(⟨(d:Int),(d:Int)+1,(l.getD (A d - 1).toNat tst0).v⟩:Tst)])) ⟨(by dsimp only;exact ⟨by omega,by rw [zh1 hfd (fun h=>h81_3 (by have e:=h.2;rw [qp.2.2,if_neg (by omega)] at e;exact Option.some.inj e)),<-hx]⟩),(by dsimp only;omega)⟩ (zaf rfl ((zbc rfl (zaw (by dsimp only;rw [zbp];rfl))) (zas rfl (zas rfl zbd)))) ((zbb rfl (zat xa6.symm)) zbe) (zaj (zak rfl (zaj (zaj zar)))) (zam rfl (supJ xa5) zaz) (lkOk rfl) rfl rfl (fun _ h=>by cases h)
    ·
     refine RGoff (zbf h81_2) rfl rfl (RGoff (zbf h81_2) rfl rfl (RGoff (zbf h81_2) rfl rfl (RGoff (zbf h81_2) rfl rfl (RGoff (zbf h81_2) rfl rfl (RGoff (zbf h81_2) rfl rfl (RGoff (zbf h81_2) rfl rfl (RGoff (zbf h81_2) rfl rfl (RGoff (zbf h81_2) rfl rfl (RGoff (zbf h81_2) rfl rfl (RGoff (zbf h81_2) rfl rfl (RGoff (zbf h81_2) rfl rfl (R2 (xc7 (zbf h81_2)) rfl rfl (yb7 (by kernel_rfl) (xf5 (xw4 rfl rfl ?_)))))))))))))));refine xw5 ?_;refine R1 xb9 rfl (R1 xb9 rfl (R1 xb9 rfl (R2 (xd8 zah) rfl rfl (RE (xc1 (0) ti57 rfl rfl) qA qA trivial (R3 (xb0 (r:=tS [⟨1,false,tI (d:Int)⟩,⟨1,false,tI ((d:Int)+1)⟩,⟨6,true,tVa (l.getD (A d - 1).toNat tst0).v⟩]) (ts:=[(0,tI (d:Int)),(1,tI ((d:Int)+1)),(2,tVa (l.getD (A d - 1).toNat tst0).v)]) bu59 zr59.2 (Bc 0 rfl rfl rfl (Bc 1 rfl rfl rfl (Bc 2 rfl rfl rfl zao)))) rfl rfl rfl (R1 (xb5 (n:=1) (f:=tTs) [(⟨(d:Int),(d:Int)+1,(l.getD (A d - 1).toNat tst0).v⟩:Tst)] zhm el59 zf59 rfl (fun _=>inferInstance) rfl rfl rfl) rfl (RE (xb3 (k:=5) (k':=65) (f:=tTs) (ys:=[(⟨(d:Int),(d:Int)+1,(l.getD (A d - 1).toNat tst0).v⟩:Tst)]) (ts':=rV tTs (xs++[(⟨(d:Int),(d:Int)+1,(l.getD (A d - 1).toNat tst0).v⟩:Tst)])) zhm el59 zf59 rfl rfl (fun _=>inferInstance) xd2 (by simp;omega) (by simp;omega) (by simp [rV]) (n':=xs.length+1) rfl) qB qA qA (R1 xe5 rfl (xm4 (by kernel_rfl) (ya0 (xf5 ?_)))))))))));refine xw5 ?_;refine R1 xb9 rfl (R2 (xd8 zah) rfl rfl (R1 xe5 rfl (xm4 (by kernel_rfl) ?_)));exact xc6 (l:=[5]) (zab 5 65) ((d+1,xs++[(⟨(d:Int),(d:Int)+1,(l.getD (A d - 1).toNat tst0).v⟩:Tst)])) ⟨(by dsimp only;exact ⟨by omega,by rw [zh1 hfd (fun h=>by have e:=h.2;rw [qp.2.2,if_pos (by omega)] at e;cases e),<-hx]⟩),(by dsimp only;omega)⟩ (zaf rfl ((zbc rfl (zaw (by dsimp only;rw [zbp];rfl))) (zas rfl (zas rfl zbd)))) ((zbb rfl (zat xa6.symm)) zbe) (zaj (zak rfl (zaj (zaj zar)))) (zam rfl (supJ xa5) zaz) (lkOk rfl) rfl rfl (fun _ h=>by cases h)
   ·
    refine RGoff (zbf h81) rfl rfl (RGoff (zbf h81) rfl rfl (RGoff (zbf h81) rfl rfl (RGoff (zbf h81) rfl rfl (RGoff (zbf h81) rfl rfl (RGoff (zbf h81) rfl rfl (R2 (xc7 (zbf h81)) rfl rfl (R1 xb9 rfl (RGoff0 rfl rfl (RGoff0 rfl rfl (RGoff0 rfl rfl (RGoff0 rfl rfl (RGoff0 rfl rfl (RGoff0 rfl rfl (RGoff0 rfl rfl (RGoff0 rfl rfl ?_)))))))))))))));refine RGoff0 rfl rfl (RGoff0 rfl rfl (RGoff0 rfl rfl (RGoff0 rfl rfl (R2 (xc7 rfl) rfl rfl (yb7 (by kernel_rfl) (xf5 (xw4 rfl rfl ?_)))))));refine xw5 ?_;refine R1 xb9 rfl (R1 xb9 rfl (R1 xb9 rfl (R2 (xd8 zah) rfl rfl (RE (xc1 (0) ti57 rfl rfl) qA qA trivial (R3 (xb0 (r:=tS [⟨1,false,tI (d:Int)⟩,⟨1,false,tI ((d:Int)+1)⟩,⟨6,true,tVa (l.getD (A d - 1).toNat tst0).v⟩]) (ts:=[(0,tI (d:Int)),(1,tI ((d:Int)+1)),(2,tVa (l.getD (A d - 1).toNat tst0).v)]) bu59 zr59.2 (Bc 0 rfl rfl rfl (Bc 1 rfl rfl rfl (Bc 2 rfl rfl rfl zao)))) rfl rfl rfl (R1 (xb5 (n:=1) (f:=tTs) [(⟨(d:Int),(d:Int)+1,(l.getD (A d - 1).toNat tst0).v⟩:Tst)] zhm el59 zf59 rfl (fun _=>inferInstance) rfl rfl rfl) rfl (RE (xb3 (k:=5) (k':=65) (f:=tTs) (ys:=[(⟨(d:Int),(d:Int)+1,(l.getD (A d - 1).toNat tst0).v⟩:Tst)]) (ts':=rV tTs (xs++[(⟨(d:Int),(d:Int)+1,(l.getD (A d - 1).toNat tst0).v⟩:Tst)])) zhm el59 zf59 rfl rfl (fun _=>inferInstance) xd2 (by simp;omega) (by simp;omega) (by simp [rV]) (n':=xs.length+1) rfl) qB qA qA (R1 xe5 rfl (xm4 (by kernel_rfl) (ya0 (xf5 ?_)))))))))));refine xw5 ?_;refine R1 xb9 rfl (R2 (xd8 zah) rfl rfl (R1 xe5 rfl (xm4 (by kernel_rfl) ?_)));exact xc6 (l:=[5]) (zab 5 65) ((d+1,xs++[(⟨(d:Int),(d:Int)+1,(l.getD (A d - 1).toNat tst0).v⟩:Tst)])) ⟨(by dsimp only;exact ⟨by omega,by rw [zh1 hfd (fun h=>by omega),<-hx]⟩),(by dsimp only;omega)⟩ (zaf rfl ((zbc rfl (zaw (by dsimp only;rw [zbp];rfl))) (zas rfl (zas rfl zbd)))) ((zbb rfl (zat xa6.symm)) zbe) (zaj (zak rfl (zaj (zaj zar)))) (zam rfl (supJ xa5) zaz) (lkOk rfl) rfl rfl (fun _ h=>by cases h)
 ·
  refine yb4 (y9 (y9 (xf2 (xf5 (xm6 ?_)))));refine xw5 ?_;refine RE (xi6 (f:=tTs) (xs:=xs) (fun _ h=>h) (xg2 rfl) rfl) qA qA trivial (R1 xe5 rfl (xm4 (by kernel_rfl) (xf5 (yb5 ?_))));exact E1 rfl rfl (Le.of (by rw [hx,show d=65536 by omega]))
def mkJ (a b:List Tst) (k d:Nat):Int:=if d < k then jnA a b d else tabT a d
theorem mkJ_0 {a b:List Tst}:rowD (mkJ a b 0)=rowD (tabT a):=by congr 1
theorem w4 {a b:List Tst}:rowD (mkJ a b 65536)=rowD (jnA a b):=by
 unfold rowD;exact zgh fun _ h=>if_pos (zdp.1 h)
theorem ju0 {a b:List Tst} {d:Nat} (_h:d < 65536) (h0:0 < tabT b d):(rowD (mkJ a b d)).set d ((a.length:Int)+tabT b d)=rowD (mkJ a b (d+1)):=
 yw4 (by rw [mkJ,if_pos (by omega),jnA,if_pos h0]) fun e he=>by
  rw [mkJ,mkJ];by_cases c:e < d
  ·rw [if_pos c,if_pos (by omega)]
  ·rw [if_neg c,if_neg (by omega)]
theorem mkJ_no {a b:List Tst} {d:Nat} (h0: ¬0 < tabT b d):rowD (mkJ a b d)=rowD (mkJ a b (d+1)):=by
 congr 1
 funext e;rw [mkJ,mkJ];by_cases c:e < d
 ·rw [if_pos c,if_pos (by omega)]
 ·rw [if_neg c];by_cases c2:e=d
  ·subst c2;rw [if_pos (by omega),jnA,if_neg h0]
  ·rw [if_neg (by omega)]
theorem jnA_ok {a b:List Tst} (ha:tRight a=true) (hb:tRight b=true): ∀d,d < 65536->0<=jnA a b d/\jnA a b d<=(a++b).length/\jnG a b (d:Int)=if jnA a b d=0 then none else some ((a++b).getD (jnA a b d - 1).toNat tst0).v:=fun d _=>by
 rcases js9 ha hb d with ⟨h1,h2⟩ | ⟨j,h1,h2,h3⟩
 ·exact ⟨by omega,by omega,by rw [h2,if_pos h1]⟩
 ·exact ⟨by omega,by omega,by rw [h3,if_neg (by omega),show (jnA a b d - 1).toNat=j by omega]⟩
theorem ji8 (a b:List Tst) (hla:a.length<=200000) (hlb:b.length<=200000) (hDa: ∀s∈a,s.v.f.dig) (hDb: ∀s∈b,s.v.f.dig) (hsa: ∀s∈a,s.v.f.n.l.length<=1048576/\s.v.f.d.l.length<=1048576) (hsb: ∀s∈b,s.v.f.n.l.length<=1048576/\s.v.f.d.l.length<=1048576) (n:Nat) (hn:n=65536):
  Ct Tryz.prog 118 [tL 8 true tTs a,tL 8 true tTs b] (tT [tL 8 true tTs (if jnC a b then jnT a b else []),tI (if jnC a b then 0 else 2)]):=by
 refine Ct.intro func118 rfl ntmps118 rfl ?_;intro w F;refine xm6 ?_;refine xw5 ?_;refine R1 xe5 rfl (R1 xe5 rfl (xm4 (by kernel_rfl) (xf5 ?_)));refine xf0 (fun (_j:Unit)=>jnC a b) (fun (_j:Unit)=>uV (uV uN 0 (tL 8 true tTs a)) 1 (tL 8 true tTs b)) (fun (_j:Unit)=>fun _=>none) (nm []) ?_ ?_
 ·
  refine xm6 ?_;refine ye5 mixed ?_;refine R1 xb9 rfl (R1 (x3 (ya7 a (by omega) hDa hsa) fi107 rfl) rfl (R1 xz2 rfl (R1 xb9 rfl ?_)));refine RGcase (t:=12) rfl (fun h141=> ?_) (fun h141=> ?_)
  ·
   refine RGoff h141 rfl rfl (RGoff h141 rfl rfl (RGoff h141 rfl rfl (R2 (xc9 h141) rfl rfl (R1 xb9 rfl (RGoff1 rfl rfl (RGoff1 rfl rfl (RGoff1 rfl rfl (RGoff1 rfl rfl (RGoffU rfl rfl (RGoffU rfl rfl (RGoffU rfl rfl (RGoff1 rfl rfl (RGoff1 rfl rfl (RGoffU rfl rfl (RGoffU rfl rfl ?_)))))))))))))));refine RGoffU rfl rfl (RGoffU rfl rfl (RGoffU rfl rfl (RGoffU rfl rfl (RGoffU rfl rfl (RGoffU rfl rfl (RGoffU rfl rfl (RGoffU rfl rfl (RGoffU rfl rfl (RGoff1 rfl rfl (R2 (xc9 rfl) rfl rfl (yb7 (by kernel_rfl) (xf5 (yr6 rfl rfl (xm6 ?_))))))))))))));refine xw5 ?_;refine R1 xe5 rfl (R1 xe5 rfl (xm4 (by kernel_rfl) (xf5 (yb5 (xk5 ?_)))));exact E2 rfl rfl rfl (leNil (by rw [if_neg (fun h=>by rw [h.1.1] at h141;cases h141)])) (zba (by rw [if_neg (fun h=>by rw [h.1.1] at h141;cases h141)]))
  ·
   refine Rg h141 rfl xb9 rfl qA (Rg h141 rfl (x3 (ya7 b (by omega) hDb hsb) fi107 rfl) rfl qA (Rg h141 rfl xz2 rfl qA (R2 (xc7 h141) rfl rfl (R1 xb9 rfl ?_))));refine RGcase (t:=17) rfl (fun h141_2=> ?_) (fun h141_2=> ?_)
   ·
    refine RGoff h141_2 rfl rfl (RGoff h141_2 rfl rfl (RGoff h141_2 rfl rfl (RGoff h141_2 rfl rfl (RGoffU rfl rfl (RGoffU rfl rfl (RGoffU rfl rfl (RGoff h141_2 rfl rfl (RGoff h141_2 rfl rfl (RGoffU rfl rfl (RGoffU rfl rfl (RGoffU rfl rfl (RGoffU rfl rfl (RGoffU rfl rfl (RGoffU rfl rfl (RGoffU rfl rfl ?_)))))))))))))));refine RGoffU rfl rfl (RGoffU rfl rfl (RGoffU rfl rfl (RGoffU rfl rfl (RGoff h141_2 rfl rfl (R2 (xc9 h141_2) rfl rfl (yb7 (by kernel_rfl) (xf5 (yr6 rfl rfl (xm6 ?_)))))))));refine xw5 ?_;refine R1 xe5 rfl (R1 xe5 rfl (xm4 (by kernel_rfl) (xf5 (yb5 (xk5 ?_)))));exact E2 rfl rfl rfl (leNil (by rw [if_neg (fun h=>by rw [h.1.2] at h141_2;cases h141_2)])) (zba (by rw [if_neg (fun h=>by rw [h.1.2] at h141_2;cases h141_2)]))
   ·
    refine Rg h141_2 rfl xb9 rfl qA (Rg h141_2 rfl (xf9 zhm) rfl qA (Rg h141_2 rfl yc6 rfl qB (Rg h141_2 rfl xb9 rfl qA ?_)));refine RGcaseD (t:=21) rfl (fun h141_3=> ?_) (fun h141_3=> ?_)
    ·
     refine Rg (zbg h141_3) rfl xb9 rfl qA (Rg (zbg h141_3) rfl (xf9 zhm) rfl qA (Rg (zbg h141_3) rfl yc6 rfl qB (Rg h141_2 rfl (xc9 (zbg h141_3)) rfl qB (Rg h141_2 rfl xb9 rfl qA ?_))));refine RGcaseD (t:=26) rfl (fun h141_4=> ?_) (fun h141_4=> ?_)
     ·
      refine Rg (zbg h141_4) rfl xb9 rfl ⟨rfl,trivial⟩ (Rg (zbg h141_4) rfl (x4 sl51 (0) (by omega) (zai (l:=a) (n:=0) (d:=tst0))) rfl ⟨rfl,rfl,trivial⟩ (Rg (zbg h141_4) rfl (xf3 fo59_2.h (At.f 2 rfl rfl) rfl) rfl ⟨rfl,trivial⟩ (Rg (zbg h141_4) rfl (xf3 fo57_0.h (At.f 0 rfl rfl) rfl) rfl ⟨rfl,trivial⟩ (Rg (zbg h141_4) rfl (xm1 ti5) rfl ⟨rfl,trivial⟩ (Rg (zbg h141_4) rfl xb9 rfl ⟨rfl,trivial⟩ (Rg (zbg h141_4) rfl (x4 sl51 (0) (by omega) (zai (l:=b) (n:=0) (d:=tst0))) rfl ⟨rfl,rfl,trivial⟩ (Rg (zbg h141_4) rfl (xf3 fo59_2.h (At.f 2 rfl rfl) rfl) rfl ⟨rfl,trivial⟩ (Rg (zbg h141_4) rfl (xf3 fo57_0.h (At.f 0 rfl rfl) rfl) rfl ⟨rfl,trivial⟩ (Rg (zbg h141_4) rfl (xm1 ti5) rfl ⟨rfl,trivial⟩ (Rg (zbg h141_4) rfl yt4 rfl ⟨rfl,rfl,trivial⟩ (Rg h141_2 rfl (xc9 (zbg h141_4)) rfl ⟨rfl,rfl,trivial⟩ (R2 (xc7 h141_2) rfl rfl (yb7 (by kernel_rfl) (xf5 ?_))))))))))))));refine x6 rfl (fun h141_5=> ?_) (fun h141_5=> ?_)
      ·
       refine xm6 ?_;refine xw5 ?_;refine R1 xe5 rfl (R1 xe5 rfl (xm4 (by kernel_rfl) (xf5 (yb5 (xk5 ?_)))));exact E2 rfl rfl rfl (leNil (by rw [if_neg (fun h=>h.2 ⟨by omega,by omega,by omega⟩)])) (zba (by rw [if_neg (fun h=>h.2 ⟨by omega,by omega,by omega⟩)]))
      ·
       refine xz3 ?_;exact kF (()) ⟨⟨by simpa using h141,by simpa using h141_2⟩,by omega⟩
     ·
      refine RGoff (zbf h141_4) rfl rfl (RGoff (zbf h141_4) rfl rfl (RGoff (zbf h141_4) rfl rfl (RGoff (zbf h141_4) rfl rfl (RGoff (zbf h141_4) rfl rfl (RGoff (zbf h141_4) rfl rfl (RGoff (zbf h141_4) rfl rfl (RGoff (zbf h141_4) rfl rfl (RGoff (zbf h141_4) rfl rfl (RGoff (zbf h141_4) rfl rfl (RGoff (zbf h141_4) rfl rfl (Rg h141_2 rfl (xc7 (zbf h141_4)) rfl qB (R2 (xc7 h141_2) rfl rfl (yb7 (by kernel_rfl) (xf5 (xw4 rfl rfl ?_)))))))))))))));refine xz3 ?_;exact kF (()) ⟨⟨by simpa using h141,by simpa using h141_2⟩,by omega⟩
    ·
     refine RGoff (zbf h141_3) rfl rfl (RGoff (zbf h141_3) rfl rfl (RGoff (zbf h141_3) rfl rfl (Rg h141_2 rfl (xc7 (zbf h141_3)) rfl qB (Rg h141_2 rfl xb9 rfl qA (RGoff0 rfl rfl (RGoff0 rfl rfl (RGoff0 rfl rfl (RGoff0 rfl rfl (RGoff0 rfl rfl (RGoff0 rfl rfl (RGoff0 rfl rfl (RGoff0 rfl rfl (RGoff0 rfl rfl (RGoff0 rfl rfl (RGoff0 rfl rfl ?_)))))))))))))));refine Rg h141_2 rfl (xc7 rfl) rfl qB (R2 (xc7 h141_2) rfl rfl (yb7 (by kernel_rfl) (xf5 (xw4 rfl rfl (xz3 ?_)))));exact kF (()) ⟨⟨by simpa using h141,by simpa using h141_2⟩,by omega⟩
 ·
  intro _j hok;refine xm6 ?_;refine xw5 ?_;refine R1 xb9 rfl (RE (xb7 (fun _=>41) (qs8 a (by omega) hok.1.1 n hn) fi188 rfl (krN (ρ:=fun _=>41)) (krC (ρ:=fun _=>41) (k:=6) xa6 (krN (ρ:=fun _=>41))) ⟨⟨rfl,xa5⟩,trivial⟩ rfl) qA trivial qA (R1 xb9 rfl (R1 (x3 (xu5 b (by omega) hok.1.2) fi188 rfl) rfl (R1 xe5 rfl (R1 xe5 rfl (xm4 (by kernel_rfl) (xf5 (xm6 (xm6 ?_)))))))));refine xw5 ?_;refine R1 xe5 rfl (xm4 (by kernel_rfl) (xf5 (xw7 ?_)));refine cL (fun (d:Nat)=>d<=65536) (fun (d:Nat)=>uV (uV (uO (uV (uV uN 0 (tL 8 true tTs a)) 1 (tL 8 true tTs b)) 6 (.sl 41 1 0 n)) 7 (tL 1 false tI (rowD (tabT b)))) 8 (tI d)) (fun (d:Nat)=>uK uN 41 3 1 false (rV tI (rowD (mkJ a b d)))) [41] (fun (d:Nat)=>65536 - d) (0) (zbq _) (hh:=((zaq rfl (zat (by rw [mkJ_0]))) zax)) ?_;intro d hI;have qb:=zg0 hok.1.2 d;refine xm6 (xm6 ?_);refine xw5 ?_;refine R1 xb9 rfl (R2 xh6 rfl rfl (xm4 (by kernel_rfl) (xf5 ?_)));refine x6 rfl (fun h145=> ?_) (fun h145=> ?_)
  ·
   refine xz3 (xf5 (xm6 (xw7 (xm6 ?_))));refine xw5 ?_;refine R1 xb9 rfl (R1 xb9 rfl (R2 (x4 sl23 (d) (by omega) (xz0 (by omega))) rfl rfl (R1 (xm1 ti3) rfl (R2 yc6 rfl rfl (xm4 (by kernel_rfl) (xf5 ?_))))));refine x6 rfl (fun h146=> ?_) (fun h146=> ?_)
   ·
    refine xw5 ?_;refine R1 xb9 rfl (R1 xb9 rfl (R1 xb9 rfl (R1 (xf9 zhm) rfl (R1 xb9 rfl (R1 xb9 rfl (R2 (x4 sl23 (d) (by omega) (xz0 (by omega))) rfl rfl (R1 (xm1 ti3) rfl (R2 (xd8 zah) rfl rfl (R2 (zag sl23 rfl) rfl rfl (RE (xb8 (e:= .val (tI ((a.length:Int)+tabT b d))) (d) ti3 (xe8 (by rw [xz1];omega)) (by omega) (xi3 (f:=tI) (m:=(a.length:Int)+tabT b d) rfl)) qB qA trivial (xm4 (by kernel_rfl) (ya0 (xf5 ?_)))))))))))));refine xw5 ?_;refine R1 xb9 rfl (R2 (xd8 zah) rfl rfl (R1 xe5 rfl (xm4 (by kernel_rfl) ?_)));exact kF (d+1) ⟨(by omega),(by omega)⟩ (hh:=((zaq rfl (zat (by rw [ju0 (by omega) h146]))) zax))
   ·
    refine xz3 (ya0 (xf5 ?_));refine xw5 ?_;refine R1 xb9 rfl (R2 (xd8 zah) rfl rfl (R1 xe5 rfl (xm4 (by kernel_rfl) ?_)));exact kF (d+1) ⟨(by omega),(by omega)⟩ (hh:=((zaq rfl (zat (by rw [mkJ_no h146]))) zax))
  ·
   refine yb4 (y9 (y9 (xf2 (xf5 (xm6 ?_)))));have hd6:d=65536:=by omega
   subst hd6;refine yb2 (k:=41) (e':=⟨3,1,false,rV tI (rowD (jnA a b))⟩) rfl (by rw [w4]) ?_;refine ya4 ?_;refine xf4 (ya6 (k:=63) (ents:=[]) zhm el59 zf59 rfl (by simp) rfl rfl rfl) trivial trivial ⟨rfl,trivial⟩ rfl (xf4 xb9 ⟨rfl,trivial⟩ trivial trivial rfl (xf4 (xb3 (k:=63) (k':=65) (f:=tTs) (ys:=a) (ts':=rV tTs a) zhm el59 zf59 rfl rfl (fun _=>inferInstance) rfl (by simp;omega) (by simp;omega) (by simp [rV]) (n':=a.length) (by simp)) ⟨rfl,rfl,trivial⟩ ⟨rfl,trivial⟩ ⟨rfl,trivial⟩ rfl (xf4 xb9 ⟨rfl,trivial⟩ trivial trivial rfl (xf4 (xb3 (k:=65) (k':=67) (f:=tTs) (ys:=b) (ts':=rV tTs (a++b)) zhm el59 zf59 rfl rfl (fun _=>inferInstance) xd2 (by omega) (by omega) (by simp [rV]) (n':=(a++b).length) (by simp)) ⟨rfl,rfl,trivial⟩ ⟨rfl,trivial⟩ ⟨rfl,trivial⟩ rfl (wa1 (t:=67) (k:=67) (f:=tTs) (xs:=a++b) rfl rfl (fun _ h=>h) (xg2 rfl) rfl (xf4 (xi6 (f:=tI) (xs:=rowD (jnA a b)) (fun _ h=>h) (xg2 (by rw [xz1];omega)) (by rw [xz1];omega)) ⟨rfl,trivial⟩ ⟨rfl,trivial⟩ trivial rfl (xf4 (x3 (jb7 (a++b) (jnA a b) (fun d=>jnG a b (d:Int)) (by rw [zbp];omega) (fun s hs=>(zbo.1 hs).elim (hsa s) (hsb s)) (jnA_ok hok.1.1 hok.1.2)) fi196 rfl) ⟨rfl,rfl,trivial⟩ trivial trivial rfl (xf4 xe5 ⟨rfl,trivial⟩ trivial trivial rfl (xf4 xe5 ⟨rfl,trivial⟩ trivial trivial rfl (xp1 (xf5 (yb5 ?_))))))))))));exact E2 rfl rfl rfl (Le.of (by rw [if_pos hok,jn3 hok.1.1 hok.1.2])) (zba (by rw [if_pos hok]))
def Trs (F F':Dom) (w w':World):List Fd->List Fd->Prop
 | [],[]=>True
 | f::r,g::s=>(f.n=g.n/\f.agg=g.agg/\ ∀v,f.t.p F w v->g.t.p F' w' v)/\Trs F F' w w' r s
 | _,_=>False
theorem Trs.sum {F F':Dom} {w w':World}: ∀{fs gs:List Fd},Trs F F' w w' fs gs->Fd.sum fs=Fd.sum gs
 | [],[],_=>rfl
 | _::_,_::_,h=>by rw [Fd.sum,Fd.sum,h.1.1,Trs.sum h.2]
 | [],_::_,h=>h.elim
 | _::_,[],h=>h.elim
theorem Trs.all {F F':Dom} {w w':World} {cs:Array Value}: ∀{fs gs:List Fd} {o:Nat},Trs F F' w w' fs gs->Fd.all F w cs o fs->Fd.all F' w' cs o gs
 | [],[],_,_,_=>trivial
 | f::r,g::s,o,h,ha=>by
  obtain ⟨⟨h1,h2,h3⟩,h4⟩:=h;refine ⟨⟨by rw [<-h1,<-h2];exact ha.1.1,by rw [<-h1,<-h2];exact h3 _ ha.1.2⟩,?_⟩;rw [<-h1];exact Trs.all h4 ha.2
 | [],_::_,_,h,_=>h.elim
 | _::_,[],_,h,_=>h.elim
theorem Trs.S {F F':Dom} {w w':World} {fs gs:List Fd} (h:Trs F F' w w' fs gs): ∀v,(tS fs).p F w v->(tS gs).p F' w' v:=fun _ ⟨cs,h1,h2,h3⟩=>⟨cs,h1,h2.trans h.sum,h.all h3⟩
theorem lmW_V {L F:Dom} {w1 w:World} {l:List Nat} (v:Value) (h:(tLmW l).p L w1 v):(tSlV (vOf 64 L w1) l.length).p F w v:=by
 obtain ⟨b,c,cs,h1,hF,hh,h2,h3,h4,h5,h6,hx⟩:=h;rw [zee] at h2;obtain ⟨m,hm,hle⟩:=vOf_mk (n:=l.length+12) hF hh (by omega) (fun i hi=>by
  have hlt:i < (l++mk16).length:=by rw [zbp,mk16_len];omega
  have:=hx i _ (zbi hlt);have h0:pick false 1 cs (i*1)= .int .u16 (((l++mk16)[i]:Nat):Int):=this;rw [zee,pick,zen,zbk] at h0;rw [mk16_len] at h5;cases hg:cs[i]? with
  | none=>rw [Array.getElem?_eq_none_iff] at hg;omega
  | some z=>rw [hg] at h0;exact ⟨_,by rw [show z=_ from h0]⟩)
 exact ⟨b,m,cs.size,by rw [h1,h2],hm,hle⟩
theorem whW_V {L F:Dom} {w1 w:World} {x:Wh}: ∀v,(tWhW x).p L w1 v->(tWhV (vOf 64 L w1) x).p F w v:=Trs.S ⟨⟨rfl,rfl,fun _ h=>h⟩,⟨rfl,rfl,lmW_V⟩,trivial⟩
theorem frW_V {L F:Dom} {w1 w:World} {f:Fr}: ∀v,(tFrW f).p L w1 v->(tFrV (vOf 64 L w1) f).p F w v:=Trs.S ⟨⟨rfl,rfl,whW_V⟩,⟨rfl,rfl,whW_V⟩,trivial⟩
theorem vaW_V {L F:Dom} {w1 w:World} {x:Va}: ∀v,(tVaW x).p L w1 v->(tVaV (vOf 64 L w1) x).p F w v:=Trs.S ⟨⟨rfl,rfl,fun _ h=>h⟩,⟨rfl,rfl,frW_V⟩,⟨rfl,rfl,fun _ h=>h⟩,trivial⟩
theorem tsW_V {L F:Dom} {w1 w:World} {s:Tst}: ∀v,(tTsW s).p L w1 v->(tTsV (vOf 64 L w1) s).p F w v:=Trs.S ⟨⟨rfl,rfl,fun _ h=>h⟩,⟨rfl,rfl,fun _ h=>h⟩,⟨rfl,rfl,vaW_V⟩,trivial⟩
theorem Free.nil {α:Type} {es:Nat} {agg:Bool} {f:α->Ty}:Free (tL es agg f []):=fun _ _ _ _ _ ⟨A,c,h1,h2,h3,_⟩=>⟨A,c,h1,h2,h3,.inl rfl⟩
theorem jp4 {k i:Nat}:Free (tTs (smk k i)):=Free.S ⟨Free.E,Free.E,Free.S ⟨Free.E,Free.S ⟨Free.S ⟨Free.E,Free.nil,trivial⟩,Free.S ⟨Free.E,Free.nil,trivial⟩,trivial⟩,Free.E,trivial⟩,trivial⟩
theorem lm_mem {l:List Tst} {i:Nat} {x:Tst×Bool} (h:(lmT l++mmT mkT)[i]? =some x):x.2=true∨ ∃j,x=(smk 1 j,false):=by
 have hm:=zef h;rcases zbo.1 hm with h1 | h1
 ·obtain ⟨s,_,rfl⟩:=zcp.1 h1;exact .inl rfl
 ·obtain ⟨s,hs,rfl⟩:=zcp.1 h1;obtain ⟨j,_,rfl⟩:=zcp.1 hs;exact .inr ⟨j,rfl⟩
theorem tsM_V {L F:Dom} {w1 w:World} {x:Tst×Bool} (hx:x.2=true∨ ∃j,x=(smk 1 j,false)) {v:Value} (h:(tTsM x).p L w1 v):(tTsVM (vOf 64 L w1) x).p F w v:=by
 rcases hx with hx | ⟨j,rfl⟩
 ·obtain ⟨s,b⟩:=x;have hx:b=true:=hx;subst hx;exact tsW_V v h
 ·exact jp4 _ _ _ _ _ h
theorem yf9 (L:Dom) (w1:World) (l:List Tst) (hl:l.length<=60) (hs: ∀s∈l,s.v.f.n.l.length<=9000000/\s.v.f.d.l.length<=9000000) (v:Value) (hv:(tStW l).p L w1 v):CtV Tryz.prog (XL 64 L w1) 84 [] [.val (tE v)] 0 1:=by
 intro w η vs hvs _ _ hD hJ
 match vs,hvs with
 | [u],hvs=>
 have hu:u=v:=hvs.1;subst hu;obtain ⟨b,c,cs,e,hLb,hh,h2,h3,h4,h5,h6,hx⟩:=hv;have hJ:(∀_:0=0,∀b,L b->w.heap[b]? =w1.heap[b]?)/\_:=hJ;have hw:=(hJ.1 rfl b hLb).trans hh;rw [ya3,yg8,yc0] at h5;rw [ya3] at e;have hown: ∀b',OwnK (⟨fun _=>b,fun _=>c,fun _=>False⟩:Env) [(1,⟨59,8,true,rV (tTsVM (vOf 64 (fun b'=>L b'/\b'≠b) w1)) (lmT l++mmT mkT)⟩)] b'->b'=b:=by
  rintro b' ⟨x,hx,_,rfl⟩;rfl
 refine (qe8 (vOf 64 (fun b'=>L b'/\b'≠b) w1) l hl hs w ⟨fun _=>b,fun _=>c,fun _=>False⟩ [u] ⟨⟨_,e,?_,fun _=> ?_⟩,trivial⟩ ?_ ?_ (fun b' hb'=> ?_) (vOf_JV fun b' hb=>hJ.1 rfl b' hb.1)).mono ?_
 ·show 0+l.length<=c;omega
 ·simp
 ·intro y hy;rw [zbj] at hy;subst hy;refine ⟨by rw [xd2,zbp,ya3,yg8,yc0];exact h5,h3,h4,h6,fun _=>⟨cs,hw,h2,fun i ent he=> ?_⟩⟩;rw [rV,zbu] at he;obtain ⟨y,hy,rfl⟩:=zdn.1 he;exact tsM_V (lm_mem hy) (hx i y hy)
 ·intro x hx y hy hne;rw [zbj] at hx hy;subst hx hy;exact absurd rfl hne
 ·obtain ⟨x,hxb⟩:=hb';have h7:=(xt2 (m:=x.1) (c:=x.2) hxb).1;exact ⟨(hD b' h7.1).1,fun ho=>h7.2 (hown b' ho)⟩
 ·rintro e' w' ⟨r1,r2,r3⟩;refine ⟨r1,r2.mono fun b' _ hb'=> .inr ?_,fun h=>(by cases h),fun _ b' m c' hV=> ?_,fun b' hb'=>zca (hD b' hb').1 r2.size⟩
  ·rcases hb' with hb' | ⟨x,hxb⟩
   ·rw [hown b' hb'];exact hLb
   ·exact (xt2 (m:=x.1) (c:=x.2) hxb).1.1
  ·obtain ⟨k1,cs1,k2,_⟩:=xt2 hV;have hne:b'≠b:=by
    rintro rfl;rw [hh] at k2;have k3:(59:Nat)=64:=by injection k2 with k2;injection k2
    exact absurd k3 (by decide)
   refine r3 b' m c' ?_;rw [<-hV];unfold vOf;rw [if_pos k1,if_pos ⟨k1,hne⟩]
instance fi36:FnI Tryz.prog 36:=⟨_,func36,by kernel_rfl,rfl⟩
instance fi37:FnI Tryz.prog 37:=⟨_,func37,by kernel_rfl,rfl⟩
instance fi74:FnI Tryz.prog 74:=⟨_,func74,by kernel_rfl,rfl⟩
instance fi82:FnI Tryz.prog 82:=⟨_,func82,by kernel_rfl,rfl⟩
instance fi84:FnI Tryz.prog 84:=⟨_,func84,by kernel_rfl,rfl⟩
instance fi115:FnI Tryz.prog 115:=⟨_,func115,by kernel_rfl,rfl⟩
theorem qe1 (x:Fr):Ct Tryz.prog 86 [tFr x,tFr x] (tB true):=by
 have:=xu1 x x;rw [zbg rfl] at this;exact this
end An.S
