/- Part 3 of a proof: W9, Wh3, W10, Fr, W11, W12, W13, Split, Tl, LibZa, S1, Ref, Ref2, Ref3, S2, S3, S4, Tl2, S5, LibY, LibZ, S6, LibZb, S7, Tl3, S8, S9, M14, S10, M15, Split2, M21, Split3, M22, M23, V16, V17, V18, V19, U20, Sv, Tv, Tv2, Tv3, LibZe, LibZd, Tw, LibZf, P1, Gs, Tx, Chg, Chg2a, Ty, LibZc, P2, LibZg, P3, M20, M24, M25, Back, Shares, M26, S11, Svc, S12, S13, M27, LibZh, LibZi, LibMa, LibMb. -/
import Derived.ProofKit
import Derived.OpenShut
import Derived.Deep.Slices
import Derived.Shelf.SlSortCmp.NoneTotal
import Derived.Shelf.Sort.Plain
import Derived.Shelf.Slices.In.SortNone
import Derived.Shelf.Slices.CompactI
import Derived.Maps.RangeRun
import Derived.MapKept
import Derived.Carry
import Derived.Test.YtjkefpnidicimaaGreatX2
set_option maxHeartbeats 4000000
set_option maxRecDepth 100000
namespace An.S
open Go Go.Proofs An Tryz
instance ti39:TyI Tryz.prog 39 2 true:=⟨by kernel_rfl,by kernel_rfl⟩
instance sl283:SlI Tryz.prog 283 39 2 true:=⟨zha,ti39⟩
instance fo39_0:FoI Tryz.prog 39 0 0:=⟨by kernel_rfl⟩
instance fo39_1:FoI Tryz.prog 39 1 1:=⟨by kernel_rfl⟩
instance fi206:FnI Tryz.prog 206:=⟨_,func206,by kernel_rfl,rfl⟩
instance fi212:FnI Tryz.prog 212:=⟨_,func212,by kernel_rfl,rfl⟩
instance fi214:FnI Tryz.prog 214:=⟨_,func214,by kernel_rfl,rfl⟩
instance fi282:FnI Tryz.prog 282:=⟨_,func282,by kernel_rfl,rfl⟩
instance fi283:FnI Tryz.prog 283:=⟨_,func283,by kernel_rfl,rfl⟩
instance fi332:FnI Tryz.prog 332:=⟨_,func332,by kernel_rfl,rfl⟩
instance fi333:FnI Tryz.prog 333:=⟨_,func333,by kernel_rfl,rfl⟩
instance fi334:FnI Tryz.prog 334:=⟨_,func334,by kernel_rfl,rfl⟩
instance fi337:FnI Tryz.prog 337:=⟨_,func337,by kernel_rfl,rfl⟩
instance fi338:FnI Tryz.prog 338:=⟨_,func338,by kernel_rfl,rfl⟩
theorem el39:ElI Tryz.prog 39 2 32 true (.agg #[.bool false,.slice none 0 0]):=⟨ti39,by kernel_rfl,by kernel_rfl⟩
theorem zr39:(Tryz.prog.info? 39).bind (·.zero)=some (.agg #[.bool false,.slice none 0 0])/\ ∀F w,zac.p F w (.agg #[.bool false,.slice none 0 0]):=⟨by kernel_rfl,fun _ _=>⟨_,rfl,rfl,⟨fun _=>rfl,rfl⟩,⟨fun _=>rfl,⟨none,0,rfl,zbm _,by decide,.inl rfl⟩⟩,trivial⟩⟩
theorem bu39:BuI Tryz.prog 39 (fun i=>[(0,1),(1,1)][i]?) (.agg #[.bool false,.slice none 0 0]):=BuI.struct underlying39 (by kernel_rfl) (by kernel_rfl)
theorem zf39:Flat 2 true (.agg #[.bool false,.slice none 0 0]):=xn3 (by intro u hu;simp at hu;rcases hu with rfl | rfl <;> rfl)
instance un4:UnI Tryz.prog 4 (.bool):=⟨zhb⟩
instance un283:UnI Tryz.prog 283 (.slice 39):=⟨zha⟩
theorem ya7 {α:Type} {p:α->Bool} {l:List α} {i:Nat} {d:α} (hi:i < l.length):(l.take (i+1)).all p=((l.take i).all p && p (l.getD i d)):=by
 rw [zcn hi,List.all_append];simp [hi]
theorem xf0 {α:Type} {p:α->Bool} {l:List α} {i:Nat} {d:α} (hi:i < l.length) (h:p (l.getD i d)=false):l.all p=false:=by
 rw [List.all_eq_false];refine ⟨l[i],zdw hi,?_⟩;rw [zbh,zbk hi] at h;simpa using h
theorem ym6 (x:Wh):
  Ct Tryz.prog 206 [tWh x] (tB x.valid):=by
 refine Ct.intro func206 rfl ntmps206 rfl ?_;intro w F;refine A16 ?_;refine xj5 (s:=5) rfl (fun hl5=> ?_);refine A5 ?_;refine xa6 rfl (fun h24=> ?_) (fun h24=> ?_)
 ·
  refine A10 ?_;exact E1 rfl rfl (zau (by simp only [Wh.valid];rw [if_pos (by omega)]))
 ·
  refine A7 ?_;refine RGcaseD (t:=14) rfl (fun h27=> ?_) (fun h27=> ?_)
  ·
   refine A3 ?_;refine Rg (zbg h27) rfl (xf9 zah) rfl qB (Rg (zbg h27) rfl (x8 sl37 (x.l.length - 1) (by omega) (gN (by omega))) rfl qB ?_);refine A7 ?_;exact E1 rfl rfl (zau (by simp only [Wh.valid];rw [if_neg (by omega),zbg (show x.l.length<=1024 by omega),zec];exact zfb.2 (by omega)))
  ·
   refine A12 ?_;exact E1 rfl rfl (zau (by simp only [Wh.valid];rw [if_neg (by omega),zbf (show ¬x.l.length<=1024 by omega),zdz]))
theorem qc1 (ws:List Wh):
  Ct Tryz.prog 212 [tL 2 true tWh ws] (tB (ws.all Wh.valid)):=by
 refine Ct.intro func212 rfl ntmps212 rfl ?_;intro w F;refine xj5 (s:=0) rfl (fun hl0=> ?_);refine A14 ?_;refine cL (fun (i:Nat)=>i<=ws.length/\(ws.take i).all Wh.valid=true) (fun (i:Nat)=>uV (uV (uV uN 5 (tL 2 true tWh ws)) 6 (tI ws.length)) 7 (tI i)) (fun (i:Nat)=>fun _=>none) [] (fun (i:Nat)=>ws.length - i) (0) ⟨zbs _,rfl⟩ ?_;intro i hI;obtain ⟨hi,ha⟩:=hI;refine A6 ?_;refine xa6 rfl (fun h32=> ?_) (fun h32=> ?_)
 ·
  refine A6 ?_;refine R2 (x8 sl283 i (by omega) (zai (l:=ws) (n:=i) (d:=⟨false,[]⟩))) rfl rfl ?_;refine A1 ?_;refine RE (xa3 (k:=4) (n:=2) (agg:=true) zr39.1 zr39.2 rfl) trivial trivial qA ?_;refine A6 ?_;refine R1 (x3 (ym6 _) fi206 rfl) rfl ?_;refine A3 ?_;refine xc7 rfl (fun h33=> ?_) (fun h33=> ?_)
  ·
   refine A11 ?_;exact E1 rfl rfl (zau (xf0 (l:=ws) (i:=i) (d:=⟨false,[]⟩) (by omega) (by simpa using h33)).symm)
  ·
   refine A7 ?_;exact kF (i+1) ⟨⟨by omega,by rw [ya7 (l:=ws) (i:=i) (d:=⟨false,[]⟩) (by omega),ha];simpa using h33⟩,(by omega)⟩
 ·
  refine A11 ?_;exact E1 rfl rfl (zau (by rw [<-ha,show i=ws.length by omega,zci]))
theorem xn6 (x y:Int) (hx:len16 x<=1024) (hy:len16 y<=1024):Ct Tryz.prog 212 [tL 2 true tWh [wh x,wh y]] (tB true):=by
 have:=qc1 [wh x,wh y];simp only [List.all_cons,List.all_nil,xw3 hx,xw3 hy,Bool.and_true] at this;exact this
theorem xk8 (v:Nat) (h:(dig 65536 v).length<=1000000):Ct Tryz.prog 214 [tLm (dig 65536 v)] (tN v):=by
 have:=c_pack (dig 65536 v) (xc3 xa0 v) h;rw [jc5] at this;exact this
theorem qi1 (v:Nat):Ct Tryz.prog 335 [tN v] (tN v):=by
 have:=xs2 (dig 4294967296 v);rw [yh5 (qd1 xa2 v)] at this;exact this
theorem ym0 (xs:List Nat) (h:xs.length<=1000000):Ct Tryz.prog 216 [tLm xs] (tLm xs):=Ct.ofG (zm1 xs h) rfl
theorem yo6 (p:Bool) (v:Nat) (h:(dig 4294967296 v).length<=100000):
  Ct Tryz.prog 333 [tB p,tN v] (tWh (wh (sgn p v))):=by
 refine Ct.intro func333 rfl ntmps333 rfl ?_;intro w F;refine A2 ?_;refine RE (xa3 (k:=4) (n:=2) (agg:=true) zr39.1 zr39.2 rfl) trivial trivial qA ?_;refine A5 ?_;refine R1 (x3 (qi1 _) fi335 rfl) rfl ?_;refine A11 ?_;refine xa6 rfl (fun h37=> ?_) (fun h37=> ?_)
 ·
  have hv0:v=0:=(xe2 xa2).1 (zco.1 (by omega));subst hv0;refine A2 ?_;refine R0 (xb7 (r:=zac) (ts:=[]) bu39 zr39.2 zao) ?_;refine A5 ?_;exact EC rfl ⟨_,_,_,_,_,rfl,rfl,ti39,(Le.of (by rw [xs1,xc4];simp))⟩
 ·
  have hv0:0 < v:=by
   rcases zcg v with h' | h'
   ·subst h';rw [xc4] at h37;simp at h37
   ·exact h'
  refine A6 ?_;refine R2 (xj0 zah) rfl rfl (RE (xe5 (k:=17) (t:=tE (.int .u16 0)) (ts:=rW .u16 (List.replicate (2*(dig 4294967296 v).length) 0)) (2*(dig 4294967296 v).length) (2*(dig 4294967296 v).length) zgr el64 (fun _ _=>rfl) rfl (by omega) (by omega) (zbm _) (by omega) (by omega) (xp5 _)) qB trivial qA ?_);refine A12 ?_;refine cL (fun (fm:(Nat)×(List Nat))=>(fun (i:Nat) (ls:List Nat)=>i<=(dig 4294967296 v).length/\ls.length=2*(dig 4294967296 v).length/\ls.take (2*i)=dgs 65536 (2*i) v) fm.1 fm.2) (wB fun (i:Nat) (ls:List Nat)=>uV (uV (uV (uO (uO (uV uN 0 (tB p)) 4 (.ptr 4 0)) 5 (.sl 17 1 0 (2*(dig 4294967296 v).length))) 18 (tN v)) 19 (tI (dig 4294967296 v).length)) 20 (tI i)) (wB fun (i:Nat) (ls:List Nat)=>uK (uK uN 4 39 2 true [.val (tWh ⟨false,[]⟩)]) 17 64 1 false (rW .u16 ls)) [4,17] (fun (fm:(Nat)×(List Nat))=>(fun (i:Nat) (ls:List Nat)=>(dig 4294967296 v).length - i) fm.1 fm.2) ((0,List.replicate (2*(dig 4294967296 v).length) 0)) (by dsimp only;exact ⟨zbs _,by simp,rfl⟩) ?_;intro fm hI;obtain ⟨i,ls⟩:=fm;replace hI:i<=(dig 4294967296 v).length/\ls.length=2*(dig 4294967296 v).length/\ls.take (2*i)=dgs 65536 (2*i) v:=hI;show wc _ _ _ _ (uV (uV (uV (uO (uO (uV uN 0 (tB p)) 4 (.ptr 4 0)) 5 (.sl 17 1 0 (2*(dig 4294967296 v).length))) 18 (tN v)) 19 (tI (dig 4294967296 v).length)) 20 (tI i)) (uK (uK uN 4 39 2 true [.val (tWh ⟨false,[]⟩)]) 17 64 1 false (rW .u16 ls)) _;obtain ⟨hi,hl,ht⟩:=hI;have hx:=xc1 xa2 v i;have hxW:=(xc3 xa2 v).getD (by decide) i;refine A6 ?_;refine xa6 rfl (fun h41=> ?_) (fun h41=> ?_)
  ·
   refine A7 ?_;refine R2 (x8 sl233 (i) (by omega) (gN (by omega))) rfl rfl ?_;refine A9 ?_;refine R2 (xj0 zah) rfl rfl ?_;refine A1 ?_;refine R1 (x9 zgv (isS zgu) cut16) rfl (R2 (zag sl37 rfl) rfl rfl (RE (xa8 (2*i) ti64 (xj2 (by omega)) (by omega) (xh1 (m:=_) rfl)) qB qA trivial ?_));refine A5 ?_;refine R2 (xj0 zah) rfl rfl ?_;refine A2 ?_;refine R2 (xj1 (by decide) (shrN (s:=16) rfl (by decide))) rfl rfl (R1 (x9 zgv (isS zgu) (wu16 (by omega) (by omega))) rfl (R2 (zag sl37 rfl) rfl rfl (RE (xa8 (2*i+1) ti64 (xj2 (by rw [zdx];omega)) (by omega) (xh1 (m:=_) rfl)) qB qA trivial ?_)));refine A7 ?_;obtain ⟨n1,n2⟩:=zo4 (by omega) hl ht;rw [<-hx] at n1 n2;exact kF ((i+1,(ls.set (2*i) ((dig 4294967296 v).getD i 0%65536)).set (2*i+1) ((dig 4294967296 v).getD i 0 / 2 ^ 16))) ⟨(by dsimp only;exact ⟨by omega,n1,n2⟩),(by dsimp only;omega)⟩
  ·
   have him:i=(dig 4294967296 v).length:=by omega
   subst him;obtain ⟨e1,e2,e3⟩:=za5 rfl hv0 hl ht;refine A12 ?_;refine R2 (zag sl37 rfl) rfl rfl (RE (x7 (2*(dig 4294967296 v).length - 1) ti64 (xo6 (by omega)) (by omega)) qA qA trivial ?_);refine A3 ?_;refine xa6 rfl (fun h45=> ?_) (fun h45=> ?_)
   ·
    refine A5 ?_;refine R2 (xv9 sl37 (2*(dig 4294967296 v).length - 1) (by omega) (by omega) rfl) rfl rfl ?_;refine A6 ?_;refine RE (xi5 (f:=fun n:Nat=>tE (.int .u16 n)) (xs:=ls.take (2*(dig 4294967296 v).length - 1)) (fun _ h=>h) zh1 (by rw [zcz];omega)) qA qA trivial (R2 (xb7 (r:=tS [⟨1,false,tB p⟩,⟨1,false,tLm (ls.take (2*(dig 4294967296 v).length - 1))⟩]) (ts:=[(0,tB p),(1,tLm (ls.take (2*(dig 4294967296 v).length - 1)))]) bu39 zr39.2 (Bc 0 rfl rfl rfl (Bc 1 rfl rfl rfl zao))) rfl rfl ?_);refine A4 ?_;exact EC rfl ⟨_,_,_,_,_,rfl,rfl,ti39,(Le.of (by rw [xs1,e1 (by omega),zbg (show v≠0 by omega),Bool.and_true]))⟩
   ·
    refine A5 ?_;refine RE (xi5 (f:=fun n:Nat=>tE (.int .u16 n)) (xs:=ls) (fun _ h=>h) (xk2 hl) hl) qA qA trivial (R2 (xb7 (r:=tS [⟨1,false,tB p⟩,⟨1,false,tLm ls⟩]) (ts:=[(0,tB p),(1,tLm ls)]) bu39 zr39.2 (Bc 0 rfl rfl rfl (Bc 1 rfl rfl rfl zao))) rfl rfl ?_);refine A4 ?_;exact EC rfl ⟨_,_,_,_,_,rfl,rfl,ti39,(Le.of (by rw [xs1,e2 (by omega),zbg (show v≠0 by omega),Bool.and_true]))⟩
theorem yk9 (p:Bool) (v:Nat) (h:(dig 4294967296 v).length<=100000):
  Ct Tryz.prog 282 [tB p,tN v] (tT [tWh (resW (sgn p v)),tI (resE (sgn p v))]):=by
 refine Ct.intro func282 rfl ntmps282 rfl ?_;intro w F;refine A2 ?_;refine RE (xa3 (k:=4) (n:=2) (agg:=true) zr39.1 zr39.2 rfl) trivial trivial qA ?_;refine A7 ?_;refine R2 (x3 (yo6 _ _ h) fi333 rfl) rfl rfl (RE (xa3 (k:=6) (n:=2) (agg:=true) zr39.1 zr39.2 rfl) trivial trivial qA ?_);refine A12 ?_;refine xa6 rfl (fun h89=> ?_) (fun h89=> ?_)
 ·
  have hn: ¬len16 (sgn p v)<=1024:=by show ¬(wh (sgn p v)).l.length<=1024;omega
  refine A2 ?_;refine R0 (xb7 (r:=zac) (ts:=[]) bu39 zr39.2 zao) ?_;refine A6 ?_;exact EN (rs:=[.cell 4 39,.tmp 5]) rfl rfl ⟨⟨_,_,_,_,_,rfl,rfl,ti39,(Le.of (by rw [resW,if_neg hn]))⟩,⟨_,rfl,(zba (by rw [resE,if_neg hn]))⟩,trivial⟩
 ·
  have hn:len16 (sgn p v)<=1024:=by show (wh (sgn p v)).l.length<=1024;omega
  refine A10 ?_;exact EN (rs:=[.cell 4 39,.tmp 5]) rfl rfl ⟨⟨_,_,_,_,_,rfl,rfl,ti39,(Le.of (by rw [resW,if_pos hn]))⟩,⟨_,rfl,(zba (by rw [resE,if_pos hn]))⟩,trivial⟩
theorem c_sum (p:Bool) (m:Nat) (q:Bool) (n:Nat) (hm:(dig 4294967296 m).length<=10000) (hn:(dig 4294967296 n).length<=10000):
  Ct Tryz.prog 332 [tB p,tN m,tB q,tN n] (tT [tWh (resW (sgn p m+sgn q n)),tI (resE (sgn p m+sgn q n))]):=by
 have hmn:=zg9 (m:=m) (n:=n) hm hn;refine Ct.intro func332 rfl ntmps332 rfl ?_;intro w F;refine A2 ?_;refine RE (xa3 (k:=8) (n:=2) (agg:=true) zr39.1 zr39.2 rfl) trivial trivial qA ?_;refine A11 ?_;refine xc7 rfl (fun h97=> ?_) (fun h97=> ?_)
 ·
  have hpq:p=q:=by simpa using h97
  subst hpq;refine A5 ?_;refine R2 (x3 (qr3 m n (by omega) (by omega)) fi337 rfl) rfl rfl (R2 (x3 (yk9 p (m+n) (by omega)) fi282 rfl) rfl rfl ?_);refine A8 ?_;exact EN (rs:=[.cell 8 39,.tmp 9]) rfl rfl ⟨⟨_,_,_,_,_,rfl,rfl,ti39,(Le.of (by rw [qf3]))⟩,⟨_,rfl,(zba (by rw [qf3]))⟩,trivial⟩
 ·
  have hpq:q= !p:=by cases p <;> cases q <;> simp_all
  subst hpq;refine A7 ?_;refine R2 (x3 (yh4 m n) fi213 rfl) rfl rfl ?_;refine A3 ?_;refine xa6 rfl (fun h100=> ?_) (fun h100=> ?_)
  ·
   have hle:n<=m:=by
    have:=mt xw2.2 (by omega: ¬cmpN m n < 0);omega
   refine A5 ?_;refine R2 (x3 (yv1 m n (by omega) (by omega)) fi338 rfl) rfl rfl (R2 (x3 (yk9 p (m - n) (by have:=xd4 xa2 (Nat.sub_le m n);omega)) fi282 rfl) rfl rfl ?_);refine A8 ?_;exact EN (rs:=[.cell 8 39,.tmp 9]) rfl rfl ⟨⟨_,_,_,_,_,rfl,rfl,ti39,(Le.of (by rw [qd9 hle]))⟩,⟨_,rfl,(zba (by rw [qd9 hle]))⟩,trivial⟩
  ·
   have hle:m < n:=xw2.1 (by omega);refine A7 ?_;refine R2 (x3 (yv1 n m (by omega) (by omega)) fi338 rfl) rfl rfl (R2 (x3 (yk9 (!p) (n - m) (by have:=xd4 xa2 (Nat.sub_le n m);omega)) fi282 rfl) rfl rfl ?_);refine A7 ?_;exact EN (rs:=[.cell 8 39,.tmp 9]) rfl rfl ⟨⟨_,_,_,_,_,rfl,rfl,ti39,(Le.of (by rw [qa2 (zfv hle)]))⟩,⟨_,rfl,(zba (by rw [qa2 (zfv hle)]))⟩,trivial⟩
theorem c_Add (x y:Int) (hx:len16 x<=1024) (hy:len16 y<=1024):
  Ct Tryz.prog 279 [tWh (wh x),tWh (wh y)] (tT [tWh (resW (x+y)),tI (resE (x+y))]):=by
 have hx32:=len32_le hx;have hy32:=len32_le hy;refine Ct.intro func279 rfl ntmps279 rfl ?_;intro w F;refine A4 ?_;refine RE (xa3 (k:=4) (n:=2) (agg:=true) zr39.1 zr39.2 rfl) trivial trivial qA ?_;refine A8 ?_;refine R2 (xb6 (n:=2) (f:=tWh) [wh x,wh y] zha el39 zf39 rfl (fun _=>inferInstance) rfl rfl rfl) rfl rfl (R1 (x3 (xn6 x y hx hy) fi212 rfl) rfl ?_);refine A12 ?_;refine R1 (x3 (xk8 (Int.natAbs x) (by show len16 x<=1000000;omega)) fi214 rfl) rfl ?_;refine A4 ?_;refine R1 (x3 (xk8 (Int.natAbs y) (by show len16 y<=1000000;omega)) fi214 rfl) rfl (Rt (x3 (c_sum (wh x).neg x.natAbs (wh y).neg y.natAbs (by omega) (by omega)) fi332 rfl) qD ?_);refine A7 ?_;exact EN (rs:=[.cell 4 39,.tmp 5]) rfl rfl ⟨⟨_,_,_,_,_,rfl,rfl,ti39,(Le.of (by rw [xv7,xv7]))⟩,⟨_,rfl,(zba (by rw [xv7,xv7]))⟩,trivial⟩
theorem c_Mul (x y:Int) (hx:len16 x<=1024) (hy:len16 y<=1024):
  Ct Tryz.prog 215 [tWh (wh x),tWh (wh y)] (tT [tWh (resW (x*y)),tI (resE (x*y))]):=by
 have hx32:=len32_le hx;have hy32:=len32_le hy;have hmul:=jq8 (k:=1024) (m:=x.natAbs) (n:=y.natAbs) (by omega) (by omega);refine Ct.intro func215 rfl ntmps215 rfl ?_;intro w F;refine A4 ?_;refine RE (xa3 (k:=4) (n:=2) (agg:=true) zr39.1 zr39.2 rfl) trivial trivial qA ?_;refine A8 ?_;refine R2 (xb6 (n:=2) (f:=tWh) [wh x,wh y] zha el39 zf39 rfl (fun _=>inferInstance) rfl rfl rfl) rfl rfl (R1 (x3 (xn6 x y hx hy) fi212 rfl) rfl ?_);refine A15 ?_;refine R1 (x3 (xk8 (Int.natAbs x) (by show len16 x<=1000000;omega)) fi214 rfl) rfl ?_;refine A2 ?_;refine R1 (x3 (xk8 (Int.natAbs y) (by show len16 y<=1000000;omega)) fi214 rfl) rfl (R2 (x3 (jo4 x.natAbs y.natAbs (by omega) (by omega)) fi283 rfl) rfl rfl (R2 (x3 (yk9 (!((wh x).neg==(wh y).neg)) (x.natAbs*y.natAbs) (by omega)) fi282 rfl) rfl rfl ?_));refine A7 ?_;exact EN (rs:=[.cell 4 39,.tmp 5]) rfl rfl ⟨⟨_,_,_,_,_,rfl,rfl,ti39,(Le.of (by rw [zj9]))⟩,⟨_,rfl,(zba (by rw [zj9]))⟩,trivial⟩
theorem c_Gcd (x y:Int) (hx:len16 x<=1024) (hy:len16 y<=1024):
  Ct Tryz.prog 280 [tWh (wh x),tWh (wh y)] (tT [tWh (wh ((Int.gcd x y:Nat):Int)),tI 0]):=by
 have hx32:=len32_le hx;have hy32:=len32_le hy;have hg:=jo6 (k:=1024) (m:=x.natAbs) (n:=y.natAbs) (by omega) (by omega);refine Ct.intro func280 rfl ntmps280 rfl ?_;intro w F;refine A4 ?_;refine RE (xa3 (k:=4) (n:=2) (agg:=true) zr39.1 zr39.2 rfl) trivial trivial qA ?_;refine A8 ?_;refine R2 (xb6 (n:=2) (f:=tWh) [wh x,wh y] zha el39 zf39 rfl (fun _=>inferInstance) rfl rfl rfl) rfl rfl (R1 (x3 (xn6 x y hx hy) fi212 rfl) rfl ?_);refine A10 ?_;refine R1 (x3 (xk8 (Int.natAbs x) (by show len16 x<=1000000;omega)) fi214 rfl) rfl ?_;refine A2 ?_;refine R1 (x3 (xk8 (Int.natAbs y) (by show len16 y<=1000000;omega)) fi214 rfl) rfl (R2 (x3 (zc3 x.natAbs y.natAbs (by omega) (by omega)) fi334 rfl) rfl rfl (R2 (x3 (yo6 false (Nat.gcd x.natAbs y.natAbs) (by omega)) fi333 rfl) rfl rfl ?_));refine A5 ?_;exact EN (rs:=[.cell 4 39,.tmp 5]) rfl rfl ⟨⟨_,_,_,_,_,rfl,rfl,ti39,zao⟩,⟨_,rfl,zao⟩,trivial⟩
theorem qm2 (x y:Int) (hx:len16 x<=1024) (hy:len16 y<=1024):
  Ct Tryz.prog 132 [tWh (wh x),tWh (wh y)] (tI (cmpZ x y)):=by
 have hx32:=len32_le hx;have hy32:=len32_le hy;refine Ct.intro func132 rfl ntmps132 rfl ?_;intro w F;refine A12 ?_;refine R2 (xb6 (n:=2) (f:=tWh) [wh x,wh y] zha el39 zf39 rfl (fun _=>inferInstance) rfl rfl rfl) rfl rfl (R1 (x3 (xn6 x y hx hy) fi212 rfl) rfl ?_);refine A16 ?_;refine xc7 rfl (fun h160=> ?_) (fun h160=> ?_)
 ·
  have hs:(decide (x < 0)==decide (y < 0))=false:=by have h:=h160;rw [zen] at h;exact h
  refine A7 ?_;refine xc7 rfl (fun h161=> ?_) (fun h161=> ?_)
  ·
   have hx0:x < 0:=zdt h161;refine A8 ?_;exact E1 rfl rfl (zba (cmpZ_a hs hx0).symm)
  ·
   have hx0: ¬x < 0:=of_decide_eq_false h161;refine A9 ?_;exact E1 rfl rfl (zba (cmpZ_b hs hx0).symm)
 ·
  have hs:decide (x < 0)=decide (y < 0):=eq_of_beq (by have h:=h160;rw [Bool.not_eq_false'] at h;exact h);refine A6 ?_;refine R1 (x3 (xk8 (Int.natAbs x) (by show len16 x<=1000000;omega)) fi214 rfl) rfl ?_;refine A2 ?_;refine R1 (x3 (xk8 (Int.natAbs y) (by show len16 y<=1000000;omega)) fi214 rfl) rfl (R2 (x3 (yh4 x.natAbs y.natAbs) fi213 rfl) rfl rfl ?_);refine A10 ?_;refine xc7 rfl (fun h167=> ?_) (fun h167=> ?_)
  ·
   have hx0:x < 0:=zdt h167;refine A3 ?_;refine R1 (yb4 (wr64 (by have:=qi5 x.natAbs y.natAbs;omega) (by have:=qi5 x.natAbs y.natAbs;omega))) rfl ?_;refine A5 ?_;exact E1 rfl rfl (zba (by rw [cmpZ_c hs hx0];omega))
  ·
   have hx0: ¬x < 0:=of_decide_eq_false h167;refine A9 ?_;exact E1 rfl rfl (zba (cmpZ_d hs hx0).symm)
end An.S
namespace An
open Go
theorem jr7 {m y:Nat} (hy:0 < y):(-(m:Int)) / (y:Int)=(if m%y=0 then -((m / y:Nat):Int) else -((m / y+1:Nat):Int))/\(-(m:Int))%(y:Int)=(if m%y=0 then 0 else ((y - m%y:Nat):Int)):=by
 have h1:=zdg m y;have h2:=zcd m hy;have hm:(m:Int)=y*((m / y:Nat):Int)+((m%y:Nat):Int):=by
  rw [<-zdr,<-Int.natCast_add,h1]
 generalize m / y=q at*
 generalize m%y=r at*
 have hu:= @Int.ediv_emod_unique (-(m:Int)) (y:Int);split
 ·rename_i h0;refine (hu (by omega)).2 ⟨?_,by omega,by omega⟩;rw [hm,h0];grind
 ·refine (hu (by omega)).2 ⟨?_,by omega,by omega⟩;rw [hm,Int.natCast_sub (zfv h2),Int.natCast_add];grind
theorem xu4 {x y:Int} (hy:0 < y) {Q R:Nat} (h:(decide (x < 0)=true/\x.natAbs%y.natAbs≠0->Q=x.natAbs / y.natAbs+1/\R=y.natAbs - x.natAbs%y.natAbs)/\(¬(decide (x < 0)=true/\x.natAbs%y.natAbs≠0)->Q=x.natAbs / y.natAbs/\R=x.natAbs%y.natAbs)):
  sgn (!((wh x).neg==(wh y).neg)) Q=x / y/\sgn (wh y).neg R=x%y:=by
 have ey:(wh y).neg=false:=zbf (by omega);have ex:(wh x).neg=decide (x < 0):=rfl;rw [ey,ex];obtain ⟨n,rfl⟩:=zff (Int.le_of_lt hy);have hn:0 < n:=by omega
 simp only [Int.natAbs_natCast] at h;by_cases hx:x < 0
 ·obtain ⟨m,hm⟩:=zff (show 0<= -x by omega);have hxm:x= -(m:Int):=by omega
  subst hxm;obtain ⟨d1,d2⟩:=jr7 (m:=m) hn;simp only [Int.natAbs_neg,Int.natAbs_natCast] at h;rw [d1,d2,zbg hx];by_cases h0:m%n=0
  ·obtain ⟨e1,e2⟩:=h.2 (by simp [h0]);rw [e1,e2,if_pos h0,if_pos h0,h0];simp [sgn]
  ·obtain ⟨e1,e2⟩:=h.1 ⟨zbg hx,h0⟩;rw [e1,e2,if_neg h0,if_neg h0];simp [sgn]
 ·obtain ⟨m,rfl⟩:=zff (show 0<=x by omega);simp only [Int.natAbs_natCast] at h;obtain ⟨e1,e2⟩:=h.2 fun h'=>hx (zdt h'.1);rw [e1,e2,zbf hx];simp [sgn]
theorem qf4:(dig 4294967296 1).length<=1:=(xb3 xa2 1 1).2 (by decide)
theorem zv6 (v:Nat) (h:v < 18446744073709551616):(dig 65536 v).length<=4:=(xb3 xa0 v 4).2 (by simpa using h)
theorem zd4 {v i c:Nat} (h:c=(dig 65536 (v%65536 ^ i)).length):(v / 65536 ^ i%65536≠0->i+1=(dig 65536 (v%65536 ^ (i+1))).length)/\(v / 65536 ^ i%65536=0->c=(dig 65536 (v%65536 ^ (i+1))).length):=by
 have e:=xi1 65536 v i;refine ⟨fun h0=> ?_,fun h0=>by rw [e,h0,Nat.mul_zero,zej];exact h⟩;have hp:0 < 65536 ^ i:=zcu (by decide);have h1:(dig 65536 (v%65536 ^ (i+1))).length<=i+1:=(xb3 xa0 _ _).2 (zcd _ (zcu (by decide)));have h2: ¬(dig 65536 (v%65536 ^ (i+1))).length<=i:=fun h'=>by
  have h3:=(xb3 xa0 _ _).1 h';rw [e] at h3;have h4:65536 ^ i*1<=65536 ^ i*(v / 65536 ^ i%65536):=zdh _ (by omega);omega
 omega
theorem shr16i (v i:Nat):v / 2 ^ (16*i)=v / 65536 ^ i:=by rw [Nat.pow_mul]
theorem toU64 {n:Int}:IntKind.u64.wrap n=(((n%18446744073709551616).toNat:Nat):Int):=by
 rw [mu64];omega
theorem negU64 {v:Nat} (hv:v < 18446744073709551616):IntKind.u64.wrap (0 - (v:Int))=(((18446744073709551616 - v)%18446744073709551616:Nat):Int):=by
 rw [mu64];omega
theorem toI64 {v:Nat} (hv:v < 18446744073709551616):IntKind.i64.wrap (v:Int)=if v < 9223372036854775808 then (v:Int) else (v:Int) - 18446744073709551616:=by
 split
 ·exact wr64 (by omega) (by omega)
 ·simp only [IntKind.wrap];simp [IntKind.bits,IntKind.signed];omega
def fits (z:Int):Bool:=decide (-9223372036854775808<=z) && decide (z<=9223372036854775807)
theorem zt8 {z:Int} (h:4 < len16 z):fits z=false:=by
 have h1: ¬z.natAbs < 18446744073709551616:=fun h'=>by have:=zv6 _ h';exact absurd this (by show ¬len16 z<=4;omega)
 simp only [fits,Bool.and_eq_false_iff,decide_eq_false_iff_not];omega
theorem zt1 {z:Int} (h:len16 z<=4):z.natAbs < 18446744073709551616:=by
 have:=(xb3 xa0 z.natAbs 4).1 h;simpa using this
end An
namespace An.S
open Go Go.Proofs An Tryz
instance fi216:FnI Tryz.prog 216:=⟨_,func216,by kernel_rfl,rfl⟩
instance fi264:FnI Tryz.prog 264:=⟨_,func264,by kernel_rfl,rfl⟩
instance fi325:FnI Tryz.prog 325:=⟨_,func325,by kernel_rfl,rfl⟩
theorem ar236:ArI Tryz.prog 236 64 4 1 false:=⟨by kernel_rfl,ti64⟩
theorem zo3 (a:Nat) (ha:(dig 4294967296 a).length<=10000):Ct Tryz.prog 337 [tN a,tWs [1]] (tN (a+1)):=by
 have e:dig 4294967296 1=[1]:=by rw [xk7 xa2 (by decide),show (1:Nat) / 4294967296=0 by decide,xc4]
 have:=qr3 a 1 (by omega) (by rw [e];decide);rw [tN,tN,e] at this;exact this
theorem jh3 (x y:Int) (hx:len16 x<=1024) (hy:len16 y<=1024) (hy0:0 < y):
  Ct Tryz.prog 285 [tWh (wh x),tWh (wh y)] (tT [tWh (wh (x / y)),tWh (wh (x%y)),tI 0]):=by
 have hx32:=len32_le hx;have hy32:=len32_le hy;have hq32:(dig 4294967296 (x.natAbs / y.natAbs)).length<=1024:=zce (xd4 xa2 (Nat.div_le_self _ _)) hx32;have hrl:x.natAbs%y.natAbs < y.natAbs:=zcd _ (by omega);have hr32:(dig 4294967296 (x.natAbs%y.natAbs)).length<=1024:=zce (xd4 xa2 (zfv hrl)) hy32;have hs32:(dig 4294967296 (y.natAbs - x.natAbs%y.natAbs)).length<=1024:=zce (xd4 xa2 (Nat.sub_le _ _)) hy32;have hq1:=zg9 (k:=1024) (m:=x.natAbs / y.natAbs) (n:=1) hq32 (zce qf4 (by decide));have ey:(wh y).neg=false:=zbf (by omega);have ex:(wh x).neg=decide (x < 0):=rfl;refine Ct.intro func285 rfl ntmps285 rfl ?_;intro w F;refine A4 ?_;refine RE (xa3 (k:=4) (n:=2) (agg:=true) zr39.1 zr39.2 rfl) trivial trivial qA (RE (xa3 (k:=5) (n:=2) (agg:=true) zr39.1 zr39.2 rfl) trivial trivial qA ?_);refine A8 ?_;refine R2 (xb6 (n:=2) (f:=tWh) [wh x,wh y] zha el39 zf39 rfl (fun _=>inferInstance) rfl rfl rfl) rfl rfl (R1 (x3 (xn6 x y hx hy) fi212 rfl) rfl ?_);refine A15 ?_;refine xi9 rfl (zbf (by (intro h;have h2:(wh y).l.length=0:=(by omega);have h3:y.natAbs=0:=(xe2 xa0).1 (zco.1 h2);omega))) ?_;refine A6 ?_;refine R1 (x3 (xk8 (Int.natAbs y) (by show len16 y<=1000000;omega)) fi214 rfl) rfl ?_;refine A7 ?_;refine R1 (x3 (xk8 (Int.natAbs x) (by show len16 x<=1000000;omega)) fi214 rfl) rfl ?_;refine A1 ?_;refine R2 (x3 (yn7 x.natAbs y.natAbs (by omega) (by omega) (by omega)) fi336 rfl) rfl rfl ?_;refine A7 ?_;refine xh3 (fun (fm:(Nat)×(Nat))=>(fun (Q:Nat) (R:Nat)=>(sgn (!((wh x).neg==(wh y).neg)) Q=x / y/\sgn (wh y).neg R=x%y)/\(dig 4294967296 Q).length<=1025/\(dig 4294967296 R).length<=1024) fm.1 fm.2) (wB fun (Q:Nat) (R:Nat)=>uV (uV (uO (uO (uO (uO uN 2 (.ptr 2 0)) 3 (.ptr 3 0)) 4 (.ptr 4 0)) 5 (.ptr 5 0)) 8 (tN Q)) 9 (tN R)) (wB fun (Q:Nat) (R:Nat)=>uK (uK (uK (uK uN 2 39 2 true [.val (tWh (wh x))]) 3 39 2 true [.val (tWh (wh y))]) 4 39 2 true [.val (tWh ⟨false,[]⟩)]) 5 39 2 true [.val (tWh ⟨false,[]⟩)]) (nm [2,3,4,5]) ?_ ?_
 ·
  refine A8 ?_;refine RGcase (t:=39) rfl (fun h140=> ?_) (fun h140=> ?_)
  ·
   have hxn:decide (x < 0)=true:=by have h:=h140;rw [ey,ex] at h;simpa using h
   refine A6 ?_;refine xa6 rfl (fun h140_2=> ?_) (fun h140_2=> ?_)
   ·
    have hr0:x.natAbs%y.natAbs≠0:=fun h=>by rw [h,xc4] at h140_2;simp at h140_2
    refine A3 ?_;refine R1 (xm7 (n:=1) [1] zgs el284 zf284 rfl rfl rfl) rfl (R2 (x3 (zo3 _ (by omega)) fi337 rfl) rfl rfl ?_);refine A6 ?_;refine R2 (x3 (yv1 y.natAbs (x.natAbs%y.natAbs) (by omega) (by omega)) fi338 rfl) rfl rfl ?_;refine A2 ?_;exact kF ((x.natAbs / y.natAbs+1,y.natAbs - x.natAbs%y.natAbs)) (by dsimp only;exact ⟨xu4 hy0 ⟨fun _=>⟨rfl,rfl⟩,fun h=>(h ⟨hxn,hr0⟩).elim⟩,hq1,hs32⟩)
   ·
    have hr0:x.natAbs%y.natAbs=0:=(xe2 xa2).1 (zco.1 (by omega));refine A1 ?_;exact kF ((x.natAbs / y.natAbs,x.natAbs%y.natAbs)) (by dsimp only;exact ⟨xu4 hy0 ⟨fun h=>(h.2 hr0).elim,fun _=>⟨rfl,rfl⟩⟩,by omega,hr32⟩)
  ·
   have hxn: ¬decide (x < 0)=true:=by have h:=h140;rw [ey,ex] at h;simpa using h
   refine A8 ?_;exact kF ((x.natAbs / y.natAbs,x.natAbs%y.natAbs)) (by dsimp only;exact ⟨xu4 hy0 ⟨fun h=>(hxn h.1).elim,fun _=>⟨rfl,rfl⟩⟩,by omega,hr32⟩)
 ·
  intro fm hj;obtain ⟨Q,R⟩:=fm;replace hj:(sgn (!((wh x).neg==(wh y).neg)) Q=x / y/\sgn (wh y).neg R=x%y)/\(dig 4294967296 Q).length<=1025/\(dig 4294967296 R).length<=1024:=hj;show wc _ _ _ _ (uV (uV (uO (uO (uO (uO uN 2 (.ptr 2 0)) 3 (.ptr 3 0)) 4 (.ptr 4 0)) 5 (.ptr 5 0)) 8 (tN Q)) 9 (tN R)) (uK (uK (uK (uK uN 2 39 2 true [.val (tWh (wh x))]) 3 39 2 true [.val (tWh (wh y))]) 4 39 2 true [.val (tWh ⟨false,[]⟩)]) 5 39 2 true [.val (tWh ⟨false,[]⟩)]) _;obtain ⟨⟨hQ,hR⟩,hQl,hRl⟩:=hj;refine A8 ?_;refine R2 (x3 (yo6 (!((wh x).neg==(wh y).neg)) Q (by omega)) fi333 rfl) rfl rfl ?_;refine A3 ?_;refine R2 (x3 (yo6 (wh y).neg R (by omega)) fi333 rfl) rfl rfl ?_;refine A6 ?_;exact EN (rs:=[.cell 4 39,.cell 5 39,.tmp 6]) rfl rfl ⟨⟨_,_,_,_,_,rfl,rfl,ti39,(Le.of (by rw [hQ]))⟩,⟨_,_,_,_,_,rfl,rfl,ti39,(Le.of (by rw [hR]))⟩,⟨_,rfl,zao⟩,trivial⟩
theorem zq3 {k:IntKind} {xs:List Nat} {n:Nat}:(rW k xs).take n=(xs.take n).map fun x:Nat=> .val (tE (.int k (x:Int))):=by
 rw [rW,List.map_take]
theorem zm4 (n:Int) (h1: -9223372036854775808<=n) (h2:n<=9223372036854775807):
  Ct Tryz.prog 134 [tI n] (tWh (wh n)):=by
 refine Ct.intro func134 rfl ntmps134 rfl ?_;intro w F;refine A2 ?_;refine RE (xa3 (k:=2) (n:=2) (agg:=true) zr39.1 zr39.2 rfl) trivial trivial qA ?_;refine A5 ?_;refine R1 (x9 zgw (isS zgz) toU64) rfl ?_;refine A3 ?_;refine xh3 (fun (v:Nat)=>v=n.natAbs) (fun (v:Nat)=>uV (uO (uV uN 0 (tI n)) 2 (.ptr 2 0)) 3 (tE (.int .u64 ((v:Nat):Int)))) (fun (v:Nat)=>uK uN 2 39 2 true [.val (tWh ⟨false,[]⟩)]) (nm [2]) ?_ ?_
 ·
  refine A6 ?_;refine xa6 rfl (fun h48=> ?_) (fun h48=> ?_)
  ·
   refine A2 ?_;refine R1 (yb4 (negU64 (by omega))) rfl ?_;refine A2 ?_;exact kF ((18446744073709551616 - (n%18446744073709551616).toNat)%18446744073709551616) (by omega)
  ·
   refine A1 ?_;exact kF ((n%18446744073709551616).toNat) (by omega)
 ·
  intro v hv;refine A2 ?_;refine RE (zz8 (k:=4) (len:=4) (u:= .int .u16 0) underlying236 (z:= .agg #[.int .u16 0,.int .u16 0,.int .u16 0,.int .u16 0]) (by kernel_rfl) rfl rfl) trivial trivial qA ?_;refine A14 ?_;refine cL (fun (fm:(Nat)×(List Nat)×(Nat))=>(fun (i:Nat) (ls:List Nat) (c:Nat)=>i<=4/\ls.length=4/\ls.take i=dgs 65536 i v/\c=(dig 65536 (v%65536 ^ i)).length) fm.1 fm.2.1 fm.2.2) (wC fun (i:Nat) (ls:List Nat) (c:Nat)=>uV (uV (uO (uV (uO (uV uN 0 (tI n)) 2 (.ptr 2 0)) 3 (tE (.int .u64 ((v:Nat):Int)))) 4 (.ptr 4 0)) 5 (tI c)) 13 (tI i)) (wC fun (i:Nat) (ls:List Nat) (c:Nat)=>uK (uK uN 2 39 2 true [.val (tWh ⟨false,[]⟩)]) 4 236 1 false (rW .u16 ls)) [2,4] (fun (fm:(Nat)×(List Nat)×(Nat))=>(fun (i:Nat) (ls:List Nat) (c:Nat)=>4 - i) fm.1 fm.2.1 fm.2.2) ((0,[0,0,0,0],0)) (by dsimp only;exact ⟨by omega,rfl,rfl,by rw [zeg,zfo,xc4];rfl⟩) ?_;intro fm hI;obtain ⟨i,ls,c⟩:=fm;replace hI:i<=4/\ls.length=4/\ls.take i=dgs 65536 i v/\c=(dig 65536 (v%65536 ^ i)).length:=hI;show wc _ _ _ _ (uV (uV (uO (uV (uO (uV uN 0 (tI n)) 2 (.ptr 2 0)) 3 (tE (.int .u64 ((v:Nat):Int)))) 4 (.ptr 4 0)) 5 (tI c)) 13 (tI i)) (uK (uK uN 2 39 2 true [.val (tWh ⟨false,[]⟩)]) 4 236 1 false (rW .u16 ls)) _;obtain ⟨hi,hl,ht,hc⟩:=hI;obtain ⟨k1,k2⟩:=zd4 hc;have hcl:c<=i:=by rw [hc];exact (xb3 xa0 _ _).2 (zcd _ (zcu (by decide)))
  refine A6 ?_;refine xa6 rfl (fun h53=> ?_) (fun h53=> ?_)
  ·
   refine A15 ?_;refine R2 (xj0 zah) rfl rfl (R2 (xj1 (by omega) (shrN (s:=16*i) (by omega) (by show 16*i<=64;omega))) rfl rfl (R1 (x9 zgv (isS zgw) cut16) rfl (R2 (yn2 ar236 (by omega) (by omega) rfl) rfl rfl (RE (xa8 (i) ti64 (xj2 (by omega)) (by omega) (xh1 (m:=_) rfl)) qB qA trivial ?_))));refine A5 ?_;refine R2 (yn2 ar236 (by omega) (by omega) rfl) rfl rfl (RE (x7 (i) ti64 (xo6 (by rw [zdx];omega)) (by omega)) qA qA trivial ?_);refine A3 ?_;refine xa6 rfl (fun h55=> ?_) (fun h55=> ?_)
   ·
    have hd:(ls.set i (v / 2 ^ (16*i)%65536)).getD i 0=v / 65536 ^ i%65536:=by rw [xk0 (by omega),shr16i]
    refine A11 ?_;rw [hd] at h55;exact kF ((i+1,ls.set i (v / 2 ^ (16*i)%65536),i+1)) ⟨(by dsimp only;exact ⟨by omega,by simpa using hl,by rw [xi8 (by omega),ht,xj9,shr16i],k1 (by omega)⟩),(by dsimp only;omega)⟩
   ·
    have hd:(ls.set i (v / 2 ^ (16*i)%65536)).getD i 0=v / 65536 ^ i%65536:=by rw [xk0 (by omega),shr16i]
    refine A7 ?_;rw [hd] at h55;exact kF ((i+1,ls.set i (v / 2 ^ (16*i)%65536),c)) ⟨(by dsimp only;exact ⟨by omega,by simpa using hl,by rw [xi8 (by omega),ht,xj9,shr16i],k2 (by omega)⟩),(by dsimp only;omega)⟩
  ·
   refine A10 ?_;refine RE (zm9 (f:=fun n:Nat=>tE (.int .u16 n)) (ys:=ls.take c) (u:=c) ar236 (fun _ h=>h) (fun h=>by cases h) (by omega) zq3 (by rw [xp6];exact hl) (by rw [zcz];omega) rfl) qB qA trivial (R1 (x3 (ym0 (ls.take c) (by rw [zcz];omega)) fi216 rfl) rfl (R2 (xb7 (r:=tS [⟨1,false,tB (decide (n < 0))⟩,⟨1,false,tLm (ls.take c)⟩]) (ts:=[(0,tB (decide (n < 0))),(1,tLm (ls.take c))]) bu39 zr39.2 (Bc 0 rfl rfl rfl (Bc 1 rfl rfl rfl zao))) rfl rfl ?_));refine A4 ?_;have hi4:i=4:=by omega
   subst hi4;have hfin:ls.take c=dig 65536 n.natAbs:=by
    rw [<-hl,zci,hl] at ht;rw [ht,ym8 (by omega),<-hv];rw [zbx (by show v < 18446744073709551616;omega)] at hc;rw [hc,xo4 xa0]
   exact EC rfl ⟨_,_,_,_,_,rfl,rfl,ti39,(Le.of (by rw [hfin];rfl))⟩
theorem c_WInt (z:Int) (hz:len16 z<=1024):
  Ct Tryz.prog 175 [tWh (wh z)] (tT [tI (if fits z then z else 0),tI (if fits z then 0 else 3)]):=by
 have hzl:(wh z).l.length<=1024:=hz;have hD:Dig 65536 (wh z).l:=xc3 xa0 _;refine Ct.intro func175 rfl ntmps175 rfl ?_;intro w F;refine A11 ?_;refine R1 (x3 (ym6 _) fi206 rfl) rfl ?_;refine A3 ?_;refine xi9 rfl (by (rw [xw3 hz];rfl)) ?_;refine A11 ?_;refine xa6 rfl (fun h67=> ?_) (fun h67=> ?_)
 ·
  have hf:fits z=false:=zt8 (by show 4 < (wh z).l.length;omega);refine A8 ?_;exact E2 rfl rfl rfl (zba (by rw [hf];rfl)) (zba (by rw [hf];rfl))
 ·
  have hlt:z.natAbs < 18446744073709551616:=zt1 (by show (wh z).l.length<=4;omega);have hval:val 65536 ((wh z).l.drop ((wh z).l.length - (wh z).l.length))=z.natAbs:=by rw [Nat.sub_self,List.drop_zero];exact xk4 xa0 _
  refine A4 ?_;refine RE (xa3 (k:=4) (n:=1) (agg:=false) zr123.1 zr123.2 rfl) trivial trivial qA ?_;refine A8 ?_;refine RE (xe9 (fun _=>15) (ja4 _) fi264 rfl (krN (ρ:=fun _=>15)) (krC (ρ:=fun _=>15) (k:=1) rfl (krN (ρ:=fun _=>15))) ⟨⟨rfl,(SupX.lit rfl)⟩,trivial⟩ rfl) qA trivial qA ?_;refine A3 ?_;refine yi1 (caps:=[.ptr 1 0]) (κ:=Empty) (zab 1 15) rfl (fun _ h=>h) trivial (jd8 (wh z).l (by omega)) fi325 rfl qA rfl rfl (fun _ _=>rfl) (uO (uO uN 1 (.ptr 1 0)) 4 (.ptr 4 0)) [1,4] [1,4] (zan rfl (zan rfl zay)) (zak rfl (zak rfl zar)) rfl (lkOk rfl) (fun (k:Nat) (_:Unit)=>True) (fun (k:Nat) (_:Unit)=>uK (uK uN 1 39 2 true [.val (tWh (wh z))]) 4 123 1 false [.val (tE (.int .u64 ((val 65536 ((wh z).l.drop ((wh z).l.length - k)):Nat):Int)))]) (fun k x=>(zam rfl (supJL rfl) (zam rfl (supJL rfl) zaz))) (fun k x y hy=>by simp at hy;subst hy;rfl) (fun _ _=>False) (fun i=>i.elim) (fun _ _ h=>h.elim) (()) trivial ((zaq rfl (ImpK.one (Imp.int (by rw [Nat.sub_zero,List.drop_length];rfl)))) (SubK.cons rfl zax)) ?_ ?_ ?_
  ·
   intro D lp o1 o2 O W lη lb V0 k x hk hI;have hv:=xo8 (hD.drop ((wh z).l.length - k));rw [List.length_drop,show (wh z).l.length - ((wh z).l.length - k)=k by omega] at hv;have hk1:65536 ^ k<=65536 ^ 3:=Nat.pow_le_pow_right (by decide) (by omega);have hw:=hD.getD (by decide) ((wh z).l.length - 1 - k);have hst:=xj7 65536 (wh z).l ((wh z).l.length - 1 - k) (by omega);rw [show (wh z).l.length - 1 - k+1=(wh z).l.length - k by omega,zbz] at hst;have hv48:val 65536 ((wh z).l.drop ((wh z).l.length - k)) < 281474976710656:=by omega
   apply yi3
   ·
    refine A3 ?_;exact yc6 fun _ _ h=>h
   ·
    refine A3 ?_;refine R2 (xz8 (by decide) (shlN64 (s:=16) rfl (by decide) (by omega))) rfl rfl ?_;refine A1 ?_;refine R1 (x9 zgw (isS zgv) (by first | exact wu64 (by omega) (by omega) | exact mu64)) rfl (R2 (yd9 (zi9 _ _ 16 rfl rfl hw (wu64 (by omega) (by omega)) (by show _ < 18446744073709551616;omega))) rfl rfl ?_);refine A3 ?_;exact yu4 (()) trivial ((zaq rfl (ImpK.one (Imp.int (by rw [show (wh z).l.length - (k+1)=(wh z).l.length - 1 - k by omega,hst])))) (SubK.cons rfl zax)) (zam rfl (supJL rfl) (zam rfl (supJL rfl) zaz)) (lkOk rfl)
  ·
   intro D hD x hI;refine A4 ?_;refine xp2 (k:=4) (e':=⟨123,1,false,[.val (tE (.int .u64 ((z.natAbs:Nat):Int)))]⟩) rfl (by rw [hval]) ?_;refine A5 ?_;refine xc7 rfl (fun h74=> ?_) (fun h74=> ?_)
   ·
    have hz0:z < 0:=zdt h74;refine A7 ?_;refine xa6 rfl (fun h75=> ?_) (fun h75=> ?_)
    ·
     have hf:fits z=false:=by simp only [fits,Bool.and_eq_false_iff,decide_eq_false_iff_not];omega
     refine A9 ?_;exact ya3 (Plain.loop Plain.mk' hD) rfl rfl rfl (zba (by rw [hf];rfl)) (zba (by rw [hf];rfl))
    ·
     have hf:fits z=true:=by simp only [fits,zcf,zee];omega
     refine A5 ?_;refine R1 (yb4 (negU64 (by omega))) rfl (R1 (x9 zgz (isS zgw) (toI64 (zcd _ (by decide)))) rfl ?_);refine A6 ?_;exact ya3 (Plain.loop Plain.mk' hD) rfl rfl rfl (zba (by rw [hf];simp only [↓reduceIte];split <;> omega)) (zba (by rw [hf];rfl))
   ·
    have hz0: ¬z < 0:=of_decide_eq_false h74;refine A9 ?_;refine xa6 rfl (fun h80=> ?_) (fun h80=> ?_)
    ·
     have hf:fits z=false:=by simp only [fits,Bool.and_eq_false_iff,decide_eq_false_iff_not];omega
     refine A8 ?_;exact ya3 (Plain.loop Plain.mk' hD) rfl rfl rfl (zba (by rw [hf];rfl)) (zba (by rw [hf];rfl))
    ·
     have hf:fits z=true:=by simp only [fits,zcf,zee];omega
     refine A5 ?_;refine R1 (x9 zgz (isS zgw) (toI64 (by omega))) rfl ?_;refine A5 ?_;exact ya3 (Plain.loop Plain.mk' hD) rfl rfl rfl (zba (by rw [hf];simp only [↓reduceIte];split <;> omega)) (zba (by rw [hf];rfl))
  ·
   intro D hD e i;exact i.elim
end An.S
namespace An
open Go
structure Fr where
  n:Wh
  d:Wh
deriving DecidableEq
abbrev tFr (f:Fr):Ty:=tS [⟨2,true,tWh f.n⟩,⟨2,true,tWh f.d⟩]
abbrev tTm (f:Fr):Ty:=tS [⟨4,true,tFr f⟩]
def fr (q:Rat):Fr:=⟨wh q.num,wh q.den⟩
def fr0:Fr:=⟨⟨false,[]⟩,⟨false,[]⟩⟩
def Fr.sh (f:Fr):Bool:=decide (f.n.l.length<=256) && decide (f.d.l.length<=256)
def short (q:Rat):Prop:=len16 q.num<=256/\len16 q.den<=256
instance (q:Rat):Decidable (short q):=inferInstanceAs (Decidable (_/\_))
def resF (q:Rat):Fr:=if short q then fr q else fr0
def resFE (q:Rat):Int:=if short q then 0 else 3
theorem xp1 (q:Rat):(fr q).sh=decide (short q):=by
 show (decide (len16 q.num<=256) && decide (len16 q.den<=256))=_;exact (Bool.decide_and _ _).symm
def Wh.int (x:Wh):Int:=sgn x.neg (val 65536 x.l)
theorem xq7 (z:Int):(wh z).int=z:=by
 show sgn (wh z).neg (val 65536 (dig 65536 z.natAbs))=z;rw [xk4 xa0];exact xv7 z
def Fr.valid (f:Fr):Bool:=f.sh && f.n.valid && f.d.valid && decide (0 < f.d.int) && decide (Int.gcd f.n.int f.d.int=1)
theorem Fr.of_valid {f:Fr} (hn:Dig 65536 f.n.l) (hd:Dig 65536 f.d.l) (h:f.valid=true): ∃q:Rat,f=fr q/\short q:=by
 obtain ⟨n,d⟩:=f;simp only [Fr.valid,zcf,zee] at h;obtain ⟨⟨⟨⟨h1,h2⟩,h3⟩,h4⟩,h5⟩:=h;obtain ⟨x,hx,hxl⟩:=Wh.of_valid hn h2;obtain ⟨y,hy,hyl⟩:=Wh.of_valid hd h3;simp only at hx hy;subst hx;subst hy;rw [xq7] at h4;rw [xq7,xq7] at h5;obtain ⟨m,rfl⟩:=zff (Int.le_of_lt h4);have hm:m≠0:=by omega
 have hq: ∃q:Rat,q.num=x/\q.den=m:=⟨⟨x,m,hm,by simpa [Int.gcd] using h5⟩,rfl,rfl⟩
 obtain ⟨q,q1,q2⟩:=hq;have e:(⟨wh x,wh m⟩:Fr)=fr q:=by rw [fr,q1,q2]
 refine ⟨q,e,?_⟩;rw [e,xp1] at h1;exact zdt h1
theorem zu2 {q:Rat} (h:short q):(fr q).valid=true:=by
 have h1:(wh q.num).valid=true:=xw3 (zce h.1 (by decide));have h2:(wh (q.den:Int)).valid=true:=xw3 (zce h.2 (by decide));have hd:=q.den_nz;have hg:Int.gcd q.num (q.den:Int)=1:=by simpa [Int.gcd] using q.reduced
 have e1:(fr q).n.int=q.num:=xq7 _;have e2:(fr q).d.int=(q.den:Int):=xq7 _;simp only [Fr.valid,zcf,zee];rw [e1,e2];exact ⟨⟨⟨⟨by rw [xp1];exact zbg h,h1⟩,h2⟩,by omega⟩,hg⟩
theorem xv0:wh 1=⟨false,[1]⟩:=by
 have e:dig 65536 1=[1]:=by rw [xk7 xa0 (by decide),show (1:Nat) / 65536=0 by decide,xc4]
 show (⟨decide ((1:Int) < 0),dig 65536 1⟩:Wh)=_;rw [e];rfl
theorem qd2:wh 0=⟨false,[]⟩:=by
 show (⟨decide ((0:Int) < 0),dig 65536 0⟩:Wh)=_;rw [xc4];rfl
theorem len16_mul {x y:Int} {k l:Nat} (hx:len16 x<=k) (hy:len16 y<=l):len16 (x*y)<=k+l:=by
 have h1:=(xb3 xa0 x.natAbs k).1 hx;have h2:=(xb3 xa0 y.natAbs l).1 hy;refine (xb3 xa0 _ _).2 ?_;rw [Int.natAbs_mul,zew];exact Nat.mul_lt_mul'' h1 h2
theorem len16_add {x y:Int} {k:Nat} (hx:len16 x<=k) (hy:len16 y<=k):len16 (x+y)<=k+1:=by
 have h1:=(xb3 xa0 x.natAbs k).1 hx;have h2:=(xb3 xa0 y.natAbs k).1 hy;refine (xb3 xa0 _ _).2 ?_;rw [zcc];generalize 65536 ^ k=P at*
 omega
theorem len16_neg (x:Int):len16 (-x)=len16 x:=by rw [len16,len16,Int.natAbs_neg]
theorem len16_le {x y:Int} (h:x.natAbs<=y.natAbs):len16 x<=len16 y:=xd4 xa0 h
theorem len16_div {x y:Int} {k:Nat} (hx:len16 x<=k):len16 (x / y)<=k:=by
 refine zce (len16_le ?_) hx;exact Int.natAbs_ediv_le_natAbs x y
theorem xt1 {n d:Int} (hd:0 < d):fr (Rat.divInt n d)=⟨wh (n / (Int.gcd n d:Int)),wh (d / (Int.gcd n d:Int))⟩:=by
 obtain ⟨m,rfl⟩:=zff (Int.le_of_lt hd);have hm:m≠0:=by omega
 rw [Rat.divInt_ofNat,<-Rat.normalize_eq_mkRat hm,Rat.normalize_eq];simp only [fr];have e:Int.gcd n (m:Int)=n.natAbs.gcd m:=by simp [Int.gcd]
 rw [e,<-Int.natCast_ediv]
def cmpQ (a b:Rat):Int:=if a < b then -1 else if a=b then 0 else 1
theorem qe4 (a b:Rat):cmpZ (a.num*b.den) (b.num*a.den)=cmpQ a b:=by
 simp only [cmpZ,cmpQ,Rat.lt_iff];split
 ·rfl
 ·rename_i h;by_cases hab:a=b
  ·subst hab;rw [if_pos rfl,if_pos rfl]
  ·rw [if_neg hab,if_neg];intro he;apply hab;have h1:a<=b:=(Rat.le_iff a b).2 (by omega);have h2:b<=a:=(Rat.le_iff b a).2 (by omega);exact Rat.le_antisymm h1 h2
end An
namespace An.S
open Go Go.Proofs An Tryz
instance ti41:TyI Tryz.prog 41 4 true:=⟨by kernel_rfl,by kernel_rfl⟩
instance ti142:TyI Tryz.prog 142 4 true:=⟨by kernel_rfl,by kernel_rfl⟩
instance fo41_0:FoI Tryz.prog 41 0 0:=⟨by kernel_rfl⟩
instance fo41_1:FoI Tryz.prog 41 1 2:=⟨by kernel_rfl⟩
instance fo142_0:FoI Tryz.prog 142 0 0:=⟨by kernel_rfl⟩
instance fi204:FnI Tryz.prog 204:=⟨_,func204,by kernel_rfl,rfl⟩
instance fi205:FnI Tryz.prog 205:=⟨_,func205,by kernel_rfl,rfl⟩
instance fi208:FnI Tryz.prog 208:=⟨_,func208,by kernel_rfl,rfl⟩
instance fi209:FnI Tryz.prog 209:=⟨_,func209,by kernel_rfl,rfl⟩
instance fi215:FnI Tryz.prog 215:=⟨_,func215,by kernel_rfl,rfl⟩
instance fi222:FnI Tryz.prog 222:=⟨_,func222,by kernel_rfl,rfl⟩
instance fi279:FnI Tryz.prog 279:=⟨_,func279,by kernel_rfl,rfl⟩
instance fi280:FnI Tryz.prog 280:=⟨_,func280,by kernel_rfl,rfl⟩
instance fi285:FnI Tryz.prog 285:=⟨_,func285,by kernel_rfl,rfl⟩
theorem zr41:(Tryz.prog.info? 41).bind (·.zero)=some (.agg #[.bool false,.slice none 0 0,.bool false,.slice none 0 0])/\ ∀F w,zad.p F w (.agg #[.bool false,.slice none 0 0,.bool false,.slice none 0 0]):=⟨by kernel_rfl,fun _ _=>⟨_,rfl,rfl,⟨fun h=>Bool.noConfusion h,⟨_,rfl,rfl,⟨fun _=>rfl,rfl⟩,⟨fun _=>rfl,⟨none,0,rfl,zbm _,by decide,.inl rfl⟩⟩,trivial⟩⟩,⟨fun h=>Bool.noConfusion h,⟨_,rfl,rfl,⟨fun _=>rfl,rfl⟩,⟨fun _=>rfl,⟨none,0,rfl,zbm _,by decide,.inl rfl⟩⟩,trivial⟩⟩,trivial⟩⟩
theorem zr142:(Tryz.prog.info? 142).bind (·.zero)=some (.agg #[.bool false,.slice none 0 0,.bool false,.slice none 0 0])/\ ∀F w,(tS [⟨4,true,zad⟩]).p F w (.agg #[.bool false,.slice none 0 0,.bool false,.slice none 0 0]):=⟨by kernel_rfl,fun _ _=>⟨_,rfl,rfl,⟨fun h=>Bool.noConfusion h,⟨_,rfl,rfl,⟨fun h=>Bool.noConfusion h,⟨_,rfl,rfl,⟨fun _=>rfl,rfl⟩,⟨fun _=>rfl,⟨none,0,rfl,zbm _,by decide,.inl rfl⟩⟩,trivial⟩⟩,⟨fun h=>Bool.noConfusion h,⟨_,rfl,rfl,⟨fun _=>rfl,rfl⟩,⟨fun _=>rfl,⟨none,0,rfl,zbm _,by decide,.inl rfl⟩⟩,trivial⟩⟩,trivial⟩⟩,trivial⟩⟩
theorem bu41:BuI Tryz.prog 41 (fun i=>[(0,2),(2,2)][i]?) (.agg #[.bool false,.slice none 0 0,.bool false,.slice none 0 0]):=BuI.struct underlying41 (by kernel_rfl) (by kernel_rfl)
theorem bu142:BuI Tryz.prog 142 (fun i=>[(0,4)][i]?) (.agg #[.bool false,.slice none 0 0,.bool false,.slice none 0 0]):=BuI.struct underlying142 (by kernel_rfl) (by kernel_rfl)
theorem qr1 {x:Wh} (hn:x.neg=false) (hl:x.l.length=1):decide (((x.l.getD 0 0:Nat):Int)=1)=decide (x=⟨false,[1]⟩):=by
 obtain ⟨n,l⟩:=x;simp only at hn hl;subst hn;obtain ⟨a,rfl⟩:=List.length_eq_one_iff.1 hl;simp;omega
theorem qp3 (z:Int):wh (-z)=⟨!(wh z).neg && decide (0 < (wh z).l.length),(wh z).l⟩:=by
 have h:(wh z).l.length=0↔z=0:=by
  show (dig 65536 z.natAbs).length=0↔z=0;rw [zco,xe2 xa0];omega
 have e1:(wh (-z)).l=(wh z).l:=by show dig 65536 (-z).natAbs=dig 65536 z.natAbs;rw [Int.natAbs_neg]
 have e2:(wh (-z)).neg=(!(wh z).neg && decide (0 < (wh z).l.length)):=by
  show decide (-z < 0)=(!decide (z < 0) && decide (0 < (wh z).l.length))
  by_cases h0:z=0
  ·subst h0;simp [qd2]
  ·have:0 < (wh z).l.length:=by omega
   rw [zbg this,Bool.and_true,<-decide_not];exact zfb.2 (by omega)
 have e3: ∀a:Wh,a=⟨a.neg,a.l⟩:=fun _=>rfl;rw [e3 (wh (-z)),e1,e2]
theorem qf1 (x:Wh):
  Ct Tryz.prog 208 [tWh x] (tB (decide (x=⟨false,[1]⟩))):=by
 refine Ct.intro func208 rfl ntmps208 rfl ?_;intro w F;refine A12 ?_;refine RGcase (t:=6) rfl (fun h54=> ?_) (fun h54=> ?_)
 ·
  refine A6 ?_;refine RGcaseD (t:=12) rfl (fun h54_2=> ?_) (fun h54_2=> ?_)
  ·
   refine A2 ?_;refine Rg (zbg h54_2) rfl (x8 sl37 (0) (by omega) (gN (by omega))) rfl qB ?_;refine A7 ?_;exact E1 rfl rfl (zau (qr1 (by simpa using h54) (by omega)))
  ·
   refine A10 ?_;exact E1 rfl rfl (zau (zbf (fun h=>h54_2 (by rw [h];rfl))).symm)
 ·
  refine A16 ?_;exact E1 rfl rfl (zau (zbf (fun h=>by rw [h] at h54;simp at h54)).symm)
theorem zi0 (f:Fr):
  Ct Tryz.prog 205 [tTm f] (tB (!f.sh)):=by
 refine Ct.intro func205 rfl ntmps205 rfl ?_;intro w F;refine A11 ?_;refine xj6 (0) ti37 rfl rfl rfl (At.t (At.g 0 rfl rfl) (At.t (At.g 0 rfl rfl) (At.g 1 rfl rfl))) rfl ?_;refine A3 ?_;refine RGcaseD (t:=9) rfl (fun h33=> ?_) (fun h33=> ?_)
 ·
  refine A11 ?_;exact E1 rfl rfl (zau (by rw [Fr.sh,zbf (show ¬f.n.l.length<=256 by omega)];rfl))
 ·
  refine A3 ?_;refine xg1 (zbf h33) rfl rfl (0) ti37 rfl rfl rfl (At.t (At.g 0 rfl rfl) (At.t (At.g 1 rfl rfl) (At.g 1 rfl rfl))) rfl ?_;refine A7 ?_;exact E1 rfl rfl (zau (by rw [Fr.sh,zbg (show f.n.l.length<=256 by omega),zec,<-decide_not];exact zfb.2 (by omega)))
theorem yg6 (f:Fr):
  Ct Tryz.prog 202 [tTm f] (tT [tFr (if f.sh then f else fr0),tI (if f.sh then 0 else 3)]):=by
 refine Ct.intro func202 rfl ntmps202 rfl ?_;intro w F;refine A3 ?_;refine RE (xa3 (k:=2) (n:=4) (agg:=true) zr41.1 zr41.2 rfl) trivial trivial qA ?_;refine A7 ?_;refine R1 (x3 (zi0 f) fi205 rfl) rfl ?_;refine A2 ?_;refine xc7 rfl (fun h46=> ?_) (fun h46=> ?_)
 ·
  have hs:f.sh=false:=by simpa using h46
  refine A2 ?_;refine R0 (xb7 (r:=zad) (ts:=[]) bu41 zr41.2 zao) ?_;refine A6 ?_;exact EN (rs:=[.cell 2 41,.tmp 3]) rfl rfl ⟨⟨_,_,_,_,_,rfl,rfl,ti41,(Le.of (by rw [hs];rfl))⟩,⟨_,rfl,(zba (by rw [hs];rfl))⟩,trivial⟩
 ·
  have hs:f.sh=true:=by simpa using h46
  refine A5 ?_;refine xj6 (0) ti41 rfl rfl rfl (At.g 0 rfl (rfl)) rfl ?_;refine A5 ?_;exact EN (rs:=[.cell 2 41,.tmp 3]) rfl rfl ⟨⟨_,_,_,_,_,rfl,rfl,ti41,(Le.of (by rw [hs];rfl))⟩,⟨_,rfl,(zba (by rw [hs];rfl))⟩,trivial⟩
theorem yw2 (f:Fr):
  Ct Tryz.prog 207 [tTm f] (tB (decide (f.d=⟨false,[1]⟩))):=by
 refine Ct.intro func207 rfl ntmps207 rfl ?_;intro w F;refine A10 ?_;refine xj6 (0) ti39 rfl rfl rfl (At.t (At.g 0 rfl rfl) (At.g 1 rfl rfl)) rfl (R1 (x3 (qf1 _) fi208 rfl) rfl ?_);refine A4 ?_;exact E1 rfl rfl zao
theorem jp5 (f:Fr):
  Ct Tryz.prog 220 [tTm f] (tB (decide (f.n.l.length=0))):=by
 refine Ct.intro func220 rfl ntmps220 rfl ?_;intro w F;refine A11 ?_;refine xj6 (0) ti37 rfl rfl rfl (At.t (At.g 0 rfl rfl) (At.t (At.g 0 rfl rfl) (At.g 1 rfl rfl))) rfl ?_;refine A6 ?_;exact E1 rfl rfl (zau (zfb.2 (by omega)))
theorem yw1 (f:Fr):
  Ct Tryz.prog 221 [tTm f] (tB f.n.neg):=by
 refine Ct.intro func221 rfl ntmps221 rfl ?_;intro w F;refine A11 ?_;refine xj6 (0) ti4 rfl rfl rfl (At.t (At.g 0 rfl rfl) (At.t (At.g 0 rfl rfl) (At.g 0 rfl rfl))) rfl ?_;refine A4 ?_;exact E1 rfl rfl zao
theorem yr5 (x y:Int) (hx:len16 x<=1024) (hy:len16 y<=1024):
  Ct Tryz.prog 209 [tWh (wh x),tWh (wh y)] (tWh (wh ((Int.gcd x y:Nat):Int))):=by
 refine Ct.intro func209 rfl ntmps209 rfl ?_;intro w F;refine A4 ?_;refine RE (xa3 (k:=4) (n:=2) (agg:=true) zr39.1 zr39.2 rfl) trivial trivial qA ?_;refine A6 ?_;refine R2 (x3 (c_Gcd x y hx hy) fi280 rfl) rfl rfl ?_;refine A3 ?_;refine RE (xa3 (k:=5) (n:=2) (agg:=true) zr39.1 zr39.2 rfl) trivial trivial qA ?_;refine A11 ?_;exact EC rfl ⟨_,_,_,_,_,rfl,rfl,ti39,zao⟩
theorem yk2 (x y:Int) (hx:len16 x<=1024) (hy:len16 y<=1024) (hz:len16 (x+y)<=1024):
  Ct Tryz.prog 203 [tWh (wh x),tWh (wh y)] (tWh (wh (x+y))):=by
 refine Ct.intro func203 rfl ntmps203 rfl ?_;intro w F;refine A4 ?_;refine RE (xa3 (k:=4) (n:=2) (agg:=true) zr39.1 zr39.2 rfl) trivial trivial qA ?_;refine A6 ?_;refine R2 (x3 (c_Add x y hx hy) fi279 rfl) rfl rfl ?_;refine A3 ?_;refine RE (xa3 (k:=5) (n:=2) (agg:=true) zr39.1 zr39.2 rfl) trivial trivial qA ?_;refine A11 ?_;exact EC rfl ⟨_,_,_,_,_,rfl,rfl,ti39,(Le.of (by rw [resW,if_pos hz]))⟩
theorem xg2 (x y:Int) (hx:len16 x<=1024) (hy:len16 y<=1024) (hz:len16 (x*y)<=1024):
  Ct Tryz.prog 133 [tWh (wh x),tWh (wh y)] (tWh (wh (x*y))):=by
 refine Ct.intro func133 rfl ntmps133 rfl ?_;intro w F;refine A4 ?_;refine RE (xa3 (k:=4) (n:=2) (agg:=true) zr39.1 zr39.2 rfl) trivial trivial qA ?_;refine A6 ?_;refine R2 (x3 (c_Mul x y hx hy) fi215 rfl) rfl rfl ?_;refine A3 ?_;refine RE (xa3 (k:=5) (n:=2) (agg:=true) zr39.1 zr39.2 rfl) trivial trivial qA ?_;refine A11 ?_;exact EC rfl ⟨_,_,_,_,_,rfl,rfl,ti39,(Le.of (by rw [resW,if_pos hz]))⟩
theorem yr4 (x y:Int) (hx:len16 x<=1024) (hy:len16 y<=1024) (hy0:0 < y):
  Ct Tryz.prog 222 [tWh (wh x),tWh (wh y)] (tT [tWh (wh (x / y)),tWh (wh (x%y))]):=by
 refine Ct.intro func222 rfl ntmps222 rfl ?_;intro w F;refine A4 ?_;refine RE (xa3 (k:=4) (n:=2) (agg:=true) zr39.1 zr39.2 rfl) trivial trivial qA (RE (xa3 (k:=5) (n:=2) (agg:=true) zr39.1 zr39.2 rfl) trivial trivial qA ?_);refine A6 ?_;refine R2 (x3 (jh3 x y hx hy hy0) fi285 rfl) rfl rfl ?_;refine A17 ?_;exact EN (rs:=[.cell 4 39,.cell 5 39]) rfl rfl ⟨⟨_,_,_,_,_,rfl,rfl,ti39,zao⟩,⟨_,_,_,_,_,rfl,rfl,ti39,zao⟩,trivial⟩
theorem xr3 (z:Int) (hz:len16 z<=10000):
  Ct Tryz.prog 204 [tWh (wh z)] (tWh (wh (-z))):=by
 have hzl:(wh z).l.length<=10000:=hz;refine Ct.intro func204 rfl ntmps204 rfl ?_;intro w F;refine A3 ?_;refine RE (xa3 (k:=2) (n:=2) (agg:=true) zr39.1 zr39.2 rfl) trivial trivial qA ?_;refine A8 ?_;refine RGcase (t:=6) rfl (fun h81=> ?_) (fun h81=> ?_)
 ·
  refine A7 ?_;refine R1 (x3 (ym0 _ (by omega)) fi216 rfl) rfl (R2 (xb7 (r:=tS [⟨1,false,tB (decide ((0:Int) < ((wh z).l.length:Nat)))⟩,⟨1,false,tLm (wh z).l⟩]) (ts:=[(0,tB (decide ((0:Int) < ((wh z).l.length:Nat)))),(1,tLm (wh z).l)]) bu39 zr39.2 (Bc 0 rfl rfl rfl (Bc 1 rfl rfl rfl zao))) rfl rfl ?_);refine A4 ?_;exact EC rfl ⟨_,_,_,_,_,rfl,rfl,ti39,(Le.of (by rw [qp3,h81,zec,zfb.2 (show (0:Int) < ((wh z).l.length:Nat)↔0 < (wh z).l.length by omega)]))⟩
 ·
  refine A7 ?_;refine R1 (x3 (ym0 _ (by omega)) fi216 rfl) rfl (R2 (xb7 (r:=tS [⟨1,false,tB false⟩,⟨1,false,tLm (wh z).l⟩]) (ts:=[(0,tB false),(1,tLm (wh z).l)]) bu39 zr39.2 (Bc 0 rfl rfl rfl (Bc 1 rfl rfl rfl zao))) rfl rfl ?_);refine A4 ?_;exact EC rfl ⟨_,_,_,_,_,rfl,rfl,ti39,(Le.of (by rw [qp3,h81,zdz]))⟩
theorem yn3 (n d:Int) (hn:len16 n<=1024) (hd:len16 d<=1024) (hd0:d≠0):
  Ct Tryz.prog 201 [tWh (wh n),tWh (wh d)] (tTm (fr (Rat.divInt n d))):=by
 refine Ct.intro func201 rfl ntmps201 rfl ?_;intro w F;refine A4 ?_;refine RE (xa3 (k:=4) (n:=4) (agg:=true) zr142.1 zr142.2 rfl) trivial trivial qA ?_;refine A2 ?_;refine xh3 (fun (fm:(Int)×(Int))=>(fun (m:Int) (e:Int)=>(0 < e/\Rat.divInt m e=Rat.divInt n d)/\len16 m<=1024/\len16 e<=1024) fm.1 fm.2) (wB fun (m:Int) (e:Int)=>uO (uO (uO uN 2 (.ptr 2 0)) 3 (.ptr 3 0)) 4 (.ptr 4 0)) (wB fun (m:Int) (e:Int)=>uK (uK (uK uN 2 39 2 true [.val (tWh (wh m))]) 3 39 2 true [.val (tWh (wh e))]) 4 142 4 true [.val (tTm fr0)]) (nm [2,3,4]) ?_ ?_
 ·
  refine A6 ?_;refine xc7 rfl (fun h86=> ?_) (fun h86=> ?_)
  ·
   refine A2 ?_;refine R1 (x3 (xr3 n (by omega)) fi204 rfl) rfl ?_;refine A1 ?_;refine R1 (x3 (xr3 d (by omega)) fi204 rfl) rfl ?_;refine A3 ?_;exact kF ((-n, -d)) (by dsimp only;exact ⟨⟨by have:=zdt h86;omega,Rat.neg_divInt_neg _ _⟩,by rw [len16_neg];exact hn,by rw [len16_neg];exact hd⟩)
  ·
   refine A1 ?_;exact kF ((n,d)) (by dsimp only;exact ⟨⟨by have:=of_decide_eq_false h86;omega,rfl⟩,hn,hd⟩)
 ·
  intro fm hj;obtain ⟨m,e⟩:=fm;replace hj:(0 < e/\Rat.divInt m e=Rat.divInt n d)/\len16 m<=1024/\len16 e<=1024:=hj;show wc _ _ _ _ (uO (uO (uO uN 2 (.ptr 2 0)) 3 (.ptr 3 0)) 4 (.ptr 4 0)) (uK (uK (uK uN 2 39 2 true [.val (tWh (wh m))]) 3 39 2 true [.val (tWh (wh e))]) 4 142 4 true [.val (tTm fr0)]) _;obtain ⟨⟨he,hq⟩,hm,hel⟩:=hj;have hg0:0 < Int.gcd m e:=Int.gcd_pos_of_ne_zero_right m (by omega);have hgl:len16 ((Int.gcd m e:Nat):Int)<=1024:=zce (len16_le (by simpa using Nat.le_of_dvd (by omega) (Int.gcd_dvd_natAbs_right m e))) hel;refine A4 ?_;refine R2 (x3 (yr5 m e hm hel) fi209 rfl) rfl rfl (RE (xa3 (k:=5) (n:=2) (agg:=true) zr39.1 zr39.2 rfl) trivial trivial qA ?_);refine A7 ?_;refine R2 (x3 (yr4 m _ hm hgl (by omega)) fi222 rfl) rfl rfl ?_;refine A10 ?_;refine R2 (x3 (yr4 e _ hel hgl (by omega)) fi222 rfl) rfl rfl ?_;refine A10 ?_;refine R2 (xb7 (r:=tS [⟨2,true,tWh (wh (m / ((Int.gcd m e:Nat):Int)))⟩,⟨2,true,tWh (wh (e / ((Int.gcd m e:Nat):Int)))⟩]) (ts:=[(0,tWh (wh (m / ((Int.gcd m e:Nat):Int)))),(1,tWh (wh (e / ((Int.gcd m e:Nat):Int))))]) bu41 zr41.2 (Bc 0 rfl rfl rfl (Bc 1 rfl rfl rfl zao))) rfl rfl (R1 (xb7 (r:=tS [⟨4,true,tFr ⟨wh (m / ((Int.gcd m e:Nat):Int)),wh (e / ((Int.gcd m e:Nat):Int))⟩⟩]) (ts:=[(0,tFr ⟨wh (m / ((Int.gcd m e:Nat):Int)),wh (e / ((Int.gcd m e:Nat):Int))⟩)]) bu142 zr142.2 (Bc 0 rfl rfl rfl zao)) rfl ?_);refine A4 ?_;exact EC rfl ⟨_,_,_,_,_,rfl,rfl,ti142,(Le.of (by rw [<-hq,xt1 he]))⟩
instance sl71:SlI Tryz.prog 71 41 4 true:=⟨zhc,ti41⟩
instance fi49:FnI Tryz.prog 49:=⟨_,func49,by kernel_rfl,rfl⟩
instance fi130:FnI Tryz.prog 130:=⟨_,func130,by kernel_rfl,rfl⟩
instance fi131:FnI Tryz.prog 131:=⟨_,func131,by kernel_rfl,rfl⟩
instance fi132:FnI Tryz.prog 132:=⟨_,func132,by kernel_rfl,rfl⟩
instance fi133:FnI Tryz.prog 133:=⟨_,func133,by kernel_rfl,rfl⟩
instance fi134:FnI Tryz.prog 134:=⟨_,func134,by kernel_rfl,rfl⟩
instance fi175:FnI Tryz.prog 175:=⟨_,func175,by kernel_rfl,rfl⟩
instance fi201:FnI Tryz.prog 201:=⟨_,func201,by kernel_rfl,rfl⟩
instance fi202:FnI Tryz.prog 202:=⟨_,func202,by kernel_rfl,rfl⟩
instance fi203:FnI Tryz.prog 203:=⟨_,func203,by kernel_rfl,rfl⟩
instance fi207:FnI Tryz.prog 207:=⟨_,func207,by kernel_rfl,rfl⟩
instance fi210:FnI Tryz.prog 210:=⟨_,func210,by kernel_rfl,rfl⟩
instance fi211:FnI Tryz.prog 211:=⟨_,func211,by kernel_rfl,rfl⟩
instance fi281:FnI Tryz.prog 281:=⟨_,func281,by kernel_rfl,rfl⟩
theorem el41:ElI Tryz.prog 41 4 64 true (.agg #[.bool false,.slice none 0 0,.bool false,.slice none 0 0]):=⟨ti41,by kernel_rfl,by kernel_rfl⟩
theorem zf41:Flat 4 true (.agg #[.bool false,.slice none 0 0,.bool false,.slice none 0 0]):=xn3 (by intro u hu;simp at hu;rcases hu with rfl | rfl | rfl | rfl <;> rfl)
instance un71:UnI Tryz.prog 71 (.slice 41):=⟨zhc⟩
theorem qc2 {x y:Int}:decide (wh ((Int.gcd x y:Nat):Int)=⟨false,[1]⟩)=decide (Int.gcd x y=1):=by
 rw [<-xv0];refine zfb.2 ⟨fun h'=> ?_,fun h'=>by rw [h'];rfl⟩;have:=yj2 h';omega
theorem zm5 {y:Int} (h1:(wh y).neg=false) (h2: ¬(wh y).l.length=0):0 < y:=by
 have h3: ¬y < 0:=of_decide_eq_false h1;have h4:y≠0:=fun h=>h2 (by rw [h,qd2];rfl);omega
theorem je0 (f:Fr) (hn:Dig 65536 f.n.l) (hd:Dig 65536 f.d.l):
  Ct Tryz.prog 130 [tTm f] (tB f.valid):=by
 obtain ⟨n,d⟩:=f;replace hn:Dig 65536 n.l:=hn;replace hd:Dig 65536 d.l:=hd;refine Ct.intro func130 rfl ntmps130 rfl ?_;intro w F;refine A10 ?_;refine R1 (x3 (zi0 _) fi205 rfl) rfl ?_;refine A1 ?_;refine RGcase (t:=5) rfl (fun h38=> ?_) (fun h38=> ?_)
 ·
  have hs:(⟨n,d⟩:Fr).sh=false:=by simpa using h38
  refine A18 ?_;refine A18 ?_;refine A1 ?_;exact E1 rfl rfl (zau (by simp only [Fr.valid,hs,zdz]))
 ·
  have hs:(⟨n,d⟩:Fr).sh=true:=by simpa using h38
  refine A2 ?_;refine xg1 h38 rfl rfl (0) ti39 rfl rfl rfl (At.t (At.g 0 rfl rfl) (At.g 0 rfl rfl)) rfl (Rg h38 rfl (x3 (ym6 n) fi206 rfl) rfl qA ?_);refine A3 ?_;refine RGcase (t:=12) rfl (fun h38_2=> ?_) (fun h38_2=> ?_)
  ·
   have hv1:n.valid=false:=by simpa using h38_2
   refine A18 ?_;refine A12 ?_;exact E1 rfl rfl (zau (by simp only [Fr.valid,hv1,Bool.and_false,zdz]))
  ·
   have hv1:n.valid=true:=by simpa using h38_2
   refine A2 ?_;refine xg1 h38_2 rfl rfl (0) ti39 rfl rfl rfl (At.t (At.g 0 rfl rfl) (At.g 1 rfl rfl)) rfl (Rg h38_2 rfl (x3 (ym6 d) fi206 rfl) rfl qA ?_);refine A3 ?_;refine RGcase (t:=19) rfl (fun h38_3=> ?_) (fun h38_3=> ?_)
   ·
    have hv2:d.valid=false:=by simpa using h38_3
    refine A18 ?_;refine A5 ?_;exact E1 rfl rfl (zau (by simp only [Fr.valid,hv2,Bool.and_false,zdz]))
   ·
    have hv2:d.valid=true:=by simpa using h38_3
    obtain ⟨x,rfl,hxl⟩:=Wh.of_valid hn hv1;obtain ⟨y,rfl,hyl⟩:=Wh.of_valid hd hv2;have ix:=xq7 x;have iy:=xq7 y;refine A3 ?_;refine xg1 h38_3 rfl rfl (0) ti4 rfl rfl rfl (At.t (At.g 0 rfl rfl) (At.t (At.g 1 rfl rfl) (At.g 0 rfl rfl))) rfl ?_;refine A2 ?_;refine RGcase (t:=25) rfl (fun h38_4=> ?_) (fun h38_4=> ?_)
    ·
     have hy0: ¬0 < y:=by have:y < 0:=zdt h38_4;omega
     refine A17 ?_;exact E1 rfl rfl (zau (by simp only [Fr.valid,ix,iy,zbf hy0,Bool.and_false,zdz]))
    ·
     refine A3 ?_;refine xg1 h38_4 rfl rfl (0) ti37 rfl rfl rfl (At.t (At.g 0 rfl rfl) (At.t (At.g 1 rfl rfl) (At.g 1 rfl rfl))) rfl ?_;refine A5 ?_;refine xa6 rfl (fun h38_5=> ?_) (fun h38_5=> ?_)
     ·
      have hy0: ¬0 < y:=fun h=>by
       have h5:(((wh y).l.length:Nat):Int)=0:=h38_5;have h2:(wh y).l.length=0:=by omega
       have h3:y.natAbs=0:=(xe2 xa0).1 (zco.1 h2);omega
      refine A7 ?_;exact E1 rfl rfl (zau (by simp only [Fr.valid,ix,iy,zbf hy0,Bool.and_false,zdz]))
     ·
      have h5: ¬(((wh y).l.length:Nat):Int)=0:=h38_5;have hy0:0 < y:=zm5 h38_4 (by omega);refine A3 ?_;refine xp2 (k:=1) (e':=⟨142,4,true,[.val (tTm ⟨wh x,wh y⟩)]⟩) rfl rfl ?_;refine A2 ?_;refine R1 (x3 (yw2 _) fi207 rfl) rfl ?_;refine A1 ?_;refine RGcase (t:=35) rfl (fun h41=> ?_) (fun h41=> ?_)
      ·
       have hy1:y=1:=by have h:=zdt h41;exact yj2 (h.trans xv0.symm)
       refine A13 ?_;exact E1 rfl rfl (zau (by simp only [Fr.valid,ix,iy,hs,hv1,hv2,zec];rw [hy1];simp))
      ·
       have hy1: ¬y=1:=fun h=>of_decide_eq_false h41 (by show wh y=_;rw [h,xv0]);refine A2 ?_;refine xg1 h41 rfl rfl (0) ti39 rfl rfl rfl (At.t (At.g 0 rfl rfl) (At.g 0 rfl rfl)) rfl ?_;refine A2 ?_;refine xg1 h41 rfl rfl (0) ti39 rfl rfl rfl (At.t (At.g 0 rfl rfl) (At.g 1 rfl rfl)) rfl (Rg h41 rfl (x3 (yr5 x y hxl hyl) fi209 rfl) rfl qB (Rg h41 rfl (x3 (qf1 _) fi208 rfl) rfl qA ?_));refine A5 ?_;exact E1 rfl rfl (zau (by simp only [Fr.valid,ix,iy,hs,hv1,hv2,zbg hy0,zec];exact qc2))
theorem zv1 (f:Fr) (hn:Dig 65536 f.n.l) (hd:Dig 65536 f.d.l):
  Ct Tryz.prog 49 [tFr f] (tB f.valid):=by
 refine Ct.intro func49 rfl ntmps49 rfl ?_;intro w F;refine A9 ?_;refine R1 (xb7 (r:=tS [⟨4,true,tFr f⟩]) (ts:=[(0,tFr f)]) bu142 zr142.2 (Bc 0 rfl rfl rfl zao)) rfl (R1 (x3 (je0 f hn hd) fi130 rfl) rfl ?_);refine A4 ?_;exact E1 rfl rfl zao
theorem zn6 (q:Rat) (h:short q):Ct Tryz.prog 49 [tFr (fr q)] (tB true):=by
 have:=zv1 (fr q) (xc3 xa0 _) (xc3 xa0 _);rw [zu2 h] at this;exact this
theorem zt3 (q:Rat) (h:short q):
  Ct Tryz.prog 211 [tFr (fr q)] (tB false):=by
 refine Ct.intro func211 rfl ntmps211 rfl ?_;intro w F;refine A9 ?_;refine R1 (x3 (zn6 q h) fi49 rfl) rfl ?_;refine A5 ?_;exact E1 rfl rfl zao
theorem xp9 {α:Type} {l:List α} {i:Nat} {d:α} (h:i < l.length):l.getD i d∈l:=by
 rw [zbh,zbk h];exact zdw h
theorem j7 (qs:List Rat) (h: ∀q∈qs,short q):
  Ct Tryz.prog 281 [tL 4 true (fun q:Rat=>tFr (fr q)) qs,tE (.func (.func 211) #[] #[])] (tI (-1)):=by
 refine Ct.intro func281 rfl ntmps281 rfl ?_;intro w F;refine xj5 (s:=0) rfl (fun hl0=> ?_);refine A14 ?_;refine cL (fun (i:Nat)=>i<=qs.length) (fun (i:Nat)=>uV (uV (uV (uV uN 0 (tL 4 true (fun q:Rat=>tFr (fr q)) qs)) 1 (tE (.func (.func 211) #[] #[]))) 7 (tI qs.length)) 8 (tI i)) (fun (i:Nat)=>fun _=>none) [] (fun (i:Nat)=>qs.length - i) (0) (zbs _) ?_;intro i hI;refine A6 ?_;refine xa6 rfl (fun h108=> ?_) (fun h108=> ?_)
 ·
  refine A15 ?_;refine R2 (x8 sl71 i (by omega) (zai (l:=qs) (n:=i) (d:=0))) rfl rfl ?_;refine A1 ?_;refine R2 (zk0 (zt3 (qs.getD i 0) (h _ (xp9 (by omega)))) fi211 rfl) rfl rfl ?_;refine A10 ?_;exact kF (i+1) ⟨(by omega),(by omega)⟩
 ·
  refine A11 ?_;exact E1 rfl rfl zao
theorem qa5 (qs:List Rat) (h: ∀q∈qs,short q):
  Ct Tryz.prog 210 [tL 4 true (fun q:Rat=>tFr (fr q)) qs,tE (.func (.func 211) #[] #[])] (tB false):=by
 refine Ct.intro func210 rfl ntmps210 rfl ?_;intro w F;refine A9 ?_;refine R2 (x3 (j7 qs h) fi281 rfl) rfl rfl ?_;refine A5 ?_;exact E1 rfl rfl (zau rfl)
theorem xn1 (qs:List Rat) (h: ∀q∈qs,short q):
  Ct Tryz.prog 131 [tL 4 true (fun q:Rat=>tFr (fr q)) qs] (tB true):=by
 refine Ct.intro func131 rfl ntmps131 rfl ?_;intro w F;refine A8 ?_;refine R2 (x3 (qa5 qs h) fi210 rfl) rfl rfl ?_;refine A5 ?_;exact E1 rfl rfl zao
theorem xv2 (a b:Rat):Rat.divInt (a.num*b.num) ((a.den:Int)*(b.den:Int))=a*b:=by
 rw [Rat.mul_def,<-zdr,Rat.divInt_ofNat,Rat.normalize_eq_mkRat]
theorem za7 (a b:Rat):Rat.divInt (a.num*(b.den:Int)+b.num*(a.den:Int)) ((a.den:Int)*(b.den:Int))=a+b:=by
 rw [Rat.add_def,<-zdr,Rat.divInt_ofNat,Rat.normalize_eq_mkRat]
theorem yb1 (a b:Rat):Rat.divInt (a.num*(b.den:Int)+ -(b.num*(a.den:Int))) ((a.den:Int)*(b.den:Int))=a - b:=by
 rw [Rat.sub_def,<-zdr,Rat.divInt_ofNat,Rat.normalize_eq_mkRat,Int.sub_eq_add_neg]
theorem xu3 {a b:Rat}:((a.den:Int)*(b.den:Int))≠0:=by
 have h1:=a.den_nz;have h2:=b.den_nz;exact Int.mul_ne_zero (by omega) (by omega)
theorem qu3 (a b:Rat) (ha:short a) (hb:short b):
  Ct Tryz.prog 127 [tFr (fr a),tFr (fr b)] (tT [tFr (resF (a*b)),tI (resFE (a*b))]):=by
 obtain ⟨an,ad⟩:=ha;obtain ⟨bn,bd⟩:=hb;have hbd:=b.den_nz;have had:=a.den_nz;have m1:len16 (a.num*b.num)<=256+256:=len16_mul an bn;have m2:len16 ((a.den:Int)*(b.den:Int))<=256+256:=len16_mul ad bd;have ha:short a:=⟨an,ad⟩
 have hb:short b:=⟨bn,bd⟩
 refine Ct.intro func127 rfl ntmps127 rfl ?_;intro w F;refine A4 ?_;refine RE (xa3 (k:=4) (n:=4) (agg:=true) zr41.1 zr41.2 rfl) trivial trivial qA ?_;refine A8 ?_;refine R2 (xb6 (n:=2) (f:=fun q:Rat=>tFr (fr q)) [a,b] zhc el41 zf41 rfl (fun _=>inferInstance) rfl rfl rfl) rfl rfl (R1 (x3 (xn1 [a,b] (by simp;exact ⟨ha,hb⟩)) fi131 rfl) rfl ?_);refine A12 ?_;refine R2 (x3 (xg2 (a.num) (b.num) (by omega) (by omega) (by omega)) fi133 rfl) rfl rfl ?_;refine A4 ?_;refine R2 (x3 (xg2 ((a.den:Int)) ((b.den:Int)) (by omega) (by omega) (by omega)) fi133 rfl) rfl rfl (R2 (x3 (yn3 _ _ (by omega) (by omega) xu3) fi201 rfl) rfl rfl (R1 (x3 (yg6 _) fi202 rfl) rfl ?_));refine A7 ?_;exact EN (rs:=[.cell 4 41,.tmp 5]) rfl rfl ⟨⟨_,_,_,_,_,rfl,rfl,ti41,(Le.of (by rw [xp1,xv2];by_cases hs:short (a*b) <;> simp [resF,hs]))⟩,⟨_,rfl,(zba (by rw [xp1,xv2];by_cases hs:short (a*b) <;> simp [resFE,hs]))⟩,trivial⟩
theorem c_FAdd (a b:Rat) (ha:short a) (hb:short b):
  Ct Tryz.prog 164 [tFr (fr a),tFr (fr b)] (tT [tFr (resF (a+b)),tI (resFE (a+b))]):=by
 obtain ⟨an,ad⟩:=ha;obtain ⟨bn,bd⟩:=hb;have hbd:=b.den_nz;have had:=a.den_nz;have m1:len16 (a.num*(b.den:Int))<=256+256:=len16_mul an bd;have m2:len16 (b.num*(a.den:Int))<=256+256:=len16_mul bn ad;have m3:len16 ((a.den:Int)*(b.den:Int))<=256+256:=len16_mul ad bd;have m4:=len16_add m1 m2;have ha:short a:=⟨an,ad⟩
 have hb:short b:=⟨bn,bd⟩
 refine Ct.intro func164 rfl ntmps164 rfl ?_;intro w F;refine A4 ?_;refine RE (xa3 (k:=4) (n:=4) (agg:=true) zr41.1 zr41.2 rfl) trivial trivial qA ?_;refine A8 ?_;refine R2 (xb6 (n:=2) (f:=fun q:Rat=>tFr (fr q)) [a,b] zhc el41 zf41 rfl (fun _=>inferInstance) rfl rfl rfl) rfl rfl (R1 (x3 (xn1 [a,b] (by simp;exact ⟨ha,hb⟩)) fi131 rfl) rfl ?_);refine A12 ?_;refine R2 (x3 (xg2 (a.num) ((b.den:Int)) (by omega) (by omega) (by omega)) fi133 rfl) rfl rfl ?_;refine A4 ?_;refine R2 (x3 (xg2 (b.num) ((a.den:Int)) (by omega) (by omega) (by omega)) fi133 rfl) rfl rfl (R2 (x3 (yk2 (a.num*(b.den:Int)) (b.num*(a.den:Int)) (by omega) (by omega) (by omega)) fi203 rfl) rfl rfl ?_);refine A4 ?_;refine R2 (x3 (xg2 ((a.den:Int)) ((b.den:Int)) (by omega) (by omega) (by omega)) fi133 rfl) rfl rfl (R2 (x3 (yn3 _ _ (by omega) (by omega) xu3) fi201 rfl) rfl rfl (R1 (x3 (yg6 _) fi202 rfl) rfl ?_));refine A7 ?_;exact EN (rs:=[.cell 4 41,.tmp 5]) rfl rfl ⟨⟨_,_,_,_,_,rfl,rfl,ti41,(Le.of (by rw [xp1,za7];by_cases hs:short (a+b) <;> simp [resF,hs]))⟩,⟨_,rfl,(zba (by rw [xp1,za7];by_cases hs:short (a+b) <;> simp [resFE,hs]))⟩,trivial⟩
theorem c_FSub (a b:Rat) (ha:short a) (hb:short b):
  Ct Tryz.prog 128 [tFr (fr a),tFr (fr b)] (tT [tFr (resF (a - b)),tI (resFE (a - b))]):=by
 obtain ⟨an,ad⟩:=ha;obtain ⟨bn,bd⟩:=hb;have hbd:=b.den_nz;have had:=a.den_nz;have m1:len16 (a.num*(b.den:Int))<=256+256:=len16_mul an bd;have m2:len16 (b.num*(a.den:Int))<=256+256:=len16_mul bn ad;have m3:len16 ((a.den:Int)*(b.den:Int))<=256+256:=len16_mul ad bd;have m2n:=len16_neg (b.num*(a.den:Int));have m4:=len16_add m1 (m2n▸m2);have ha:short a:=⟨an,ad⟩
 have hb:short b:=⟨bn,bd⟩
 refine Ct.intro func128 rfl ntmps128 rfl ?_;intro w F;refine A4 ?_;refine RE (xa3 (k:=4) (n:=4) (agg:=true) zr41.1 zr41.2 rfl) trivial trivial qA ?_;refine A8 ?_;refine R2 (xb6 (n:=2) (f:=fun q:Rat=>tFr (fr q)) [a,b] zhc el41 zf41 rfl (fun _=>inferInstance) rfl rfl rfl) rfl rfl (R1 (x3 (xn1 [a,b] (by simp;exact ⟨ha,hb⟩)) fi131 rfl) rfl ?_);refine A12 ?_;refine R2 (x3 (xg2 (a.num) ((b.den:Int)) (by omega) (by omega) (by omega)) fi133 rfl) rfl rfl ?_;refine A4 ?_;refine R2 (x3 (xg2 (b.num) ((a.den:Int)) (by omega) (by omega) (by omega)) fi133 rfl) rfl rfl (R1 (x3 (xr3 (b.num*(a.den:Int)) (by omega)) fi204 rfl) rfl (R2 (x3 (yk2 (a.num*(b.den:Int)) (-(b.num*(a.den:Int))) (by omega) (by omega) (by omega)) fi203 rfl) rfl rfl ?_));refine A4 ?_;refine R2 (x3 (xg2 ((a.den:Int)) ((b.den:Int)) (by omega) (by omega) (by omega)) fi133 rfl) rfl rfl (R2 (x3 (yn3 _ _ (by omega) (by omega) xu3) fi201 rfl) rfl rfl (R1 (x3 (yg6 _) fi202 rfl) rfl ?_));refine A7 ?_;exact EN (rs:=[.cell 4 41,.tmp 5]) rfl rfl ⟨⟨_,_,_,_,_,rfl,rfl,ti41,(Le.of (by rw [xp1,yb1];by_cases hs:short (a - b) <;> simp [resF,hs]))⟩,⟨_,rfl,(zba (by rw [xp1,yb1];by_cases hs:short (a - b) <;> simp [resFE,hs]))⟩,trivial⟩
theorem c_FCmp (a b:Rat) (ha:short a) (hb:short b):
  Ct Tryz.prog 50 [tFr (fr a),tFr (fr b)] (tI (cmpQ a b)):=by
 obtain ⟨an,ad⟩:=ha;obtain ⟨bn,bd⟩:=hb;have hbd:=b.den_nz;have had:=a.den_nz;have m1:len16 (a.num*(b.den:Int))<=256+256:=len16_mul an bd;have m2:len16 (b.num*(a.den:Int))<=256+256:=len16_mul bn ad;have ha:short a:=⟨an,ad⟩
 have hb:short b:=⟨bn,bd⟩
 refine Ct.intro func50 rfl ntmps50 rfl ?_;intro w F;refine A12 ?_;refine R2 (xb6 (n:=2) (f:=fun q:Rat=>tFr (fr q)) [a,b] zhc el41 zf41 rfl (fun _=>inferInstance) rfl rfl rfl) rfl rfl (R1 (x3 (xn1 [a,b] (by simp;exact ⟨ha,hb⟩)) fi131 rfl) rfl ?_);refine A12 ?_;refine R2 (x3 (xg2 (a.num) ((b.den:Int)) (by omega) (by omega) (by omega)) fi133 rfl) rfl rfl ?_;refine A4 ?_;refine R2 (x3 (xg2 (b.num) ((a.den:Int)) (by omega) (by omega) (by omega)) fi133 rfl) rfl rfl (R2 (x3 (qm2 (a.num*(b.den:Int)) (b.num*(a.den:Int)) (by omega) (by omega)) fi132 rfl) rfl rfl ?_);refine A4 ?_;exact E1 rfl rfl (zba (qe4 a b))
theorem xv5 (n:Int) (h1: -9223372036854775808<=n) (h2:n<=9223372036854775807):
  Ct Tryz.prog 51 [tI n] (tFr (fr (n:Rat))):=by
 refine Ct.intro func51 rfl ntmps51 rfl ?_;intro w F;refine A2 ?_;refine RE (xa3 (k:=2) (n:=4) (agg:=true) zr41.1 zr41.2 rfl) trivial trivial qA ?_;refine A5 ?_;refine R1 (x3 (zm4 n h1 h2) fi134 rfl) rfl (R1 (x3 (zm4 1 (by decide) (by decide)) fi134 rfl) rfl (R2 (xb7 (r:=tS [⟨2,true,tWh (wh n)⟩,⟨2,true,tWh (wh 1)⟩]) (ts:=[(0,tWh (wh n)),(1,tWh (wh 1))]) bu41 zr41.2 (Bc 0 rfl rfl rfl (Bc 1 rfl rfl rfl zao))) rfl rfl ?_));refine A4 ?_;exact EC rfl ⟨_,_,_,_,_,rfl,rfl,ti41,(Le.of (by rw [fr,Rat.num_intCast,Rat.den_intCast];rfl))⟩
theorem c_FInt (q:Rat) (h:short q):
  Ct Tryz.prog 142 [tFr (fr q)] (tT [tI (if q.den=1/\fits q.num=true then q.num else 0),tI (if q.den=1 then (if fits q.num then 0 else 3) else 22)]):=by
 obtain ⟨qn,qd⟩:=h;have h:short q:=⟨qn,qd⟩
 refine Ct.intro func142 rfl ntmps142 rfl ?_;intro w F;refine A11 ?_;refine R1 (x3 (zn6 q h) fi49 rfl) rfl ?_;refine A10 ?_;refine R1 (xb7 (r:=tS [⟨4,true,tFr (fr q)⟩]) (ts:=[(0,tFr (fr q))]) bu142 zr142.2 (Bc 0 rfl rfl rfl zao)) rfl (R1 (x3 (yw2 _) fi207 rfl) rfl ?_);refine A3 ?_;refine xc7 rfl (fun h248=> ?_) (fun h248=> ?_)
 ·
  have hd1: ¬q.den=1:=fun hh=>by
   have e:(fr q).d=⟨false,[1]⟩:=by show wh (q.den:Int)=_;rw [hh];exact xv0
   rw [e] at h248;simp at h248
  refine A8 ?_;exact E2 rfl rfl rfl (zba (by rw [if_neg (fun hh=>hd1 hh.1)])) (zba (by rw [if_neg hd1]))
 ·
  have hd1:q.den=1:=by
   have e:(fr q).d=⟨false,[1]⟩:=by simpa using h248
   have e2:wh (q.den:Int)=wh 1:=e.trans xv0.symm;have:=yj2 e2;omega
  refine A6 ?_;refine R1 (x3 (c_WInt q.num (by omega)) fi175 rfl) rfl ?_;refine A7 ?_;exact E2 rfl rfl rfl (zba (by by_cases hf:fits q.num=true <;> simp [hf,hd1])) (zba (by rw [if_pos hd1]))
instance ti239:TyI Tryz.prog 239 3 true:=⟨by kernel_rfl,by kernel_rfl⟩
instance ti240:TyI Tryz.prog 240 1 false:=⟨by kernel_rfl,by kernel_rfl⟩
instance ti241:TyI Tryz.prog 241 6 true:=⟨by kernel_rfl,by kernel_rfl⟩
instance fi220:FnI Tryz.prog 220:=⟨_,func220,by kernel_rfl,rfl⟩
instance fi221:FnI Tryz.prog 221:=⟨_,func221,by kernel_rfl,rfl⟩
instance fi223:FnI Tryz.prog 223:=⟨_,func223,by kernel_rfl,rfl⟩
instance fi288:FnI Tryz.prog 288:=⟨_,func288,by kernel_rfl,rfl⟩
theorem zr239:(Tryz.prog.info? 239).bind (·.zero)=some (.agg #[.bool false,.bool false,.int .i64 0])/\ ∀F w,(tS [⟨1,false,(tE (.bool false))⟩,⟨1,false,(tE (.bool false))⟩,⟨1,false,(tE (.int .i64 0))⟩]).p F w (.agg #[.bool false,.bool false,.int .i64 0]):=⟨by kernel_rfl,fun _ _=>⟨_,rfl,rfl,⟨fun _=>rfl,rfl⟩,⟨fun _=>rfl,rfl⟩,⟨fun _=>rfl,rfl⟩,trivial⟩⟩
theorem bu239:BuI Tryz.prog 239 (fun i=>[(0,1),(1,1),(2,1)][i]?) (.agg #[.bool false,.bool false,.int .i64 0]):=BuI.struct underlying239 (by kernel_rfl) (by kernel_rfl)
theorem zf241:Flat 6 true (.agg #[.nilFunc,.nilFunc,.nilFunc,.nilFunc,.nilFunc,.nilFunc]):=xn3 (by intro u hu;simp at hu;rcases hu with rfl | rfl | rfl | rfl | rfl | rfl <;> rfl)
theorem c_up3 (p q:Bool) (h:Int):
  Ct Tryz.prog 288 [tS [⟨1,false,tB p⟩,⟨1,false,tB q⟩,⟨1,false,tI h⟩]] (tB false):=by
 refine Ct.intro func288 rfl ntmps288 rfl ?_;intro w F;refine A12 ?_;exact E1 rfl rfl zao
theorem jr0:Flat 6 true (.agg #[.func (.func 286) #[] #[],.func (.func 287) #[] #[],.func (.func 288) #[] #[],.func (.func 289) #[] #[],.func (.func 290) #[] #[],.func (.func 291) #[] #[]]):=xn3 (by intro u hu;simp at hu;rcases hu with rfl | rfl | rfl | rfl | rfl | rfl <;> rfl)
theorem zk2:
  Ct Tryz.prog 223 [] (tE (.agg #[.func (.func 286) #[] #[],.func (.func 287) #[] #[],.func (.func 288) #[] #[],.func (.func 289) #[] #[],.func (.func 290) #[] #[],.func (.func 291) #[] #[]])):=by
 refine Ct.intro func223 rfl ntmps223 rfl ?_;intro w F;refine A2 ?_;refine RE (xa3 (k:=0) (n:=6) (agg:=true) (t:=tE (.agg #[.nilFunc,.nilFunc,.nilFunc,.nilFunc,.nilFunc,.nilFunc])) (z:= .agg #[.nilFunc,.nilFunc,.nilFunc,.nilFunc,.nilFunc,.nilFunc]) (by kernel_rfl) (fun _ _=>rfl) (he:=shapeE zf241) rfl) trivial trivial qA ?_;refine A4 ?_;refine Rt (z6 (vs:=[.func (.func 286) #[] #[],.func (.func 287) #[] #[],.func (.func 288) #[] #[],.func (.func 289) #[] #[],.func (.func 290) #[] #[],.func (.func 291) #[] #[]]) (r:= .agg #[.func (.func 286) #[] #[],.func (.func 287) #[] #[],.func (.func 288) #[] #[],.func (.func 289) #[] #[],.func (.func 290) #[] #[],.func (.func 291) #[] #[]]) rfl (fun w=>by kernel_rfl)) ⟨rfl,rfl,rfl,rfl,rfl,rfl,trivial⟩ (RE (xa8 (es:=6) (agg:=true) (he:=shapeEE jr0) (0) ti241 rfl rfl rfl) qB qA trivial ?_);refine A3 ?_;exact EC rfl ⟨_,_,_,_,_,rfl,rfl,ti241,zao⟩
theorem zd5 (k:Int) (u:Rat):Rat.divInt (k*u.num) (u.den:Int)=(k:Rat)*u:=by
 have h:=xv2 (k:Rat) u;rw [Rat.num_intCast,Rat.den_intCast] at h;rw [<-h];simp
theorem qq6 (a u:Rat) (ha:short a) (hu:short u) (hun:0 < u.num):
  Ct Tryz.prog 141 [tFr (fr a),tFr (fr u),tE (.int .u8 3)] (tT [tFr (resF (((((a.num*(u.den:Int)) / ((a.den:Int)*u.num)):Int):Rat)*u)),tI (resFE (((((a.num*(u.den:Int)) / ((a.den:Int)*u.num)):Int):Rat)*u))]):=by
 obtain ⟨an,ad⟩:=ha;obtain ⟨un,ud⟩:=hu;have had:=a.den_nz;have hud:=u.den_nz;have hY:0 < ((a.den:Int)*u.num):=Int.mul_pos (by omega) hun;have m1:len16 (a.num*(u.den:Int))<=256+256:=len16_mul an ud;have m2:len16 ((a.den:Int)*u.num)<=256+256:=len16_mul ad un;have m3:len16 ((a.num*(u.den:Int)) / ((a.den:Int)*u.num))<=512:=len16_div m1;have m4:len16 ((a.num*(u.den:Int))%((a.den:Int)*u.num))<=512:=zce (len16_le (by have h1:=Int.emod_nonneg (a.num*(u.den:Int)) (Int.ne_of_gt hY);have h2:=Int.emod_lt_of_pos (a.num*(u.den:Int)) hY;omega)) m2;have m5:len16 (((a.num*(u.den:Int))%((a.den:Int)*u.num))+((a.num*(u.den:Int))%((a.den:Int)*u.num)))<=512+1:=len16_add m4 m4;have m6:len16 (((a.num*(u.den:Int)) / ((a.den:Int)*u.num))*u.num)<=512+256:=len16_mul m3 un;have ha:short a:=⟨an,ad⟩
 have hu:short u:=⟨un,ud⟩
 refine Ct.intro func141 rfl ntmps141 rfl ?_;intro w F;refine A4 ?_;refine RE (xa3 (k:=6) (n:=4) (agg:=true) zr41.1 zr41.2 rfl) trivial trivial qA ?_;refine A8 ?_;refine R2 (xb6 (n:=2) (f:=fun q:Rat=>tFr (fr q)) [a,u] zhc el41 zf41 rfl (fun _=>inferInstance) rfl rfl rfl) rfl rfl (R1 (x3 (xn1 [a,u] (by simp;exact ⟨ha,hu⟩)) fi131 rfl) rfl ?_);refine A6 ?_;refine Rg (zbf (by omega)) rfl xa4 rfl qA (Rg (zbf (by omega)) rfl qk1 rfl qB (R2 (xc8 (zbf (by omega))) rfl rfl ?_));refine A2 ?_;refine xi9 rfl (zbf (by omega)) ?_;refine A6 ?_;refine R1 (xb7 (r:=tS [⟨4,true,tFr (fr u)⟩]) (ts:=[(0,tFr (fr u))]) bu142 zr142.2 (Bc 0 rfl rfl rfl zao)) rfl (R1 (x3 (jp5 _) fi220 rfl) rfl ?_);refine A1 ?_;refine RGon (zbf (by (intro h;have h2:u.num.natAbs=0:=(xe2 xa0).1 (zco.1 h);omega))) rfl (x7 (0) ti41 rfl rfl) rfl qA qA trivial (Rg (zbf (by (intro h;have h2:u.num.natAbs=0:=(xe2 xa0).1 (zco.1 h);omega))) rfl (xb7 (r:=tS [⟨4,true,tFr (fr u)⟩]) (ts:=[(0,tFr (fr u))]) bu142 zr142.2 (Bc 0 rfl rfl rfl zao)) rfl qA (Rg (zbf (by (intro h;have h2:u.num.natAbs=0:=(xe2 xa0).1 (zco.1 h);omega))) rfl (x3 (yw1 _) fi221 rfl) rfl qA (R2 (xc8 (zbf (by (intro h;have h2:u.num.natAbs=0:=(xe2 xa0).1 (zco.1 h);omega)))) rfl rfl ?_)));refine A2 ?_;refine xi9 rfl (by (exact zbf (by omega))) ?_;refine A8 ?_;refine R2 (x3 (xg2 (a.den:Int) u.num (by omega) (by omega) (by omega)) fi133 rfl) rfl rfl (RE (xa3 (k:=8) (n:=2) (agg:=true) zr39.1 zr39.2 rfl) trivial trivial qA ?_);refine A9 ?_;refine R2 (x3 (xg2 a.num (u.den:Int) (by omega) (by omega) (by omega)) fi133 rfl) rfl rfl ?_;refine A1 ?_;refine R2 (x3 (yr4 (a.num*(u.den:Int)) ((a.den:Int)*u.num) (by omega) (by omega) hY) fi222 rfl) rfl rfl ?_;refine A3 ?_;refine RE (xa3 (k:=9) (n:=2) (agg:=true) zr39.1 zr39.2 rfl) trivial trivial qA (RE (xa3 (k:=10) (n:=2) (agg:=true) zr39.1 zr39.2 rfl) trivial trivial qA ?_);refine A4 ?_;refine xh3 (fun (_j:Unit)=>True) (fun (_j:Unit)=>uO (uO (uO (uO uN 3 (.ptr 3 0)) 4 (.ptr 4 0)) 6 (.ptr 6 0)) 9 (.ptr 9 0)) (fun (_j:Unit)=>uK (uK (uK (uK uN 3 41 4 true [.val (tFr (fr a))]) 4 41 4 true [.val (tFr (fr u))]) 6 41 4 true [.val (tFr fr0)]) 9 39 2 true [.val (tWh (wh ((a.num*(u.den:Int)) / ((a.den:Int)*u.num))))]) (nm [3,4,6,9]) ?_ ?_
 ·
  refine A8 ?_;refine xa6 rfl (fun h37=> ?_) (fun h37=> ?_)
  ·
   refine A3 ?_;refine R1 (xb7 (r:=tS [⟨4,true,tFr (fr a)⟩]) (ts:=[(0,tFr (fr a))]) bu142 zr142.2 (Bc 0 rfl rfl rfl zao)) rfl (R1 (x3 (yw1 _) fi221 rfl) rfl ?_);refine A5 ?_;refine RGcaseD (t:=61) rfl (fun h38=> ?_) (fun h38=> ?_)
   ·
    refine A2 ?_;refine Rg (zbg h38) rfl (x8 sl37 (0) (by omega) (gN (by omega))) rfl qB ?_;refine A1 ?_;refine Rg (zbg h38) rfl (ze3 (by omega) (by omega)) rfl qB ?_;refine A4 ?_;refine R2 (x3 (yk2 ((a.num*(u.den:Int))%((a.den:Int)*u.num)) ((a.num*(u.den:Int))%((a.den:Int)*u.num)) (by omega) (by omega) (by omega)) fi203 rfl) rfl rfl ?_;refine A1 ?_;refine R2 (x3 (qm2 (((a.num*(u.den:Int))%((a.den:Int)*u.num))+((a.num*(u.den:Int))%((a.den:Int)*u.num))) ((a.den:Int)*u.num) (by omega) (by omega)) fi132 rfl) rfl rfl (R3 (xb7 (r:=tS [⟨1,false,tB (fr a).n.neg⟩,⟨1,false,tB (decide (((((wh ((a.num*(u.den:Int)) / ((a.den:Int)*u.num))).l.getD 0 0:Nat):Int)%2)=1))⟩,⟨1,false,tI (cmpZ (((a.num*(u.den:Int))%((a.den:Int)*u.num))+((a.num*(u.den:Int))%((a.den:Int)*u.num))) ((a.den:Int)*u.num))⟩]) (ts:=[(0,tB (fr a).n.neg),(1,tB (decide (((((wh ((a.num*(u.den:Int)) / ((a.den:Int)*u.num))).l.getD 0 0:Nat):Int)%2)=1))),(2,tI (cmpZ (((a.num*(u.den:Int))%((a.den:Int)*u.num))+((a.num*(u.den:Int))%((a.den:Int)*u.num))) ((a.den:Int)*u.num)))]) bu239 zr239.2 (Bc 0 rfl rfl rfl (Bc 1 rfl rfl rfl (Bc 2 rfl rfl rfl zao)))) rfl rfl rfl (RE (xa3 (k:=11) (n:=3) (agg:=true) zr239.1 zr239.2 rfl) trivial trivial qA ?_));refine A5 ?_;refine R0 (x3 zk2 fi223 rfl) ?_;refine A1 ?_;refine R2 (xf9 (r:=2) (by decide)) rfl rfl (R2 (qn3 2 underlying241 ti240 rfl (by decide) rfl) rfl rfl ?_);refine A1 ?_;refine R2 (zk0 (c_up3 _ _ _) fi288 rfl) rfl rfl ?_;refine A4 ?_;exact kF (()) trivial
   ·
    refine A9 ?_;refine R2 (x3 (yk2 ((a.num*(u.den:Int))%((a.den:Int)*u.num)) ((a.num*(u.den:Int))%((a.den:Int)*u.num)) (by omega) (by omega) (by omega)) fi203 rfl) rfl rfl ?_;refine A1 ?_;refine R2 (x3 (qm2 (((a.num*(u.den:Int))%((a.den:Int)*u.num))+((a.num*(u.den:Int))%((a.den:Int)*u.num))) ((a.den:Int)*u.num) (by omega) (by omega)) fi132 rfl) rfl rfl (R3 (xb7 (r:=tS [⟨1,false,tB (fr a).n.neg⟩,⟨1,false,tB false⟩,⟨1,false,tI (cmpZ (((a.num*(u.den:Int))%((a.den:Int)*u.num))+((a.num*(u.den:Int))%((a.den:Int)*u.num))) ((a.den:Int)*u.num))⟩]) (ts:=[(0,tB (fr a).n.neg),(1,tB false),(2,tI (cmpZ (((a.num*(u.den:Int))%((a.den:Int)*u.num))+((a.num*(u.den:Int))%((a.den:Int)*u.num))) ((a.den:Int)*u.num)))]) bu239 zr239.2 (Bc 0 rfl rfl rfl (Bc 1 rfl rfl rfl (Bc 2 rfl rfl rfl zao)))) rfl rfl rfl (RE (xa3 (k:=11) (n:=3) (agg:=true) zr239.1 zr239.2 rfl) trivial trivial qA ?_));refine A5 ?_;refine R0 (x3 zk2 fi223 rfl) ?_;refine A1 ?_;refine R2 (xf9 (r:=2) (by decide)) rfl rfl (R2 (qn3 2 underlying241 ti240 rfl (by decide) rfl) rfl rfl ?_);refine A1 ?_;refine R2 (zk0 (c_up3 _ _ _) fi288 rfl) rfl rfl ?_;refine A4 ?_;exact kF (()) trivial
  ·
   refine A1 ?_;exact kF (()) trivial
 ·
  intro _j hj;refine A5 ?_;refine R2 (x3 (xg2 ((a.num*(u.den:Int)) / ((a.den:Int)*u.num)) u.num (by omega) (by omega) (by omega)) fi133 rfl) rfl rfl ?_;refine A2 ?_;refine R2 (x3 (yn3 _ _ (by omega) (by omega) (by omega)) fi201 rfl) rfl rfl (R1 (x3 (yg6 _) fi202 rfl) rfl ?_);refine A7 ?_;exact EN (rs:=[.cell 6 41,.tmp 7]) rfl rfl ⟨⟨_,_,_,_,_,rfl,rfl,ti41,(Le.of (by rw [xp1,zd5];by_cases hs:short (((((a.num*(u.den:Int)) / ((a.den:Int)*u.num)):Int):Rat)*u) <;> simp [resF,hs]))⟩,⟨_,rfl,(zba (by rw [xp1,zd5];by_cases hs:short (((((a.num*(u.den:Int)) / ((a.den:Int)*u.num)):Int):Rat)*u) <;> simp [resFE,hs]))⟩,trivial⟩
end An.S
namespace An
open Go
structure Deal where
  lo:Int
  hi:Int
  share:Fr
  acc:Int
def deal0:Deal:=⟨0,0,fr0,0⟩
abbrev tDeal (d:Deal):Ty:=tS [⟨1,false,tI d.lo⟩,⟨1,false,tI d.hi⟩,⟨4,true,tFr d.share⟩,⟨1,false,tI d.acc⟩]
abbrev tState (o:Int) (b p:List Int):Ty:=tS [⟨1,false,tI o⟩,⟨1,false,tIs b⟩,⟨1,false,tIs p⟩]
def Fr.dig (f:Fr):Prop:=Dig 65536 f.n.l/\Dig 65536 f.d.l
def Fr.rat (f:Fr):Rat:=Rat.divInt f.n.int f.d.int
theorem qw4 (q:Rat):(fr q).rat=q:=by
 have e1:(fr q).n.int=q.num:=xq7 _;have e2:(fr q).d.int=(q.den:Int):=xq7 _;rw [Fr.rat,e1,e2,Rat.divInt_ofNat,Rat.mkRat_self]
theorem Fr.of_valid' {f:Fr} (hD:f.dig) (h:f.valid=true):f=fr f.rat/\short f.rat:=by
 obtain ⟨q,hq,hs⟩:=Fr.of_valid hD.1 hD.2 h;subst hq;rw [qw4];exact ⟨rfl,hs⟩
def Deal.valid (d:Deal):Bool:=decide (0<=d.lo) && decide (d.lo<=d.hi) && decide (d.hi<=1048576) && d.share.valid && !d.share.n.neg && decide (d.share.rat<=1) && decide (d.share.n.l.length<=4) && decide (d.share.d.l.length<=4) && decide (1<=d.acc) && decide (d.acc<=1099511627776)
theorem Deal.valid_iff {d:Deal}:d.valid=true↔0<=d.lo/\d.lo<=d.hi/\d.hi<=1048576/\d.share.valid=true/\d.share.n.neg=false/\d.share.rat<=1/\d.share.n.l.length<=4/\d.share.d.l.length<=4/\1<=d.acc/\d.acc<=1099511627776:=by
 simp only [Deal.valid,zcf,zee,zen,and_assoc]
def validL (l:List Deal):Bool:=decide (l.length<=16) && l.all Deal.valid
def wIn (n:Int):Bool:=decide (-1099511627776<=n) && decide (n<=1099511627776)
theorem xd0 {n:Int}:wIn n=true↔ -1099511627776<=n/\n<=1099511627776:=by simp [wIn]
def take (q:Rat) (n:Int):Int:=(q*(n:Rat)).floor
theorem qb7 (q:Rat):(q.num*((1:Rat).den:Int)) / ((q.den:Int)*(1:Rat).num)=q.floor:=by
 rw [Rat.floor_def];simp
theorem yg7 {n:Int} (h:len16 n<=256):short (n:Rat):=by
 refine ⟨by rw [Rat.num_intCast];exact h,?_⟩;rw [Rat.den_intCast];show (wh 1).l.length<=256;rw [xv0];decide
theorem qs5 (a b:Rat):(a*b).num=a.num*b.num / ((Int.gcd (a.num*b.num) ((a.den:Int)*(b.den:Int)):Nat):Int)/\((a*b).den:Int)=(a.den:Int)*(b.den:Int) / ((Int.gcd (a.num*b.num) ((a.den:Int)*(b.den:Int)):Nat):Int):=by
 have h:=xt1 (n:=a.num*b.num) (d:=(a.den:Int)*(b.den:Int)) (Int.mul_pos (by have:=a.den_nz;omega) (by have:=b.den_nz;omega));have e:Rat.divInt (a.num*b.num) ((a.den:Int)*(b.den:Int))=a*b:=by
  rw [Rat.mul_def,<-zdr,Rat.divInt_ofNat,Rat.normalize_eq_mkRat]
 rw [e,fr] at h;injection h with h1 h2;exact ⟨yj2 h1,yj2 h2⟩
theorem ya6 {a b:Rat} {k l m n:Nat} (ha:len16 a.num<=k) (hb:len16 b.num<=l) (ha2:len16 a.den<=m) (hb2:len16 b.den<=n):len16 (a*b).num<=k+l/\len16 ((a*b).den:Int)<=m+n:=by
 obtain ⟨h1,h2⟩:=qs5 a b;exact ⟨h1▸len16_div (len16_mul ha hb),h2▸len16_div (len16_mul ha2 hb2)⟩
theorem len16_64 {n:Int} (h1: -9223372036854775808<=n) (h2:n<=9223372036854775807):len16 n<=4:=zv6 _ (by omega)
theorem qf9 {q:Rat} {n:Int} (h0:0<=q) (h1:q<=1):(0<=n->0<=take q n/\take q n<=n)/\(n<=0->n<=take q n/\take q n<=0):=by
 have key: ∀(x:Rat) (m:Int),(m:Rat)<=x->m<=x.floor:=fun x m h=>by
  rcases Int.lt_or_le x.floor m with h' | h'
  ·exact absurd h (Rat.not_le.2 (Rat.floor_lt_iff.1 h'))
  ·exact h'
 have key2: ∀(x:Rat) (m:Int),x<=(m:Rat)->x.floor<=m:=fun x m h=>by
  have:=Rat.floor_monotone h
  rwa [Rat.floor_intCast] at this
 refine ⟨fun hn=> ?_,fun hn=> ?_⟩
 ·have hn':(0:Rat)<=(n:Rat):=by exact_mod_cast hn
  refine ⟨key _ _ ?_,key2 _ _ ?_⟩
  ·simpa using Rat.mul_nonneg h0 hn'
  ·have:=Rat.mul_le_mul_of_nonneg_right h1 hn';simpa using this
 ·have hn':(0:Rat)<=((-n:Int):Rat):=by exact_mod_cast (show 0<= -n by omega)
  have e:((-n:Int):Rat)= -(n:Rat):=by simp
  rw [e] at hn';refine ⟨key _ _ ?_,key2 _ _ ?_⟩
  ·have:=Rat.mul_le_mul_of_nonneg_right h1 hn'
   grind
  ·have:=Rat.mul_nonneg h0 hn';simp
   grind
def rightL (l:List Deal) (o:Int) (b p:List Int):Bool:=
 validL l && decide (b.length=l.length) && decide (p.length=l.length) && wIn o && (List.range l.length).all fun i=>wIn (b.getD i 0) && decide (p.getD i 0=take (l.getD i deal0).share.rat (b.getD i 0))
structure Va where
  kind:Nat
  f:Fr
  i:Int
deriving DecidableEq
structure Sn where
  lo:Int
  hi:Int
deriving DecidableEq
structure Tst where
  lo:Int
  hi:Int
  v:Va
deriving DecidableEq
instance:Inhabited Sn:=⟨⟨0,0⟩⟩
def va0:Va:=⟨0,fr0,0⟩
def sn0:Sn:=⟨0,0⟩
def tst0:Tst:=⟨0,0,va0⟩
abbrev tVa (v:Va):Ty:=tS [⟨1,false,tE (.int .u8 (v.kind:Int))⟩,⟨4,true,tFr v.f⟩,⟨1,false,tI v.i⟩]
abbrev tSn (s:Sn):Ty:=tS [⟨1,false,tI s.lo⟩,⟨1,false,tI s.hi⟩]
abbrev tTs (s:Tst):Ty:=tS [⟨1,false,tI s.lo⟩,⟨1,false,tI s.hi⟩,⟨6,true,tVa s.v⟩]
def Va.valid (v:Va):Bool:=
 if v.kind=2∨v.kind=3 then decide (v.i=0) && v.f.valid
 else if v.kind=1 then decide (v.f=fr0) && decide (0<=v.i) && decide (v.i<=1)
 else if v.kind=4 then decide (v.f=fr0) && decide (0<=v.i) && decide (v.i < 65536)
 else if v.kind=5∨v.kind=6 then decide (v.f=fr0) && decide (-1048576<=v.i) && decide (v.i<=1048576)
 else false
def tOk (l:List Tst) (i:Nat):Bool:=
 decide (0<=(l.getD i tst0).lo) && decide ((l.getD i tst0).lo < (l.getD i tst0).hi) && decide ((l.getD i tst0).hi<=65536) &&
  (decide (i=0) || decide ((l.getD (i - 1) tst0).hi<=(l.getD i tst0).lo) && decide ((l.getD (i - 1) tst0).v.kind=(l.getD i tst0).v.kind) && !(decide ((l.getD (i - 1) tst0).hi=(l.getD i tst0).lo) && decide ((l.getD (i - 1) tst0).v=(l.getD i tst0).v)))
def tRight (l:List Tst):Bool:=(List.range l.length).all (tOk l) && l.all fun s=>s.v.valid
def sOk (s:Tst):Bool:=decide (s.v.kind=2) && !s.v.f.n.neg && decide (s.v.f.rat<=1)
def sRight (l:List Tst):Bool:=tRight l && l.all sOk
def Sn.ok (s:Sn):Bool:=decide (0<=s.lo) && decide (s.lo<=s.hi) && decide (s.hi<=65536)
theorem zv7 {P:Program} {c:Base} {g:Slots} {h:Keys} {al:Names} {Q:Exit->Act->World->Prop} {x:Code} {q Tq:Nat} {us us':List Ent} (k T es:Nat) (agg:Bool) (i:Nat) (hq:h q=some ⟨Tq,1,false,us⟩) (hi:us[i]? =some (.val (tE (.slice none 0 0)))) (hk:al k=false) (hes:Nat.blt 0 es=true) (hagg:agg=false->es=1) (hne:Nat.beq q k=false)
  (hus:us.set i (.own (.sl k es 0 0))=us') (H:wc P c x Q g (upd (upd h k (some ⟨T,es,agg,[]⟩)) q (some ⟨Tq,1,false,us'⟩)) (fun j=>Nat.beq j k || al j)):wc P c x Q g h al:=fun a w hs=>by
 obtain ⟨η,s⟩:=hs;subst hus;obtain ⟨η',s',hc,hoth⟩:=s.ghost k hk T es agg (by simpa using hes) hagg;have hqk:q≠k:=fun e=>by rw [e] at hne;simp at hne
 have hq':upd h k (some ⟨T,es,agg,[]⟩) q=some ⟨Tq,1,false,us⟩:=by rw [x4 _ _ _ hqk];exact hq
 refine H a w ⟨η',s'.same hq' rfl ?_ ?_⟩
 ·intro j hj;simp only [HEnt.supp,zbw] at hj;obtain ⟨e,he,hj⟩:=hj;obtain ⟨n,hn⟩:=zdq he;rcases List.getElem?_set_cases hn with ⟨_,rfl,_⟩ | ⟨_,hn'⟩
  ·simp only [Ent.supp,VP.supp,zbq] at hj;subst hj;simp
  ·exact (s'.key q _ hq').2.1 j (HEnt.mem_supp hn' hj)
 ·obtain ⟨k1,k2,k3,k4,k5⟩:=(s'.key q _ hq').2.2.1;refine ⟨by simpa using k1,k2,k3,k4,fun hc0=> ?_⟩;obtain ⟨cs,c1,c2,c3⟩:=k5 hc0;refine ⟨cs,c1,c2,fun n e hn=> ?_⟩;rcases List.getElem?_set_cases hn with ⟨rfl,rfl,_⟩ | ⟨_,hn'⟩
  ·have h6:_=_:=c3 n _ hi;refine ⟨none,?_,by simp [hc],fun hlt=>by rw [hc] at hlt;omega⟩;rw [hc];exact h6
  ·exact c3 n e hn'
end An
namespace An.S
open Go Go.Proofs An Tryz
instance fi86:FnI Tryz.prog 86:=⟨_,func86,by kernel_rfl,rfl⟩
instance fi173:FnI Tryz.prog 173:=⟨_,func173,by kernel_rfl,rfl⟩
instance fi263:FnI Tryz.prog 263:=⟨_,func263,by kernel_rfl,rfl⟩
theorem yj4 (l:List Nat) (k:Nat) (hk:k < l.length):l.take (k+1)=l.take k++[l.getD k 0]:=by
 rw [zcn hk,zbh,zbk hk];rfl
theorem qa3 (xs ys:List Nat):
  Ct Tryz.prog 263 [tLm xs,tLm ys] (tB (decide (xs=ys))):=by
 refine Ct.intro func263 rfl ntmps263 rfl ?_;intro w F;refine xj5 (s:=0) rfl (fun hl0=> ?_);refine A15 ?_;refine xa6 rfl (fun h9=> ?_) (fun h9=> ?_)
 ·
  refine A7 ?_;exact E1 rfl rfl (zau (zbf (fun h=>by rw [h] at h9;omega)).symm)
 ·
  have hll:xs.length=ys.length:=by omega
  refine A9 ?_;refine cL (fun (i:Nat)=>i<=xs.length/\xs.take i=ys.take i) (fun (i:Nat)=>uV (uV (uV uN 0 (tLm xs)) 1 (tLm ys)) 5 (tI i)) (fun (i:Nat)=>fun _=>none) [] (fun (i:Nat)=>xs.length - i) (0) ⟨zbs _,rfl⟩ ?_;intro i hI;obtain ⟨hi,ht⟩:=hI;refine A9 ?_;refine xa6 rfl (fun h12=> ?_) (fun h12=> ?_)
  ·
   refine A8 ?_;refine R2 (x8 sl37 (i) (by omega) (gN (by omega))) rfl rfl ?_;refine A3 ?_;refine R2 (x8 sl37 (i) (by omega) (gN (by omega))) rfl rfl ?_;refine A4 ?_;refine xa6 rfl (fun h13=> ?_) (fun h13=> ?_)
   ·
    refine A11 ?_;exact E1 rfl rfl (zau (zbf (fun h=>by rw [h] at h13;exact (h13 rfl))).symm)
   ·
    refine A8 ?_;exact kF (i+1) ⟨⟨by omega,by rw [yj4 xs i (by omega),yj4 ys i (by omega),ht,show xs.getD i 0=ys.getD i 0 from (by omega)]⟩,(by omega)⟩
  ·
   refine A11 ?_;exact E1 rfl rfl (zau (zbg (by rw [show i=xs.length by omega,zci,hll,zci] at ht;exact ht)).symm)
theorem yw4 (x y:Wh):
  Ct Tryz.prog 173 [tWh x,tWh y] (tB (decide (x=y))):=by
 refine Ct.intro func173 rfl ntmps173 rfl ?_;intro w F;refine A15 ?_;refine RGcase (t:=10) rfl (fun h81=> ?_) (fun h81=> ?_)
 ·
  refine A4 ?_;refine Rg h81 rfl (x3 (qa3 _ _) fi263 rfl) rfl qB ?_;refine A5 ?_;exact E1 rfl rfl (zau (by obtain ⟨a,b⟩:=x;obtain ⟨c,d⟩:=y;simp_all))
 ·
  refine A10 ?_;exact E1 rfl rfl (zau (by obtain ⟨a,b⟩:=x;obtain ⟨c,d⟩:=y;simp_all))
theorem zf6 (x y:Fr):
  Ct Tryz.prog 86 [tFr x,tFr y] (tB (decide (x=y))):=by
 refine Ct.intro func86 rfl ntmps86 rfl ?_;intro w F;refine A13 ?_;refine R2 (x3 (yw4 _ _) fi173 rfl) rfl rfl ?_;refine A1 ?_;refine RGcaseD (t:=10) rfl (fun h113=> ?_) (fun h113=> ?_)
 ·
  refine A4 ?_;refine Rg (zbg h113) rfl (x3 (yw4 _ _) fi173 rfl) rfl qB ?_;refine A5 ?_;exact E1 rfl rfl (zau (by obtain ⟨a,b⟩:=x;obtain ⟨c,d⟩:=y;simp_all))
 ·
  refine A10 ?_;exact E1 rfl rfl (zau (by obtain ⟨a,b⟩:=x;obtain ⟨c,d⟩:=y;simp_all))
end An.S
namespace An
open Go
abbrev tM (v:Nat):Ty:=tLm (dig 65536 v)
theorem qk0 {a:List Nat} {k:Nat} (hk:k<=a.length) (h0:0 < k) (hz:a.getD (k - 1) 0=0):trimL (a.take (k - 1))=trimL (a.take k):=by
 have h1:=xh8 a (k - 1) (by omega);rw [show k - 1+1=k from by omega] at h1;rw [h1,hz,xu6]
theorem qm8 {a:List Nat} {k:Nat} (hk:k<=a.length) (h0:0 < k) (hz: ¬a.getD (k - 1) 0=0):trimL (a.take k)=a.take k:=by
 refine yh5 fun x hx=> ?_;have h1:=xh8 a (k - 1) (by omega);rw [show k - 1+1=k from by omega] at h1;rw [h1,List.getLast?_append] at hx;simp at hx;rw [<-hx];simpa [List.getD_eq_getElem?_getD] using hz
theorem zw0 {a d r k q n:Nat} {qs:List Nat} (hk:k < n) (hl:qs.length=n) (hD:Dig 65536 qs) (hd:0 < d) (hr:r=a / 65536 ^ (k+1)%d) (hv:val 65536 (qs.drop (k+1))=a / 65536 ^ (k+1) / d) (hq:(r*65536+a / 65536 ^ k%65536) / d=q):
  (qs.set k q).length=n/\Dig 65536 (qs.set k q)/\(r*65536+a / 65536 ^ k%65536)%d=a / 65536 ^ k%d/\val 65536 ((qs.set k q).drop k)=a / 65536 ^ k / d/\q < 65536:=by
 have e0:a / 65536 ^ k=65536*(a / 65536 ^ (k+1))+a / 65536 ^ k%65536:=xz0 65536 a k (by decide);have hrd:r < d:=by rw [hr];exact zcd _ hd
 have e1:a / 65536 ^ k=(r*65536+a / 65536 ^ k%65536)+d*(65536*(a / 65536 ^ (k+1) / d)):=by
  have h1:=zdg (a / 65536 ^ (k+1)) d;rw [<-hr] at h1;have h2:65536*(a / 65536 ^ (k+1))=d*(65536*(a / 65536 ^ (k+1) / d))+65536*r:=by
   conv=>lhs;rw [<-h1]
   rw [zct,Nat.mul_left_comm]
  omega
 have hqW:q < 65536:=by
  rw [<-hq];refine zdd ?_;have h4:a / 65536 ^ k%65536 < 65536:=zcd _ (by decide);have h5:(r+1)*65536<=d*65536:=zbr _ hrd;omega
 refine ⟨by simpa using hl,hD.set hqW,?_,?_,hqW⟩
 ·conv=>rhs;rw [e1,zfs]
 ·rw [xj7 _ _ _ (by simpa using (by omega:k < qs.length)),xk0 (by omega),xf2,hv]
  conv=>rhs;rw [e1,zeb _ _ hd,hq]
theorem j5 {b:Nat} (h:(dig 65536 b).length=1):(dig 65536 b).getD 0 0=b:=by
 rw [xc1 xa0,zeg,Nat.div_one];have:=(xb3 xa0 b 1).1 (Nat.le_of_eq h);rw [Nat.pow_one] at this;exact zbx this
theorem trim1L {x:Nat} (hx:x < 65536):trimL [x]=dig 65536 x:=by
 rw [xe8 xa0 (Dig.cons hx (Dig.nil _)),xk5,yi6];simp
theorem zm7 {B a b k:Nat} (hB:2<=B) (h:a / B ^ (k+1)=b / B ^ (k+1)) (hd:(dig B a).getD k 0 < (dig B b).getD k 0):a < b:=zu4 (by omega) h (by rw [<-xc1 hB,<-xc1 hB];exact hd)
theorem yf6 {a i:Nat} (h:i < (dig 65536 a).length):65536 ^ i<=a:=by
 rcases zcs a (65536 ^ i) with h' | h'
 ·have:=(xb3 xa0 a i).2 h';omega
 ·exact h'
theorem za1 {a b i n s:Nat} (hn:n=(a%65536 ^ i+b%65536 ^ i) / 65536 ^ i) (hs:s=n+a / 65536 ^ i%65536+b / 65536 ^ i%65536):
  dgs 65536 i (a+b)++[s%65536]=dgs 65536 (i+1) (a+b)/\s / 65536=(a%65536 ^ (i+1)+b%65536 ^ (i+1)) / 65536 ^ (i+1):=by
 have hp:0 < 65536 ^ i:=zcu (by decide);have ea:=zdg a (65536 ^ i);have eb:=zdg b (65536 ^ i);have e1:(a+b) / 65536 ^ i=n+a / 65536 ^ i+b / 65536 ^ i:=by
  have:a+b=(a%65536 ^ i+b%65536 ^ i)+65536 ^ i*(a / 65536 ^ i+b / 65536 ^ i):=by rw [zct];omega
  rw [this,zeb _ _ hp,<-hn];omega
 refine ⟨?_,?_⟩
 ·rw [xj9,e1,hs]
  congr 2
  omega
 ·rw [zcc,<-zdi,<-zcc,xi1,xi1];have e2:a%65536 ^ i+65536 ^ i*(a / 65536 ^ i%65536)+(b%65536 ^ i+65536 ^ i*(b / 65536 ^ i%65536))=(a%65536 ^ i+b%65536 ^ i)+65536 ^ i*(a / 65536 ^ i%65536+b / 65536 ^ i%65536):=by rw [zct];omega
  rw [e2,zeb _ _ hp,<-hn,hs]
  congr 1;omega
theorem yk7 {a b i n:Nat} (hn:n=(a%65536 ^ i+b%65536 ^ i) / 65536 ^ i) (h:i < (dig 65536 a).length∨i < (dig 65536 b).length∨0 < n):i+1<=(dig 65536 (a+b)).length:=by
 have hp:0 < 65536 ^ i:=zcu (by decide);have h1:65536 ^ i<=a+b:=by
  rcases h with h | h | h
  ·have:=yf6 h;omega
  ·have:=yf6 h;omega
  ·have h2:65536 ^ i<=a%65536 ^ i+b%65536 ^ i:=by
    rcases zcs (a%65536 ^ i+b%65536 ^ i) (65536 ^ i) with h' | h'
    ·rw [zcv h'] at hn;omega
    ·exact h'
   have:=Nat.mod_le a (65536 ^ i);have:=Nat.mod_le b (65536 ^ i);omega
 rcases zcs i (dig 65536 (a+b)).length with h' | h'
 ·exact h'
 ·have:=(xb3 xa0 (a+b) i).1 h';omega
theorem qv5 {a b i n:Nat} (hn:n=(a%65536 ^ i+b%65536 ^ i) / 65536 ^ i) (h0:n=0) (ha:(dig 65536 a).length<=i) (hb:(dig 65536 b).length<=i) (hi:i<=(dig 65536 (a+b)).length):dgs 65536 i (a+b)=dig 65536 (a+b):=by
 have hp:0 < 65536 ^ i:=zcu (by decide);rw [qf5 xa0 ha,qf5 xa0 hb,h0] at hn;have h1:a+b < 65536 ^ i:=(Nat.div_eq_zero_iff_lt hp).1 hn.symm;have h2:=(xb3 xa0 (a+b) i).2 h1;rw [show i=(dig 65536 (a+b)).length by omega,xo4 xa0]
theorem qa7 {a b i n:Nat} (hn:n=(a%65536 ^ i+b%65536 ^ i) / 65536 ^ i):n<=1:=by
 have hp:0 < 65536 ^ i:=zcu (by decide);have h1:=zcd a hp;have h2:=zcd b hp;rw [hn];exact Nat.le_of_lt_succ (zdd (by omega))
theorem qv6 {a b i br n:Nat} {cs:List Nat} (hl:cs.length=i) (hv:val 65536 cs+b%65536 ^ i=a%65536 ^ i+br*65536 ^ i) (hbr:br<=1) (hn:n+br+b / 65536 ^ i%65536=65536+a / 65536 ^ i%65536):
  val 65536 (cs++[n%65536])+b%65536 ^ (i+1)=a%65536 ^ (i+1)+(1 - n / 65536)*65536 ^ (i+1)/\n / 65536<=1/\1 - n / 65536<=1:=by
 have h1:a / 65536 ^ i%65536 < 65536:=zcd _ (by decide);have h2:b / 65536 ^ i%65536 < 65536:=zcd _ (by decide);refine ⟨?_,by omega,by omega⟩;rw [xs4,hl];exact zz9 hv rfl rfl (by omega)
theorem qj2 {n a b br:Nat} {ws:List Nat} (hl:ws.length=n) (hD:Dig 65536 ws) (ha:a < 65536 ^ n) (hba:b<=a) (h:val 65536 ws+b%65536 ^ n=a%65536 ^ n+br*65536 ^ n):trimL ws=dig 65536 (a - b):=by
 rw [zbx ha,zbx (by omega)] at h;have h1:=xo8 hD;rw [hl] at h1;rw [xe8 xa0 hD]
 congr 1
 rcases zcg br with h0 | h0
 ·subst h0;omega
 ·have:65536 ^ n<=br*65536 ^ n:=zfh _ h0;omega
theorem yu0 {a b k:Nat} (ha:(dig 65536 a).length<=k) (hb:(dig 65536 b).length<=k):(dig 65536 (a+b)).length<=k+1:=by
 rw [xb3 xa0] at*
 rw [zcc];generalize 65536 ^ k=P at*;omega
theorem js2 {a k n q m:Nat} {qs:List Nat} (hk:k < m) (hl:qs.length=m) (hD:Dig 65536 qs) (hn:n%2=a / 65536 ^ (k+1)%2) (hv:val 65536 (qs.drop (k+1))=a / 65536 ^ (k+1) / 2) (hq:(n%2*65536+a / 65536 ^ k%65536) / 2=q):
  (qs.set k q).length=m/\Dig 65536 (qs.set k q)/\(n%2*65536+a / 65536 ^ k%65536)%2=a / 65536 ^ k%2/\val 65536 ((qs.set k q).drop k)=a / 65536 ^ k / 2/\q < 65536:=zw0 hk hl hD (by decide) hn hv hq
theorem qn5 {v i u:Nat} (hu:u=v / 65536 ^ i) (h0:0 < u):i+1<=(dig 65536 v).length/\u / 65536=v / 65536 ^ (i+1)/\dgs 65536 i v++[u%65536]=dgs 65536 (i+1) v:=by
 refine ⟨?_,by rw [hu,zdi,<-zcc],by rw [xj9,hu]⟩;rcases zcs i (dig 65536 v).length with h' | h'
 ·exact h'
 ·have:=(xb3 xa0 v i).1 h';rw [zcv this] at hu;omega
theorem je6 {v i:Nat} (h:v / 65536 ^ i=0) (hi:i<=(dig 65536 v).length):dgs 65536 i v=dig 65536 v:=by
 have h1:v < 65536 ^ i:=(Nat.div_eq_zero_iff_lt (zcu (by decide))).1 h;have h2:=(xb3 xa0 v i).2 h1;rw [show i=(dig 65536 v).length by omega,xo4 xa0]
theorem ji6 {a n k:Nat} (h:2 ^ n<=a) (hk:(dig 65536 a).length<=k):n < 16*k:=by
 have h1:=(xb3 xa0 a k).1 hk;have e:65536 ^ k=2 ^ (16*k):=by rw [Nat.pow_mul]
 rw [e] at h1;exact (Nat.pow_lt_pow_iff_right (by decide)).1 (zfu h h1)
theorem qd0 {a b n i q r d:Nat} (hi:i < n) (hd:d=b*2 ^ (n - i)) (ha:a=q*d+r) (hr:r < d):
  d / 2=b*2 ^ (n - (i+1))/\(r < d / 2->a=(q+q)*(d / 2)+r)/\(¬r < d / 2->a=(q+q+1)*(d / 2)+(r - d / 2)/\r - d / 2 < d / 2/\d / 2<=r):=by
 have e:d=2*(b*2 ^ (n - (i+1))):=by rw [hd,show n - i=n - (i+1)+1 by omega,zcc];grind
 have h1:d / 2=b*2 ^ (n - (i+1)):=by omega
 refine ⟨h1,fun h=> ?_,fun h=>⟨?_,by omega,by omega⟩⟩
 ·rw [h1,ha,e];grind
 ·rw [h1] at h ⊢;generalize b*2 ^ (n - (i+1))=c at*
  rw [ha,e];have:(q+q+1)*c=q*(2*c)+c:=by grind
  rw [this];omega
theorem je5 {a b q r:Nat} (ha:a=q*b+r) (hr:r < b):q=a / b/\r=a%b:=by
 have hb:0 < b:=by omega
 constructor
 ·rw [ha,zbz,Nat.mul_add_div hb,zcv hr,zej]
 ·rw [ha,zbz,Nat.mul_add_mod,zbx hr]
end An
namespace An.S
open Go Go.Proofs An Tryz
theorem va0 {v:Va} (h1: ¬((v.kind:Int)=2∨(v.kind:Int)=3)) (h2: ¬(v.kind:Int)=1) (h3: ¬(v.kind:Int)=4) (h4: ¬((v.kind:Int)=5∨(v.kind:Int)=6)):false=v.valid:=by
 rw [Va.valid,if_neg (by omega),if_neg (by omega),if_neg (by omega),if_neg (by omega)]
end An.S
namespace An
open Go
def pst1 (acc:List Tst) (s:Tst):List Tst:=
 if s.hi<=s.lo then acc
 else if 0 < acc.length/\(acc.getD (acc.length - 1) tst0).hi=s.lo/\(acc.getD (acc.length - 1) tst0).v=s.v then acc.set (acc.length - 1) ⟨(acc.getD (acc.length - 1) tst0).lo,s.hi,(acc.getD (acc.length - 1) tst0).v⟩
 else acc++[s]
def pst (acc ps:List Tst):List Tst:=ps.foldl pst1 acc
def clip (a b:Int) (s:Tst):Tst:=⟨max s.lo a,min s.hi b,s.v⟩
def cutT (l:List Tst) (a b:Int):List Tst:=pst [] (l.map (clip a b))
end An
namespace An.S
open Go Go.Proofs An Tryz
end An.S
namespace An
open Go Go.ChangeShapes Go.WideShapes Go.ChangeAt Go.RowKit
def Old (w:World):Dom:=fun b=>b < w.heap.size
section
variable {α:Type} {P:Program} {T n:Nat} {f:α->Ty} {ok:α->Prop} {r:Reach} {b0:Nat} {v:Value} {H:Type} {enc:TypeId×Value->H} {w:World} {sp:Nat->Bool} {held:Bool} {d:DataW H} {p:List MemPlace}
end
theorem Ext.below {w w':World} (h:Ext w w'):Below w.heap.size w w':=⟨h.os,h.tape,h.output,h.size,h.block⟩
end An
namespace An
open Go Go.Proofs Go.Shelf Go.Sort Tryz
section
variable {α:Type} [Inhabited α]
def srt (cf:α->α->Int) (xs:List α):List α:=(pdq (ltOf cf) xs.toArray 0 xs.toArray.size (Go.Lib.bitLen xs.toArray.size) true true).toList
theorem xs7 {cf:α->α->Int} (hO:SWO (ltOf cf)) (xs:List α):(srt cf xs).length=xs.length/\(srt cf xs).Perm xs/\(srt cf xs).Pairwise fun a b=>ltOf cf b a=false:=by
 obtain ⟨⟨h1,_,h2⟩,h3⟩:=pdq_sorts (ltOf cf) hO xs.toArray 0 xs.toArray.size (Go.Lib.bitLen xs.toArray.size) true true (zbs _) (zbm _) (Or.inl rfl);rw [srt];generalize pdq (ltOf cf) xs.toArray 0 xs.toArray.size (Go.Lib.bitLen xs.toArray.size) true true=D at*
 have e1:D.size=xs.length:=by simpa using h1
 have x1:D.extract 0 xs.toArray.size=D:=by rw [<-h1];simp
 have x2:xs.toArray.extract 0 xs.toArray.size=xs.toArray:=by simp
 rw [x1,x2] at h2;refine ⟨by simpa using e1,by simpa using h2,?_⟩;rw [zfj];intro i j hi hj hij;have hi':i < D.size:=by simpa using hi
 have hj':j < D.size:=by simpa using hj
 have h6:=h3 i j (zbs _) hij (by rw [<-h1];exact hj');rw [zgq _ i hi',zgq _ j hj'] at h6;simpa using h6
end
theorem qg3 {α:Type} [Inhabited α] {enc:α->List Value} {k:Nat} (_hk: ∀x,(enc x).length=k) (d:Array α) {i j:Nat} (hi:i < d.size) (hj:j < k):(flatK enc k d)[i*k+j]! =(enc d[i]!)[j]! :=by
 have lt:i*k+j < d.size*k:=by
  have:=zbr k (show i+1<=d.size from hi);rw [zch,zfi] at this;omega
 rw [get_flatK _ _ _ _ lt];have e1:(i*k+j) / k=i:=by rw [zbz,Nat.mul_add_div (by omega),zcv hj];omega
 have e2:(i*k+j)%k=j:=by rw [zbz,Nat.mul_add_mod,zbx hj]
 rw [e1,e2]
theorem sortG {P:Program} {ρ:Ren} {α:Type} [Inhabited α] (L:SlLaysF0.n6 P ρ) {T k:Nat} {f:α->Ty} {enc:α->List Value} {cf:α->α->Int} {g:Nat} (aE: ∀w,(isAgg (ρ.t 24)).run P w= .ok true w) (zE: ∀w,(Go.sizeOf (ρ.t 24)).run P w= .ok k w)
  (hk: ∀x,(enc x).length=k) (h1: ∀x,∀v∈enc x,v.oneCell'=true) (hf1: ∀F w x v,(f x).p F w v->v= .agg (enc x).toArray) (hf2: ∀F w x,(f x).p F w (.agg (enc x).toArray)) (hO:SWO (ltOf cf))
  (eg: ∀args w,(callFunc g args).run P w= .ok (.enter g args) w) (hcmp: ∀(x y:α) (W:World),Calls P g #[.agg (enc x).toArray,.agg (enc y).toArray] W fun e w'=>e= .returned (.int .i64 (cf x y))/\ ∃q os',w'=grow (W.drewN q) os') (xs:List α) (hn:xs.length < 4611686018427387904):
  CtG P (ρ.f 6) [(1,⟨T,k,true,rV f xs⟩)] [.own (.sl 1 k 0 xs.length),.val (tE (.func (.func g) #[] #[]))] (.val (tE (.tuple #[]))) [(1,⟨T,k,true,rV f (srt cf xs)⟩)] []:=by
 intro F w η vs hS hA hI hF
 match vs,hS with
 | [v0,v1],hS=>
 obtain ⟨⟨A,rfl,hle,hadr⟩,h2,_⟩:=hS;have h2:v1= .func (.func g) #[] #[]:=h2;subst h2;obtain ⟨k1,k2,k3,k4,k5⟩:=hA (1,⟨T,k,true,rV f xs⟩) (by simp);have k1:(rV f xs).length<=η.c 1:=k1;have k2:0 < k:=k2;have k4:η.c 1<=9223372036854775807:=k4;rw [xe0] at k1;obtain ⟨s1,s2,_⟩:=xs7 hO xs;by_cases h0:xs.length=0
 ·have hx:xs=[]:=zco.1 h0;subst hx;have e0:srt cf ([]:List α)=[]:=zco.1 s1;rw [e0];refine (AnyF.slices_SortFunc_none L A (η.c 1 - 0) (.func (.func g) #[] #[]) w).mono ?_;rintro e w' ⟨rfl,rfl⟩;refine ⟨_,η,rfl,⟨Stp.refl _ _,fun _ _=>⟨rfl,rfl⟩,rfl,fun x hx=> ?_,hI,fun b hb=> .inl hb⟩⟩;simp only [zbq] at hx;subst hx;refine ⟨by simp [rV],k2,k3,k4,fun hc=> ?_⟩;obtain ⟨cs,c1,c2,_⟩:=k5 hc;exact ⟨cs,c1,c2,fun i e hi=>by simp [rV] at hi⟩
 ·have hc0:0 < η.c 1:=by omega
  obtain ⟨cs,c1,c2,c3⟩:=k5 hc0;have c1:w.heap[η.b 1]? =some (.cells cs T (0,0)):=c1;have c2:cs.size=η.c 1*k:=c2;have hA':=hadr hc0;rw [zfa] at hA';subst hA';have hblk:η.b 1 < w.heap.size:=xb0 c1;have hmul: ∀i,i < xs.length->i*k+k<=cs.size:=fun i hi=>by
   rw [c2,<-zdj];exact zbr _ (by omega)
  have hget: ∀i (hi:i < xs.length) j,j < k->cs[i*k+j]? =(enc xs[i])[j]? :=fun i hi j hj=>by
   have h3:=c3 i (.val (f xs[i])) (by rw [rV,zbp,zbk hi];rfl);have h4:=hf1 _ _ _ _ h3;simp only [pick,zey,zev] at h4;have h5:=congrArg (fun a:Array Value=>a[j]?) h4;simp only [zcy,zfe] at h5;have:=hmul i hi;rw [if_pos (by omega)] at h5;exact h5
  have hsize:xs.toArray.size=xs.length:=by simp
  have hH:HoldsK enc k w (η.b 1) 0 xs.toArray:=by
   intro j hj;rw [size_flatK,hsize] at hj;have hj1:j / k < xs.length:=by rw [Nat.div_lt_iff_lt_mul k2];exact hj
   have hj2:j%k < k:=zcd _ k2;have hje:j / k*k+j%k=j:=by rw [zbz];exact zdg j k
   have h6:=hget (j / k) hj1 (j%k) hj2;rw [hje] at h6;have h7:=qg3 hk xs.toArray (i:=j / k) (j:=j%k) (by rw [hsize];exact hj1) hj2;rw [hje] at h7;have hlen:j%k < (enc xs[j / k]).length:=by rw [hk];exact hj2
   have h8:xs.toArray[j / k]! =xs[j / k]:=by rw [zgq _ _ (by rw [hsize];exact hj1)];simp
   refine ⟨?_,?_⟩
   ·show w.cell? ⟨η.b 1,0+j,none⟩=some (flatK enc k xs.toArray)[j]!;rw [h7,h8,zgq (enc xs[j / k]) (j%k) hlen];simp only [World.cell?,c1,zcj,Option.isSome_none,zep,if_false];rw [h6,zbk hlen]
   ·simp [World.frozen?,c1]
  have hcon:=AnyQ.slices_SortFunc_eq L k aE zE enc hk h1 cf hO g #[] (η.b 1) 0 (η.c 1 - 0) xs.toArray w eg (fun m os dk _ x y=>hcmp x y _) hH hblk (by rw [hsize];exact hn);rw [hsize] at hcon;refine hcon.mono ?_;rintro e w' ⟨rfl,m,os,rfl⟩;have hd:(pdq (ltOf cf) xs.toArray 0 xs.length (Go.Lib.bitLen xs.length) true true).size=xs.length:=by
   have:(srt cf xs).length=xs.length:=s1;simpa [srt] using this
  have hl:(pdq (ltOf cf) xs.toArray 0 xs.length (Go.Lib.bitLen xs.length) true true).toList=srt cf xs:=by simp [srt]
  generalize pdq (ltOf cf) xs.toArray 0 xs.length (Go.Lib.bitLen xs.length) true true=d at hd hl;have hheap: ∀b',b' < w.heap.size->(sortWorldK enc k w (η.b 1) 0 m d os).heap[b']? =if b'=η.b 1 then some (.cells (putCells id 0 (flatK enc k d) cs) T (0,0)) else w.heap[b']? :=fun b' hb'=>by
   show (grow (putRowK enc k (Sort.ahead w m) (η.b 1) 0 d) os).heap[b']? =_;rw [heap_grow_old _ _ (by simp [putRowK];exact hb')];simp only [putRowK,putRow,mapBlock,Array.getElem?_modify];by_cases hb:b'=η.b 1
   ·subst hb;rw [if_pos rfl,if_pos rfl];show Option.map _ (w.heap[η.b 1]?)=_;rw [c1];rfl
   ·rw [if_neg (fun h=>hb h.symm),if_neg hb];rfl
  have hsz:w.heap.size<=(sortWorldK enc k w (η.b 1) 0 m d os).heap.size:=by
   show w.heap.size<=(grow (putRowK enc k (Sort.ahead w m) (η.b 1) 0 d) os).heap.size;simp [grow,putRowK,putRow,mapBlock,Sort.ahead]
  refine ⟨_,η,rfl,⟨⟨rfl,rfl,rfl,hsz,fun b' hb' hn'=> ?_⟩,fun _ _=>⟨rfl,rfl⟩,rfl,fun x hx=> ?_,fun x hx y hy hne=> ?_,fun b' hb'=> .inl ?_⟩⟩
  ·rw [hheap b' hb',if_neg];intro hb;exact hn' ⟨(1,⟨T,k,true,rV f xs⟩),by simp,hc0,hb⟩
  ·simp only [zbq] at hx;subst hx;refine ⟨by rw [xe0,s1];exact k1,k2,k3,k4,fun _=>⟨putCells id 0 (flatK enc k d) cs,?_,?_,fun i e hi=> ?_⟩⟩
   ·rw [hheap _ hblk,if_pos rfl]
   ·simp only [putCells,Array.size_mapIdx];exact c2
   ·have hil:i < (srt cf xs).length:=by
     have:=(zbi.1 hi).1;rwa [xe0] at this
    have hi2:i < xs.length:=by rw [<-s1];exact hil
    rw [rV,zbp,zbk hil] at hi;simp only [zdv,zca] at hi;subst hi;have hdi:d[i]! =(srt cf xs)[i]:=by
     rw [zgq d i (by rw [hd];exact hi2)];simp only [<-hl,Array.getElem_toList]
    have:pick true k (putCells id 0 (flatK enc k d) cs) (i*k)= .agg (enc (srt cf xs)[i]).toArray:=by
     simp only [pick,zey,zev];apply zdp;intro j;rw [zcy];have hm:=hmul i hi2;simp only [zfe];by_cases hj:j < k
     ·rw [if_pos (by simp only [putCells,Array.size_mapIdx];omega)];have hlt:i*k+j < d.size*k:=by
       rw [hd];have:=zbr k (show i+1<=xs.length from hi2);rw [zch,zfi] at this;omega
      simp only [putCells,Array.getElem?_mapIdx,size_flatK];have hcs:cs[i*k+j]? =some (cs[i*k+j]'(by omega)):=by rw [zdb]
      rw [hcs];simp only [zdv];rw [if_pos ⟨zbs _,by omega⟩,Nat.sub_zero,qg3 hk d (by rw [hd];exact hi2) hj,hdi];have hjl:j < (enc (srt cf xs)[i]).length:=by rw [hk];exact hj
      rw [zgq (enc (srt cf xs)[i]) j hjl,zbk hjl];rfl
     ·rw [if_neg (by simp only [putCells,Array.size_mapIdx];omega),zcp (by rw [hk];omega)]
    simp only [];rw [this];exact hf2 _ _ _
  ·simp only [zbq] at hx hy;subst hx;subst hy;exact absurd rfl hne
  ·obtain ⟨x,hx,hc,rfl⟩:=hb';simp only [zbq] at hx;subst hx;exact ⟨(1,⟨T,k,true,rV f xs⟩),by simp,hc,rfl⟩
end An
namespace An.S
open Go Go.Proofs An Tryz
open Go.RowKit Go.Sort
def pos (s:Sn):Bool:=decide (s.lo < s.hi)
end An.S
namespace An
open Go
end An
namespace An.S
open Go Go.Proofs An Tryz
end An.S
namespace An
open Go
def numK (l:List Tst):Prop:=l.length=0∨(l.getD 0 tst0).v.kind=2∨(l.getD 0 tst0).v.kind=3
instance (l:List Tst):Decidable (numK l):=inferInstanceAs (Decidable (_∨_))
def sumStep:Option Rat->Tst->Option Rat
 | none,_=>none
 | some q,s=>if short (s.v.f.rat*((s.hi - s.lo:Int):Rat))/\short (q+s.v.f.rat*((s.hi - s.lo:Int):Rat)) then some (q+s.v.f.rat*((s.hi - s.lo:Int):Rat)) else none
def sumT (l:List Tst):Option Rat:=l.foldl sumStep (some ((0:Int):Rat))
def sumC (l:List Tst) (a b:Int):Prop:=(tRight l=true/\Sn.ok ⟨a,b⟩=true)/\numK l
instance (l:List Tst) (a b:Int):Decidable (sumC l a b):=inferInstanceAs (Decidable (_/\_))
end An
namespace An.S
open Go Go.Proofs An Tryz
instance fi51:FnI Tryz.prog 51:=⟨_,func51,by kernel_rfl,rfl⟩
instance fi127:FnI Tryz.prog 127:=⟨_,func127,by kernel_rfl,rfl⟩
instance ti51:TyI Tryz.prog 51 1 false:=⟨by kernel_rfl,by kernel_rfl⟩
instance fi50:FnI Tryz.prog 50:=⟨_,func50,by kernel_rfl,rfl⟩
theorem js3 (f g:Fr) (hf:f.dig) (hg:g.dig) (vf:f.valid=true) (vg:g.valid=true):Ct Tryz.prog 50 [tFr f,tFr g] (tI (cmpQ f.rat g.rat)):=by
 obtain ⟨e1,s1⟩:=Fr.of_valid' hf vf;obtain ⟨e2,s2⟩:=Fr.of_valid' hg vg;have h:=c_FCmp f.rat g.rat s1 s2;rw [<-e1,<-e2] at h;exact h
theorem ys4:short (1:Rat):=yg7 (n:=1) (by show (wh 1).l.length<=256;rw [xv0];decide)
theorem jn0 (f:Fr) (hf:f.dig) (vf:f.valid=true):Ct Tryz.prog 50 [tFr f,tFr (fr ((1:Int):Rat))] (tI (cmpQ f.rat 1)):=by
 have h:=js3 f (fr ((1:Int):Rat)) hf ⟨xc3 xa0 _,xc3 xa0 _⟩ vf (zu2 ys4);rw [qw4] at h;exact h
theorem ym3 {a b:Rat}:0 < cmpQ a b↔ ¬a<=b:=by
 simp only [cmpQ];split
 ·rename_i h;simp [Rat.le_of_lt h]
 ·rename_i h;split
  ·rename_i h2;subst h2;simp
  ·rename_i h2;simp only [Int.zero_lt_one,true_iff];intro h3;rcases Rat.le_iff_lt_or_eq.1 h3 with h4 | h4
   ·exact h h4
   ·exact h2 h4
def askB (l:List Tst) (a b:Int):Bool:=sRight l && decide (0<=a) && decide (a<=65536) && decide (0<=b) && decide (b<=65536)
instance ti44:TyI Tryz.prog 44 7 true:=⟨by kernel_rfl,by kernel_rfl⟩
instance sl22:SlI Tryz.prog 22 44 7 true:=⟨zhd,ti44⟩
instance fo44_0:FoI Tryz.prog 44 0 0:=⟨by kernel_rfl⟩
instance fo44_1:FoI Tryz.prog 44 1 1:=⟨by kernel_rfl⟩
instance fo44_2:FoI Tryz.prog 44 2 2:=⟨by kernel_rfl⟩
instance fo44_3:FoI Tryz.prog 44 3 6:=⟨by kernel_rfl⟩
instance fi141:FnI Tryz.prog 141:=⟨_,func141,by kernel_rfl,rfl⟩
instance fi142:FnI Tryz.prog 142:=⟨_,func142,by kernel_rfl,rfl⟩
theorem zr44:(Tryz.prog.info? 44).bind (·.zero)=some (.agg #[.int .i64 0,.int .i64 0,.bool false,.slice none 0 0,.bool false,.slice none 0 0,.int .i64 0])/\ ∀F w,(tS [⟨1,false,(tE (.int .i64 0))⟩,⟨1,false,(tE (.int .i64 0))⟩,⟨4,true,zad⟩,⟨1,false,(tE (.int .i64 0))⟩]).p F w (.agg #[.int .i64 0,.int .i64 0,.bool false,.slice none 0 0,.bool false,.slice none 0 0,.int .i64 0]):=⟨by kernel_rfl,fun _ _=>⟨_,rfl,rfl,⟨fun _=>rfl,rfl⟩,⟨fun _=>rfl,rfl⟩,⟨fun h=>Bool.noConfusion h,⟨_,rfl,rfl,⟨fun h=>Bool.noConfusion h,⟨_,rfl,rfl,⟨fun _=>rfl,rfl⟩,⟨fun _=>rfl,⟨none,0,rfl,zbm _,by decide,.inl rfl⟩⟩,trivial⟩⟩,⟨fun h=>Bool.noConfusion h,⟨_,rfl,rfl,⟨fun _=>rfl,rfl⟩,⟨fun _=>rfl,⟨none,0,rfl,zbm _,by decide,.inl rfl⟩⟩,trivial⟩⟩,trivial⟩⟩,⟨fun _=>rfl,rfl⟩,trivial⟩⟩
instance un22:UnI Tryz.prog 22 (.slice 44):=⟨zhd⟩
theorem xp4 (n:Int):
  Ct Tryz.prog 54 [tI n] (tB (wIn n)):=by
 refine Ct.intro func54 rfl ntmps54 rfl ?_;intro w F;refine A10 ?_;refine RGcaseD (t:=5) rfl (fun h67=> ?_) (fun h67=> ?_)
 ·
  refine A7 ?_;exact E1 rfl rfl (zau (by simp [wIn, *]))
 ·
  refine A7 ?_;exact E1 rfl rfl (zau (by simp [wIn, *]))
theorem xw1 (l:List Deal) (hD: ∀d∈l,d.share.dig):
  Ct Tryz.prog 13 [tL 7 true tDeal l] (tB (validL l)):=by
 refine Ct.intro func13 rfl ntmps13 rfl ?_;intro w F;refine xj5 (s:=0) rfl (fun hl0=> ?_);refine A13 ?_;refine xa6 rfl (fun h45=> ?_) (fun h45=> ?_)
 ·
  refine A7 ?_;exact E1 rfl rfl (zau (by rw [validL,zbf (by omega),zdz]))
 ·
  refine A11 ?_;refine cL (fun (i:Nat)=>i<=l.length/\(l.take i).all Deal.valid=true) (fun (i:Nat)=>uV (uV (uV uN 8 (tL 7 true tDeal l)) 9 (tI l.length)) 10 (tI i)) (fun (i:Nat)=>fun _=>none) [] (fun (i:Nat)=>l.length - i) (0) ⟨zbs _,rfl⟩ ?_;intro i hI;obtain ⟨hi,ha⟩:=hI;refine A6 ?_;refine xa6 rfl (fun h48=> ?_) (fun h48=> ?_)
  ·
   refine A6 ?_;refine R2 (x8 sl22 i (by omega) (zai (l:=l) (n:=i) (d:=deal0))) rfl rfl ?_;refine A1 ?_;refine RE (xa3 (k:=4) (n:=7) (agg:=true) zr44.1 zr44.2 rfl) trivial trivial qA ?_;refine A10 ?_;refine RGcaseD (t:=17) rfl (fun h49=> ?_) (fun h49=> ?_)
   ·
    have hbad:(l.getD i deal0).valid=false:=Bool.eq_false_iff.2 fun h=>by have hv:=Deal.valid_iff.1 h;omega
    refine A18 ?_;refine A8 ?_;exact E1 rfl rfl (zau (by rw [validL,xf0 (l:=l) (i:=i) (d:=deal0) (by omega) hbad,Bool.and_false]))
   ·
    refine A7 ?_;refine RGcaseD (t:=24) rfl (fun h49_2=> ?_) (fun h49_2=> ?_)
    ·
     have hbad:(l.getD i deal0).valid=false:=Bool.eq_false_iff.2 fun h=>by have hv:=Deal.valid_iff.1 h;omega
     refine A18 ?_;refine A1 ?_;exact E1 rfl rfl (zau (by rw [validL,xf0 (l:=l) (i:=i) (d:=deal0) (by omega) hbad,Bool.and_false]))
    ·
     refine A6 ?_;refine xa6 rfl (fun h49_3=> ?_) (fun h49_3=> ?_)
     ·
      have hbad:(l.getD i deal0).valid=false:=Bool.eq_false_iff.2 fun h=>by have hv:=Deal.valid_iff.1 h;omega
      refine A12 ?_;exact E1 rfl rfl (zau (by rw [validL,xf0 (l:=l) (i:=i) (d:=deal0) (by omega) hbad,Bool.and_false]))
     ·
      refine A7 ?_;have hdg:=hD _ (xp9 (l:=l) (i:=i) (d:=deal0) (by omega));refine R1 (x3 (zv1 _ hdg.1 hdg.2) fi49 rfl) rfl ?_;refine A2 ?_;refine RGcase (t:=33) rfl (fun h52=> ?_) (fun h52=> ?_)
      ·
       have hv:(l.getD i deal0).share.valid=false:=by simpa using h52
       have hbad:(l.getD i deal0).valid=false:=Bool.eq_false_iff.2 fun h=>by have hv:=Deal.valid_iff.1 h;have h4:=hv.2.2.2.1;simp_all
       refine A18 ?_;refine A9 ?_;exact E1 rfl rfl (zau (by rw [validL,xf0 (l:=l) (i:=i) (d:=deal0) (by omega) hbad,Bool.and_false]))
      ·
       have hv:(l.getD i deal0).share.valid=true:=by simpa using h52
       refine A3 ?_;refine xg1 h52 rfl rfl (0) ti4 rfl rfl rfl (At.t (At.g 2 rfl rfl) (At.t (At.g 0 rfl rfl) (At.g 0 rfl rfl))) rfl ?_;refine A2 ?_;refine RGcase (t:=39) rfl (fun h52_2=> ?_) (fun h52_2=> ?_)
       ·
        have hbad:(l.getD i deal0).valid=false:=Bool.eq_false_iff.2 fun h=>by have hv:=Deal.valid_iff.1 h;have h4:=hv.2.2.2.2.1;simp_all
        refine A18 ?_;refine A3 ?_;exact E1 rfl rfl (zau (by rw [validL,xf0 (l:=l) (i:=i) (d:=deal0) (by omega) hbad,Bool.and_false]))
       ·
        have hng:(l.getD i deal0).share.n.neg=false:=h52_2;refine A2 ?_;refine Rg h52_2 rfl (x3 (xv5 1 (by decide) (by decide)) fi51 rfl) rfl qA (Rg h52_2 rfl (x3 (jn0 _ hdg hv) fi50 rfl) rfl qB ?_);refine A4 ?_;refine xa6 rfl (fun h52_3=> ?_) (fun h52_3=> ?_)
        ·
         have hgt:=ym3.1 h52_3;have hbad:(l.getD i deal0).valid=false:=Bool.eq_false_iff.2 fun h=>by have hv:=Deal.valid_iff.1 h;exact hgt hv.2.2.2.2.2.1
         refine A12 ?_;exact E1 rfl rfl (zau (by rw [validL,xf0 (l:=l) (i:=i) (d:=deal0) (by omega) hbad,Bool.and_false]))
        ·
         have hle:(l.getD i deal0).share.rat<=1:=zgk fun h=>h52_3 (ym3.2 h);refine A8 ?_;refine xj6 (0) ti37 rfl rfl rfl (At.t (At.g 2 rfl rfl) (At.t (At.g 0 rfl rfl) (At.g 1 rfl rfl))) rfl ?_;refine A3 ?_;refine RGcaseD (t:=52) rfl (fun h55=> ?_) (fun h55=> ?_)
         ·
          have hbad:(l.getD i deal0).valid=false:=Bool.eq_false_iff.2 fun h=>by have hv:=Deal.valid_iff.1 h;omega
          refine A18 ?_;refine A4 ?_;exact E1 rfl rfl (zau (by rw [validL,xf0 (l:=l) (i:=i) (d:=deal0) (by omega) hbad,Bool.and_false]))
         ·
          refine A3 ?_;refine xg1 (zbf h55) rfl rfl (0) ti37 rfl rfl rfl (At.t (At.g 2 rfl rfl) (At.t (At.g 1 rfl rfl) (At.g 1 rfl rfl))) rfl ?_;refine A5 ?_;refine xa6 rfl (fun h55_2=> ?_) (fun h55_2=> ?_)
          ·
           have hbad:(l.getD i deal0).valid=false:=Bool.eq_false_iff.2 fun h=>by have hv:=Deal.valid_iff.1 h;omega
           refine A12 ?_;exact E1 rfl rfl (zau (by rw [validL,xf0 (l:=l) (i:=i) (d:=deal0) (by omega) hbad,Bool.and_false]))
          ·
           refine A8 ?_;refine RGcaseD (t:=63) rfl (fun h58=> ?_) (fun h58=> ?_)
           ·
            have hbad:(l.getD i deal0).valid=false:=Bool.eq_false_iff.2 fun h=>by have hv:=Deal.valid_iff.1 h;omega
            refine A18 ?_;exact E1 rfl rfl (zau (by rw [validL,xf0 (l:=l) (i:=i) (d:=deal0) (by omega) hbad,Bool.and_false]))
           ·
            refine A6 ?_;refine xa6 rfl (fun h58_2=> ?_) (fun h58_2=> ?_)
            ·
             have hbad:(l.getD i deal0).valid=false:=Bool.eq_false_iff.2 fun h=>by have hv:=Deal.valid_iff.1 h;omega
             refine A11 ?_;exact E1 rfl rfl (zau (by rw [validL,xf0 (l:=l) (i:=i) (d:=deal0) (by omega) hbad,Bool.and_false]))
            ·
             refine A7 ?_;have hok:(l.getD i deal0).valid=true:=Deal.valid_iff.2 ⟨by omega,by omega,by omega,hv,hng,hle,by omega,by omega,by omega,by omega⟩;exact kF (i+1) ⟨⟨by omega,by rw [ya7 (l:=l) (i:=i) (d:=deal0) (by omega),ha,hok];rfl⟩,(by omega)⟩
  ·
   refine A11 ?_;exact E1 rfl rfl (zau (by rw [validL,zbg (by omega),zec,<-ha,show i=l.length by omega,zci]))
theorem jp6 (q:Rat) (n:Int) (hq:short q) (hn:short (n:Rat)) (hp:short (q*(n:Rat))):Ct Tryz.prog 127 [tFr (fr q),tFr (fr (n:Rat))] (tT [tFr (fr (q*(n:Rat))),tI 0]):=by
 have h:=qu3 q n hq hn;rw [resF,resFE,if_pos hp,if_pos hp] at h;exact h
theorem zp1 (a:Rat) (k:Int) (ha:short a) (hk:k=a.floor) (hs:short (k:Rat)):Ct Tryz.prog 141 [tFr (fr a),tFr (fr ((1:Int):Rat)),tE (.int .u8 3)] (tT [tFr (fr (k:Rat)),tI 0]):=by
 have h:=qq6 a ((1:Int):Rat) ha ys4 (by decide);have e:a.num*((((1:Int):Rat).den:Nat):Int) / ((a.den:Int)*((1:Int):Rat).num)=a.floor:=qb7 a;rw [e,<-hk] at h;have e2:(k:Rat)*((1:Int):Rat)=(k:Rat):=by simp
 rw [e2,resF,resFE,if_pos hs,if_pos hs] at h;exact h
theorem jk0 (k:Int) (hs:short (k:Rat)) (hf:fits k=true):Ct Tryz.prog 142 [tFr (fr (k:Rat))] (tT [tI k,tI 0]):=by
 have h:=c_FInt (k:Rat) hs;rw [Rat.num_intCast,Rat.den_intCast,hf,if_pos ⟨rfl,rfl⟩,if_pos rfl,if_pos rfl] at h;exact h
theorem c_take (q:Rat) (n:Int) (hq1:len16 q.num<=4) (hq2:len16 q.den<=4) (h0:0<=q) (h1:q<=1) (hn: -1099511627776<=n) (hn2:n<=1099511627776):
  Ct Tryz.prog 55 [tFr (fr q),tI n] (tI (take q n)):=by
 have hq:short q:=⟨by omega,by omega⟩
 have ln:len16 n<=4:=len16_64 (by omega) (by omega);have hsn:short (n:Rat):=yg7 (by omega);have lnn:len16 (n:Rat).num<=4:=by rw [Rat.num_intCast];exact ln
 have l1:len16 1<=1:=by show (wh 1).l.length<=1;rw [xv0];decide
 have lnd:len16 ((n:Rat).den:Int)<=1:=by rw [Rat.den_intCast];exact l1
 obtain ⟨p1,p2⟩:=ya6 hq1 lnn hq2 lnd;have hp:short (q*(n:Rat)):=⟨by omega,by omega⟩
 obtain ⟨b1,b2⟩:=qf9 (n:=n) h0 h1;have hb: -1099511627776<=take q n/\take q n<=1099511627776:=by
  rcases Int.le_total 0 n with h | h
  ·have:=b1 h;omega
  ·have:=b2 h;omega
 have lt:len16 (take q n)<=4:=len16_64 (by omega) (by omega);have hst:short ((take q n:Int):Rat):=yg7 (by omega);have hfit:fits (take q n)=true:=by simp only [fits,zcf,zee];omega
 refine Ct.intro func55 rfl ntmps55 rfl ?_;intro w F;refine A10 ?_;refine R1 (x3 (xv5 n (by omega) (by omega)) fi51 rfl) rfl (R2 (x3 (jp6 q n hq hsn hp) fi127 rfl) rfl rfl ?_);refine A3 ?_;refine RE (xa3 (k:=5) (n:=4) (agg:=true) zr41.1 zr41.2 rfl) trivial trivial qA ?_;refine A7 ?_;refine R1 (x3 (xv5 1 (by decide) (by decide)) fi51 rfl) rfl (R3 (x3 (zp1 (q*(n:Rat)) (take q n) hp rfl hst) fi141 rfl) rfl rfl rfl ?_);refine A3 ?_;refine RE (xa3 (k:=7) (n:=4) (agg:=true) zr41.1 zr41.2 rfl) trivial trivial qA ?_;refine A7 ?_;refine R1 (x3 (jk0 (take q n) hst hfit) fi142 rfl) rfl ?_;refine A14 ?_;exact E1 rfl rfl zao
theorem zn4 {f:Fr} (hD:f.dig) (hv:f.valid=true) (hn:f.n.neg=false):0<=f.rat:=by
 obtain ⟨e,_⟩:=Fr.of_valid' hD hv;rw [e] at hn;have h1: ¬f.rat.num < 0:=of_decide_eq_false hn;exact Rat.num_nonneg.1 (by omega)
def q4:Rat:=4 / 1461
theorem len16_small {n:Int} (h1: -9223372036854775808<=n) (h2:n<=9223372036854775807):len16 n<=256:=zce (len16_64 h1 h2) (by decide)
def mulO (q p:Rat):Option Rat:=if short (q*p) then some (q*p) else none
def yq (l:List Tst) (a b:Int):Option Rat:=if b<=a then some ((0:Int):Rat) else (sumT (cutT l a b)).bind fun q=>mulO q q4
instance ti23:TyI Tryz.prog 23 1 false:=⟨by kernel_rfl,by kernel_rfl⟩
instance ti25:TyI Tryz.prog 25 3 true:=⟨by kernel_rfl,by kernel_rfl⟩
instance sl23:SlI Tryz.prog 23 3 1 false:=⟨zgt,ti3⟩
instance fo25_0:FoI Tryz.prog 25 0 0:=⟨by kernel_rfl⟩
instance fo25_1:FoI Tryz.prog 25 1 1:=⟨by kernel_rfl⟩
instance fo25_2:FoI Tryz.prog 25 2 2:=⟨by kernel_rfl⟩
instance fi13:FnI Tryz.prog 13:=⟨_,func13,by kernel_rfl,rfl⟩
instance fi54:FnI Tryz.prog 54:=⟨_,func54,by kernel_rfl,rfl⟩
instance fi55:FnI Tryz.prog 55:=⟨_,func55,by kernel_rfl,rfl⟩
theorem zr25:(Tryz.prog.info? 25).bind (·.zero)=some (.agg #[.int .i64 0,.slice none 0 0,.slice none 0 0])/\ ∀F w,(tS [⟨1,false,(tE (.int .i64 0))⟩,⟨1,false,(tIs [])⟩,⟨1,false,(tIs [])⟩]).p F w (.agg #[.int .i64 0,.slice none 0 0,.slice none 0 0]):=⟨by kernel_rfl,fun _ _=>⟨_,rfl,rfl,⟨fun _=>rfl,rfl⟩,⟨fun _=>rfl,⟨none,0,rfl,zbm _,by decide,.inl rfl⟩⟩,⟨fun _=>rfl,⟨none,0,rfl,zbm _,by decide,.inl rfl⟩⟩,trivial⟩⟩
theorem bu25:BuI Tryz.prog 25 (fun i=>[(0,1),(1,1),(2,1)][i]?) (.agg #[.int .i64 0,.slice none 0 0,.slice none 0 0]):=BuI.struct underlying25 (by kernel_rfl) (by kernel_rfl)
theorem zi7 (d:Deal) (hD:d.share.dig) (hv:d.valid=true) (n:Int) (hn:wIn n=true):Ct Tryz.prog 55 [tFr d.share,tI n] (tI (take d.share.rat n)):=by
 obtain ⟨_,_,_,v1,v2,v3,v4,v5,_⟩:=Deal.valid_iff.1 hv;obtain ⟨e,_⟩:=Fr.of_valid' hD v1;obtain ⟨n1,n2⟩:=xd0.1 hn;have l1:len16 d.share.rat.num<=4:=by rw [e] at v4;exact v4
 have l2:len16 d.share.rat.den<=4:=by rw [e] at v5;exact v5
 have h:=c_take d.share.rat n l1 l2 (zn4 hD v1 v2) v3 n1 n2;rw [<-e] at h;exact h
theorem yb2 {n i:Nat} {f:Nat->Bool} (hi:i < n) (h:f i=false):(List.range n).all f=false:=by
 rw [List.all_eq_false];exact ⟨i,zcw.2 hi,by simp [h]⟩
theorem zc4 {i:Nat} {f:Nat->Bool}:(List.range (i+1)).all f=((List.range i).all f && f i):=by
 rw [List.range_succ,List.all_append];simp
theorem za3 {l:List Deal} {i:Nat} (h:validL l=true) (hi:i < l.length):(l.getD i deal0).valid=true:=by
 simp only [validL,zcf,zez] at h;exact h.2 _ (xp9 hi)
theorem xf8 {l:List Deal} (h:validL l=true):l.length<=16:=by
 simp only [validL,zcf,zee] at h;exact h.1
theorem yn9 (l:List Deal) (o:Int) (b p:List Int) (hD: ∀d∈l,d.share.dig):
  Ct Tryz.prog 16 [tL 7 true tDeal l,tState o b p] (tB (rightL l o b p)):=by
 refine Ct.intro func16 rfl ntmps16 rfl ?_;intro w F;refine xj5 (s:=0) rfl (fun hl0=> ?_);refine A10 ?_;refine R1 (x3 (xw1 l hD) fi13 rfl) rfl ?_;refine A2 ?_;refine RGcase (t:=10) rfl (fun h80=> ?_) (fun h80=> ?_)
 ·
  have hvl:validL l=false:=by simpa using h80
  refine A18 ?_;refine A13 ?_;exact E1 rfl rfl (zau (by rw [rightL,hvl];rfl))
 ·
  have hvl:validL l=true:=by simpa using h80
  refine A8 ?_;refine RGcaseD (t:=18) rfl (fun h80_2=> ?_) (fun h80_2=> ?_)
  ·
   refine A18 ?_;refine A5 ?_;exact E1 rfl rfl (zau (by rw [rightL,hvl,zbf (show ¬b.length=l.length by omega)];rfl))
  ·
   refine A8 ?_;refine RGcaseD (t:=26) rfl (fun h80_3=> ?_) (fun h80_3=> ?_)
   ·
    refine A15 ?_;exact E1 rfl rfl (zau (by rw [rightL,hvl,zbf (show ¬p.length=l.length by omega)];simp))
   ·
    refine A2 ?_;refine Rg (zbf h80_3) rfl (x3 (xp4 _) fi54 rfl) rfl qA ?_;refine A4 ?_;refine xc7 rfl (fun h80_4=> ?_) (fun h80_4=> ?_)
    ·
     have hwo:wIn o=false:=by simpa using h80_4
     refine A7 ?_;exact E1 rfl rfl (zau (by rw [rightL,hwo];simp))
    ·
     have hwo:wIn o=true:=by simpa using h80_4
     refine A11 ?_;refine cL (fun (i:Nat)=>i<=l.length/\(List.range i).all (fun i=>wIn (b.getD i 0) && decide (p.getD i 0=take (l.getD i deal0).share.rat (b.getD i 0)))=true) (fun (i:Nat)=>uV (uV (uV (uO uN 3 (.ptr 3 0)) 32 (tL 7 true tDeal l)) 33 (tI l.length)) 34 (tI i)) (fun (i:Nat)=>uK uN 3 25 3 true [.val (tState o b p)]) [3] (fun (i:Nat)=>l.length - i) (0) ⟨zbs _,rfl⟩ ?_;intro i hI;obtain ⟨hi,ha⟩:=hI;refine A6 ?_;refine xa6 rfl (fun h83=> ?_) (fun h83=> ?_)
     ·
      refine A7 ?_;refine R2 (x8 sl22 i (by omega) (zai (l:=l) (n:=i) (d:=deal0))) rfl rfl ?_;refine A1 ?_;refine RE (xa3 (k:=6) (n:=7) (agg:=true) zr44.1 zr44.2 rfl) trivial trivial qA ?_;refine A9 ?_;refine R2 (x8 sl23 (i) (by omega) (gZ (by omega))) rfl rfl ?_;refine A1 ?_;refine R1 (x3 (xp4 _) fi54 rfl) rfl ?_;refine A2 ?_;refine RGcase (t:=46) rfl (fun h84=> ?_) (fun h84=> ?_)
      ·
       have hbad:(fun i=>wIn (b.getD i 0) && decide (p.getD i 0=take (l.getD i deal0).share.rat (b.getD i 0))) i=false:=by
        have hw:wIn (b.getD i 0)=false:=by simpa using h84
        simp only [hw,zdz]
       refine A18 ?_;refine A11 ?_;exact E1 rfl rfl (zau (by rw [rightL,yb2 (i:=i) (by omega) hbad,Bool.and_false]))
      ·
       have hw:wIn (b.getD i 0)=true:=by simpa using h84
       refine A3 ?_;refine Rg h84 rfl (x8 sl23 (i) (by omega) (gZ (by omega))) rfl qB ?_;refine A6 ?_;refine Rg h84 rfl (x8 sl23 (i) (by omega) (gZ (by omega))) rfl qB ?_;refine A1 ?_;refine Rg h84 rfl (x3 (zi7 _ (hD _ (xp9 (l:=l) (i:=i) (d:=deal0) (by omega))) (za3 hvl (by omega)) _ hw) fi55 rfl) rfl qB ?_;refine A4 ?_;refine xa6 rfl (fun h84_2=> ?_) (fun h84_2=> ?_)
       ·
        have hbad:(fun i=>wIn (b.getD i 0) && decide (p.getD i 0=take (l.getD i deal0).share.rat (b.getD i 0))) i=false:=by
         simp only [zbf (show ¬p.getD i 0=take (l.getD i deal0).share.rat (b.getD i 0) by omega),Bool.and_false]
        refine A11 ?_;exact E1 rfl rfl (zau (by rw [rightL,yb2 (i:=i) (by omega) hbad,Bool.and_false]))
       ·
        refine A7 ?_;exact kF (i+1) ⟨⟨by omega,by rw [zc4,ha,zec,hw,zec,zbg (by omega)]⟩,(by omega)⟩
     ·
      refine A11 ?_;exact E1 rfl rfl (zau (by rw [rightL,hvl,hwo,zbg (show b.length=l.length by omega),zbg (show p.length=l.length by omega),<-show i=l.length by omega,ha];rfl))
theorem qr4 (l:List Deal) (hD: ∀d∈l,d.share.dig):
  Ct Tryz.prog 21 [tL 7 true tDeal l] (tT [tState 0 (if validL l then (List.replicate l.length (0:Int)) else []) (if validL l then (List.replicate l.length (0:Int)) else []),tI (if validL l then 0 else 2)]):=by
 refine Ct.intro func21 rfl ntmps21 rfl ?_;intro w F;refine A2 ?_;refine RE (xa3 (k:=2) (n:=3) (agg:=true) zr25.1 zr25.2 rfl) trivial trivial qA ?_;refine A7 ?_;refine R1 (x3 (xw1 l hD) fi13 rfl) rfl ?_;refine A3 ?_;refine xc7 rfl (fun h93=> ?_) (fun h93=> ?_)
 ·
  have hvl:validL l=false:=by simpa using h93
  refine A2 ?_;refine R0 (xb7 (r:=tS [⟨1,false,(tE (.int .i64 0))⟩,⟨1,false,(tIs [])⟩,⟨1,false,(tIs [])⟩]) (ts:=[]) bu25 zr25.2 zao) ?_;refine A6 ?_;exact EN (rs:=[.cell 2 25,.tmp 3]) rfl rfl ⟨⟨_,_,_,_,_,rfl,rfl,ti25,(Le.of (by rw [hvl];rfl))⟩,⟨_,rfl,(zba (by rw [hvl];rfl))⟩,trivial⟩
 ·
  have hvl:validL l=true:=by simpa using h93
  have hl16:=xf8 hvl;refine A6 ?_;refine R2 (yk1 (f:=fun n:Int=>tI n) (y0:=0) (ys:=(List.replicate l.length (0:Int))) l.length l.length zgt el3 (fun _ _=>rfl) inferInstance rfl rfl rfl (zbm _) (by omega) (by omega) rfl) rfl rfl ?_;refine A2 ?_;refine R2 (yk1 (f:=fun n:Int=>tI n) (y0:=0) (ys:=(List.replicate l.length (0:Int))) l.length l.length zgt el3 (fun _ _=>rfl) inferInstance rfl rfl rfl (zbm _) (by omega) (by omega) rfl) rfl rfl (R2 (xb7 (r:=tS [⟨1,false,(tE (.int .i64 0))⟩,⟨1,false,tIs (List.replicate l.length (0:Int))⟩,⟨1,false,tIs (List.replicate l.length (0:Int))⟩]) (ts:=[(1,tIs (List.replicate l.length (0:Int))),(2,tIs (List.replicate l.length (0:Int)))]) bu25 zr25.2 (Bc 1 rfl rfl rfl (Bc 2 rfl rfl rfl zao))) rfl rfl ?_);refine A5 ?_;exact EN (rs:=[.cell 2 25,.tmp 3]) rfl rfl ⟨⟨_,_,_,_,_,rfl,rfl,ti25,(Le.of (by rw [hvl];rfl))⟩,⟨_,rfl,(zba (by rw [hvl];rfl))⟩,trivial⟩
end An.S
namespace An
open Go
def Deal.on (d:Deal) (m:Int):Bool:=decide (d.lo<=m) && decide (m < d.hi)
def apl1 (l:List Deal) (m:Int) (i:Nat):List Nat:=(List.range i).filter fun j=>(l.getD j deal0).on m
def apl (l:List Deal) (m:Int):List Nat:=apl1 l m l.length
theorem apl1_yes {l:List Deal} {m:Int} {i:Nat} (h:(l.getD i deal0).on m=true):apl1 l m (i+1)=apl1 l m i++[i]:=by
 rw [apl1,List.range_succ,List.filter_append,List.filter_cons_of_pos (by exact h),List.filter_nil];rfl
theorem apl1_no {l:List Deal} {m:Int} {i:Nat} (h:(l.getD i deal0).on m=false):apl1 l m (i+1)=apl1 l m i:=by
 rw [apl1,List.range_succ,List.filter_append,List.filter_cons_of_neg (by rw [h];exact Bool.false_ne_true),List.filter_nil,zfg];rfl
theorem apl1_pre {l:List Deal} {m:Int} (i j:Nat): ∃r,apl1 l m (i+j)=apl1 l m i++r:=by
 induction j with
 | zero=>exact ⟨[],by simp⟩
 | succ j ih=>
  obtain ⟨r,hr⟩:=ih;cases h:(l.getD (i+j) deal0).on m with
  | true=>exact ⟨r++[i+j],by rw [<-zfq,apl1_yes h,hr,zfz]⟩
  | false=>exact ⟨r,by rw [<-zfq,apl1_no h,hr]⟩
theorem zs5 {l:List Deal} {m:Int} {i:Nat} (hi:i < l.length) (h:(l.getD i deal0).on m=true):(apl1 l m i).length < (apl l m).length/\(apl l m).getD (apl1 l m i).length 0=i:=by
 obtain ⟨r,hr⟩:=apl1_pre (l:=l) (m:=m) (i+1) (l.length - (i+1));rw [show i+1+(l.length - (i+1))=l.length by omega,apl1_yes h] at hr;have hr:apl l m=apl1 l m i++[i]++r:=hr;rw [hr];constructor
 ·simp only [zck,List.length_singleton];omega
 ·simp [List.getD_eq_getElem?_getD]
theorem on_yes {d:Deal} {m:Int} (h1:d.lo<=m) (h2:m < d.hi):d.on m=true:=by simp [Deal.on,h1,h2]
theorem on_no1 {d:Deal} {m:Int} (h1: ¬d.lo<=m):d.on m=false:=by simp [Deal.on,h1]
theorem on_no2 {d:Deal} {m:Int} (h2: ¬m < d.hi):d.on m=false:=by simp [Deal.on,h2]
end An
namespace An.S
open Go Go.Proofs An Tryz
instance ti22:TyI Tryz.prog 22 1 false:=⟨by kernel_rfl,by kernel_rfl⟩
theorem yb7 (l:List Deal) (m:Int):
  CtG Tryz.prog 126 [] [.val (tL 7 true tDeal l),.val (tI m)] (.own (.fn 200 [.ptr 2 0,.ptr 3 0])) [(2,⟨22,1,false,[.val (tL 7 true tDeal l)]⟩),(3,⟨3,1,false,[.val (tI m)]⟩)] [2,3]:=by
 refine CtG.intro [] func126 rfl ntmps126 rfl rfl trivial ?_;intro w F η;refine A9 ?_;refine R2 (xv6 (ps:=[.ptr 2 0,.ptr 3 0]) rfl) rfl rfl ?_;refine A4 ?_;exact xg3 LentC.mk' rfl rfl Imp.refl qB rfl ⟨⟨rfl,(SupX.lit rfl)⟩,⟨rfl,(SupX.lit rfl)⟩,trivial⟩ rfl
theorem kq {m n:Nat} (h:m=n):some (HEnt.mk (2*m) 1 false [])=some (HEnt.mk (2*n) 1 false []):=by rw [h]
theorem apl_le {l:List Deal} {m:Int} {i:Nat} (hi:i < l.length) (h:(l.getD i deal0).on m=true):LeL [tI (i:Int),tDeal (l.getD i deal0)] ((fun k=>[tI (((apl l m).getD k 0:Nat):Int),tDeal (l.getD ((apl l m).getD k 0) deal0)]) (apl1 l m i).length):=by
 show LeL _ [tI (((apl l m).getD (apl1 l m i).length 0:Nat):Int),tDeal (l.getD ((apl l m).getD (apl1 l m i).length 0) deal0)];rw [(zs5 hi h).2];exact ⟨zao,zao,trivial⟩
theorem yb6 (ds:List Deal) (m:Int) (hl:ds.length<=16):
  ItC Tryz.prog 200 [(1,⟨22,1,false,[.val (tL 7 true tDeal ds)]⟩),(2,⟨3,1,false,[.val (tI m)]⟩)] [.ptr 1 0,.ptr 2 0] ((apl ds m).length) (fun k=>[tI (((apl ds m).getD k 0:Nat):Int),tDeal (ds.getD ((apl ds m).getD k 0) deal0)]):=by
 refine ItC.intro (K:=99) [1,2] func200 rfl ntmps200 rfl rfl ⟨⟨rfl,(SupX.lit rfl)⟩,⟨rfl,(SupX.lit rfl)⟩,trivial⟩ rfl ?_;intro w F η l V J Jc hB;refine A8 ?_;refine cL (fun (i:Nat)=>i<=ds.length) (fun (i:Nat)=>uV (uV (uV (uO (uO (uV uN 0 (tE (.func (.yield l) #[] #[]))) 1 (.ptr 1 0)) 2 (.ptr 2 0)) 6 (tL 7 true tDeal ds)) 7 (tI ds.length)) 8 (tI i)) (fun (i:Nat)=>uK (uK (uK uN 1 22 1 false [.val (tL 7 true tDeal ds)]) 2 3 1 false [.val (tI m)]) 99 (2*(apl1 ds m i).length) 1 false []) [1,2,99] (fun (i:Nat)=>ds.length - i) (0) (zbs _) ?_;intro i hI;refine A6 ?_;refine xa6 rfl (fun h102=> ?_) (fun h102=> ?_)
 ·
  refine A7 ?_;refine R2 (x8 sl22 i (by omega) (zai (l:=ds) (n:=i) (d:=deal0))) rfl rfl ?_;refine A1 ?_;refine RE (xa3 (k:=5) (n:=7) (agg:=true) zr44.1 zr44.2 rfl) trivial trivial qA ?_;refine A5 ?_;refine xe3 ?_;refine xa5 (xf4 fo44_0.h rfl) qA trivial trivial rfl (xq4 (0) ti3 rfl rfl rfl (At.g 0 rfl rfl) rfl rfl (xa5 (x7 (0) ti3 rfl rfl) qA qA trivial rfl (xa5 yo4 qB trivial trivial rfl (xa5 xa4 qA trivial trivial rfl ?_))));refine zq5 (t:=17) rfl (fun h103=> ?_) (fun h103=> ?_)
  ·
   refine xu2 (zbg h103) rfl (x7 (0) ti3 rfl rfl) rfl qA qA trivial rfl (xu2 (zbg h103) rfl (xf4 fo44_1.h rfl) rfl qA trivial trivial rfl (qr7 (zbg h103) rfl rfl (0) ti3 rfl rfl rfl (At.g 1 rfl rfl) rfl rfl (xu2 (zbg h103) rfl yo2 rfl qB trivial trivial rfl (xa5 (xm0 (zbg h103)) qB trivial trivial rfl (xa5 xa4 qA trivial trivial rfl ?_)))));refine zq5 (t:=23) rfl (fun h103_2=> ?_) (fun h103_2=> ?_)
   ·
    refine xu2 (zbg h103_2) rfl xa4 rfl qA trivial trivial rfl (xu2 (zbg h103_2) rfl xa4 rfl qA trivial trivial rfl (xu2 (zbg h103_2) rfl (x7 (0) ti44 rfl rfl) rfl qA qA trivial rfl ?_));have hon:=on_yes h103 h103_2;refine yz9 (ts:=[tI (i:Int),tDeal (ds.getD i deal0)]) hB (qt4 rfl (zbg h103_2) rfl rfl) rfl rfl qB rfl rfl (zs5 (by omega) hon).1 (apl_le (by omega) hon) ?_ ?_
    ·
     refine xu2 (zbg h103_2) rfl xm4 rfl qA trivial trivial rfl (xa5 (xm0 (zbg h103_2)) qB trivial trivial rfl (xd1 ?_));refine A9 ?_;exact kF (i+1) ⟨(by omega),(by omega)⟩ (hh:=((SubK.cons (kq (by rw [apl1_yes hon,zck,List.length_singleton]))) (SubK.cons rfl (SubK.cons rfl zax))))
    ·
     refine xu2 (zbg h103_2) rfl xm4 rfl qA trivial trivial rfl (xa5 (xm0 (zbg h103_2)) qB trivial trivial rfl (xd1 ?_));refine A7 ?_;exact E_it hB rfl trivial rfl (.inl rfl) rfl (.inr ⟨(apl1 ds m i).length,(zs5 (by omega) hon).1,rfl⟩)
   ·
    refine xm5 (zbf h103_2) rfl rfl rfl (xm5 (zbf h103_2) rfl rfl rfl (xm5 (zbf h103_2) rfl rfl rfl (xm5 (zbf h103_2) rfl rfl rfl (xm5 (zbf h103_2) rfl rfl rfl (xa5 (xc8 (zbf h103_2)) qB trivial trivial rfl (xd1 ?_))))));refine A9 ?_;exact kF (i+1) ⟨(by omega),(by omega)⟩ (hh:=((SubK.cons (kq (by rw [apl1_no (on_no2 h103_2)]))) (SubK.cons rfl (SubK.cons rfl zax))))
  ·
   refine xm5 (zbf h103) rfl rfl rfl (xm5 (zbf h103) rfl rfl rfl (xm5 (zbf h103) rfl rfl rfl (xm5 (zbf h103) rfl rfl rfl (xa5 (xc8 (zbf h103)) qB trivial trivial rfl (xa5 xa4 qA trivial trivial rfl (xm5 rfl rfl rfl rfl (xm5 rfl rfl rfl rfl (xm5 rfl rfl rfl rfl (xm5 rfl rfl rfl rfl (xm5 rfl rfl rfl rfl (xa5 (xc8 rfl) qB trivial trivial rfl (xd1 ?_))))))))))));refine A9 ?_;exact kF (i+1) ⟨(by omega),(by omega)⟩ (hh:=((SubK.cons (kq (by rw [apl1_no (on_no1 h103)]))) (SubK.cons rfl (SubK.cons rfl zax))))
 ·
  refine A4 ?_;exact E_it hB rfl trivial rfl (.inr rfl) rfl (.inl (by rw [show i=ds.length by omega];rfl))
end An.S
namespace An
open Go
structure Dv where
  b:List Int
  p:List Int
  q:List Int
  r:Int
def shr (l:List Deal) (i:Nat):Rat:=(l.getD i deal0).share.rat
def Dv.n (s:Dv) (i:Nat):Int:=s.b.getD i 0+s.r
def Dv.pd (l:List Deal) (s:Dv) (i:Nat):Int:=take (shr l i) (s.n i)
def dv1 (l:List Deal) (s:Dv) (i:Nat):Dv:=⟨s.b.set i (s.n i),s.p.set i (s.pd l i),s.q.set (i+1) (s.pd l i - s.p.getD i 0),s.r - (s.pd l i - s.p.getD i 0)⟩
def dvRun (l:List Deal):Dv->List Nat->Dv×Bool
 | s,[]=>(s,true)
 | s,i::r=>if wIn (s.n i) then dvRun l (dv1 l s i) r else (⟨s.b.set i (s.n i),s.p,s.q,s.r⟩,false)
structure DvI (l:List Deal) (k:Nat) (s:Dv):Prop where
  b:s.b.length=l.length
  p:s.p.length=l.length
  q:s.q.length=l.length+1
  w: ∀i,i < l.length->wIn (s.b.getD i 0)=true/\wIn (s.p.getD i 0)=true
  r: -1099511627776 - (k:Int)*2199023255552<=s.r/\s.r<=1099511627776+(k:Int)*2199023255552
theorem xq1 {q:Rat} {n:Int} (h0:0<=q) (h1:q<=1) (hn:wIn n=true):wIn (take q n)=true:=by
 obtain ⟨h2,h3⟩:=qf9 (n:=n) h0 h1;obtain ⟨h4,h5⟩:=xd0.1 hn;rw [xd0];rcases Int.le_total 0 n with h | h
 ·have:=h2 h;omega
 ·have:=h3 h;omega
theorem ye6 {l:List Int} {i j:Nat} {x:Int} (h:i < l.length):(l.set i x).getD j 0=if j=i then x else l.getD j 0:=by
 rw [zbh,zbh,zeo];by_cases hij:i=j
 ·subst hij;simp [h]
 ·rw [if_neg hij,if_neg (fun e=>hij e.symm)]
theorem zs1 {d:Deal} (hD:d.share.dig) (hv:d.valid=true):0<=d.share.rat/\d.share.rat<=1:=by
 obtain ⟨_,_,_,v1,v2,v3,_⟩:=Deal.valid_iff.1 hv;obtain ⟨e,_⟩:=Fr.of_valid' hD v1;rw [e] at v2;have h1: ¬d.share.rat.num < 0:=of_decide_eq_false v2;exact ⟨Rat.num_nonneg.1 (by omega),v3⟩
theorem xq6 {l:List Deal} {i:Nat} (h:validL l=true) (hi:i < l.length):(l.getD i deal0).valid=true:=by
 simp only [validL,zcf,zez] at h;have e:l.getD i deal0=l[i]:=by simp [hi]
 rw [e];exact h.2 _ (zdw hi)
theorem ye3 {l:List Deal} {i:Nat} (hv:validL l=true) (hD: ∀d∈l,d.share.dig) (hi:i < l.length):0<=shr l i/\shr l i<=1:=by
 have e:l.getD i deal0=l[i]:=by simp [hi]
 exact zs1 (by rw [e];exact hD _ (zdw hi)) (xq6 hv hi)
theorem DvI.pd {l:List Deal} {s:Dv} {i:Nat} (hv:validL l=true) (hD: ∀d∈l,d.share.dig) (hi:i < l.length) (hw:wIn (s.n i)=true):wIn (s.pd l i)=true:=by
 obtain ⟨h0,h1⟩:=ye3 hv hD hi;exact xq1 h0 h1 hw
theorem DvI.next {l:List Deal} {k:Nat} {s:Dv} {i:Nat} (h:DvI l k s) (hv:validL l=true) (hD: ∀d∈l,d.share.dig) (hi:i < l.length) (hw:wIn (s.n i)=true):DvI l (k+1) (dv1 l s i):=by
 have hp:=DvI.pd (s:=s) hv hD hi hw;obtain ⟨h1,h2,h3,h4,h5⟩:=h;refine ⟨by simp [dv1,h1],by simp [dv1,h2],by simp [dv1,h3],fun j hj=> ?_,?_⟩
 ·simp only [dv1];rw [ye6 (by omega),ye6 (by omega)];split
  ·exact ⟨hw,hp⟩
  ·exact h4 j hj
 ·have h6:=xd0.1 (h4 i hi).2;have h7:=xd0.1 hp;simp only [dv1,Int.natCast_add];omega
theorem zg3 {l:List Deal} {m:Int} {k:Nat} (hk:k < (apl l m).length):(apl l m).getD k 0 < l.length/\(l.getD ((apl l m).getD k 0) deal0).on m=true:=by
 have e:(apl l m).getD k 0=(apl l m)[k]:=by simp [hk]
 have h:=zdw hk;rw [e];have h':=List.mem_filter.1 h;exact ⟨zcw.1 h'.1,h'.2⟩
theorem yd1 {l:List Deal} {m:Int}:(apl l m).length<=l.length:=by
 have:=List.length_filter_le (fun j=>(l.getD j deal0).on m) (List.range l.length);rw [List.length_range] at this;exact this
theorem zh8 {is:List Nat} {k:Nat} (hk:k < is.length):is.drop k=is.getD k 0::is.drop (k+1):=by
 rw [List.drop_eq_getElem_cons hk];simp [hk]
theorem qd8 {l:List Deal} {s:Dv} {is:List Nat} {k:Nat} {X:Dv×Bool} (hk:k < is.length) (h:dvRun l s (is.drop k)=X) (hw:wIn (s.n (is.getD k 0))=true):dvRun l (dv1 l s (is.getD k 0)) (is.drop (k+1))=X:=by
 rw [zh8 hk,dvRun,if_pos hw] at h;exact h
theorem yj0 {l:List Deal} {s:Dv} {is:List Nat} {k:Nat} {X:Dv×Bool} (hk:k < is.length) (h:dvRun l s (is.drop k)=X) (hw:wIn (s.n (is.getD k 0))=false):X=(⟨s.b.set (is.getD k 0) (s.n (is.getD k 0)),s.p,s.q,s.r⟩,false):=by
 rw [zh8 hk,dvRun,if_neg (by rw [hw];exact Bool.false_ne_true)] at h;exact h.symm
theorem qg7 {l:List Deal} {s:Dv} {is:List Nat} {X:Dv×Bool} (h:dvRun l s (is.drop is.length)=X):X=(s,true):=by
 rw [List.drop_length,dvRun] at h;exact h.symm
end An
namespace An.S
open Go Go.Proofs An Tryz
instance ti192:TyI Tryz.prog 192 1 false:=⟨by kernel_rfl,by kernel_rfl⟩
instance fo99_0:FoI Tryz.prog 99 0 0:=⟨by kernel_rfl⟩
instance fo99_1:FoI Tryz.prog 99 1 3:=⟨by kernel_rfl⟩
instance fi126:FnI Tryz.prog 126:=⟨_,func126,by kernel_rfl,rfl⟩
instance fi200:FnI Tryz.prog 200:=⟨_,func200,by kernel_rfl,rfl⟩
theorem zr3:(Tryz.prog.info? 3).bind (·.zero)=some (.int .i64 0)/\ ∀F w,(tE (.int .i64 0)).p F w (.int .i64 0):=⟨by kernel_rfl,fun _ _=>rfl⟩
theorem zr4:(Tryz.prog.info? 4).bind (·.zero)=some (.bool false)/\ ∀F w,(tE (.bool false)).p F w (.bool false):=⟨by kernel_rfl,fun _ _=>rfl⟩
theorem zr23:(Tryz.prog.info? 23).bind (·.zero)=some (.slice none 0 0)/\ ∀F w,(tIs []).p F w (.slice none 0 0):=⟨by kernel_rfl,fun _ _=>⟨none,0,rfl,zbm _,by decide,.inl rfl⟩⟩
theorem xq8 {xs:List Int} {i:Nat} {m:Int} (h:i < xs.length):(rI (xs.set i m))[i]? =some (.val (tI m)):=by
 rw [rI,zbp,List.getElem?_set_self h];rfl
def dvAll (l:List Deal) (m:Int) (b p:List Int) (a:Int):Dv×Bool:=dvRun l ⟨b,p,List.replicate (l.length+1) 0,a⟩ (apl l m)
theorem qo4 (l:List Deal) (m a o:Int) (b p:List Int) (hv:validL l=true) (hd: ∀d∈l,d.share.dig) (hb:b.length=l.length) (hp:p.length=l.length) (hw0: ∀i,i < l.length->wIn (b.getD i 0)=true/\wIn (p.getD i 0)=true) (ho:wIn o=true) (ha:wIn a=true):
  CtG Tryz.prog 73 [(100,⟨99,1,false,[.val (tI o),.own (.sl 101 1 0 l.length),.own (.sl 102 1 0 l.length),.val (tL 7 true tDeal l)]⟩),(101,⟨3,1,false,rI b⟩),(102,⟨3,1,false,rI p⟩)] [.own (.ptr 100 0),.val (tI m),.val (tI a)] (.val (tT [tIs (bif (dvAll l m b p a).2 then (dvAll l m b p a).1.q.set 0 (dvAll l m b p a).1.r else []),tB ((dvAll l m b p a).2 && wIn (o+(dvAll l m b p a).1.r))])) [(100,⟨99,1,false,[.val (tI (bif (dvAll l m b p a).2 then o+(dvAll l m b p a).1.r else o)),.own (.sl 101 1 0 l.length),.own (.sl 102 1 0 l.length),.val (tL 7 true tDeal l)]⟩),(101,⟨3,1,false,rI (dvAll l m b p a).1.b⟩),(102,⟨3,1,false,rI (dvAll l m b p a).1.p⟩)] []:=by
 refine CtG.intro [100,101,102] func73 rfl ntmps73 rfl rfl ⟨⟨rfl,(SupX.lit rfl)⟩,⟨rfl,xd2⟩,⟨rfl,xd2⟩,trivial⟩ ?_;intro w F η;have hl16:=xf8 hv;obtain ⟨a1,a2⟩:=xd0.1 ha;obtain ⟨o1,o2⟩:=xd0.1 ho;have hI0:DvI l 0 ⟨b,p,List.replicate (l.length+1) 0,a⟩:=⟨hb,hp,List.length_replicate,hw0,by simp only [Int.natCast_zero];omega⟩
 refine A3 ?_;refine RE (xa3 (k:=6) (n:=1) (agg:=false) zr23.1 zr23.2 rfl) trivial trivial qA (RE (xa3 (k:=7) (n:=1) (agg:=false) zr4.1 zr4.2 rfl) trivial trivial qA ?_);refine A7 ?_;refine RE (x7 (3) ti22 rfl rfl) qA qA trivial ?_;refine A2 ?_;refine RE (xe5 (k:=19) (t:=tE (.int .i64 0)) (ts:=rI (List.replicate (l.length+1) 0)) (l.length+1) (l.length+1) zgt el3 (fun _ _=>rfl) rfl (by omega) (by omega) (zbm _) (by omega) (by omega) (qr0 _)) qB trivial qA (RE (xa3 (k:=8) (n:=1) (agg:=false) zr23.1 zr23.2 rfl) trivial trivial qA ?_);refine A6 ?_;refine RE (xa3 (k:=9) (n:=1) (agg:=false) zr3.1 zr3.2 rfl) trivial trivial qA ?_;refine A9 ?_;refine RE (x7 (3) ti22 rfl rfl) qA qA trivial ?_;refine A1 ?_;refine RE (xe9 (fun j=>cond (Nat.beq j 2) 26 (1026)) (yb7 l m) fi126 rfl (krN (ρ:=fun j=>cond (Nat.beq j 2) 26 (1026))) (krC (ρ:=fun j=>cond (Nat.beq j 2) 26 (1026)) (k:=2) rfl (krC (ρ:=fun j=>cond (Nat.beq j 2) 26 (1026)) (k:=3) rfl (krN (ρ:=fun j=>cond (Nat.beq j 2) 26 (1026))))) ⟨⟨rfl,(SupX.lit rfl)⟩,⟨rfl,(SupX.lit rfl)⟩,trivial⟩ rfl) qB trivial qB ?_;refine A3 ?_;refine yi1 (caps:=[.ptr 1 0,.ptr 2 0]) (κ:=Unit) (zaa 2 1026 (zab 1 26)) rfl (fun _ h=>h) trivial (yb6 l m hl16) fi200 rfl qB rfl rfl (fun _ _=>rfl) (uO (uO (uO (uO (uO uN 3 (.ptr 3 0)) 6 (.ptr 6 0)) 7 (.ptr 7 0)) 8 (.ptr 8 0)) 9 (.ptr 9 0)) [3,6,7,8,9,19,100,101,102] [3,6,7,8,9] (zan rfl (zan rfl (zan rfl (zan rfl (zan rfl zay))))) (zak rfl (zak rfl (zak rfl (zak rfl (zak rfl zar))))) rfl (lkOk rfl) (fun (k:Nat) (s:Dv)=>DvI l k s/\dvRun l s ((apl l m).drop k)=(dvAll l m b p a)) (fun (k:Nat) (s:Dv)=>uK (uK (uK (uK (uK (uK (uK (uK (uK uN 3 192 1 false [.own (.ptr 100 0)]) 6 23 1 false [.val (tIs [])]) 7 4 1 false [.val (tE (.bool false))]) 8 23 1 false [.own (.sl 19 1 0 (l.length+1))]) 9 3 1 false [.val (tI s.r)]) 19 3 1 false (rI s.q)) 100 99 1 false [.val (tI o),.own (.sl 101 1 0 l.length),.own (.sl 102 1 0 l.length),.val (tL 7 true tDeal l)]) 101 3 1 false (rI s.b)) 102 3 1 false (rI s.p)) (fun k x=>(zam rfl (supJ xd2) (zam rfl (supJ xd2) (zam rfl (supJL rfl) (zam rfl (supJ xd2) (zam rfl (supJL rfl) (zam rfl (supJL rfl) (zam rfl (supJL rfl) (zam rfl (supJL rfl) (zam rfl (supJL rfl) zaz)))))))))) (fun k x y hy=>by simp only [zbt,zed,or_false] at hy;rcases hy with rfl | rfl <;> rfl) (fun e (_:Unit)=>e= .ret/\(dvAll l m b p a).2=false) (fun (_:Unit)=>uK (uK (uK (uK (uK uN 6 23 1 false [.val (tE (.slice none 0 0))]) 7 4 1 false [.val (tE (.bool false))]) 100 99 1 false [.val (tI o),.own (.sl 101 1 0 l.length),.own (.sl 102 1 0 l.length),.val (tL 7 true tDeal l)]) 101 3 1 false (rI (dvAll l m b p a).1.b)) 102 3 1 false (rI (dvAll l m b p a).1.p)) (fun _ _ h=> .inl h.1) (⟨b,p,List.replicate (l.length+1) 0,a⟩) ⟨hI0,rfl⟩ (SubK.cons rfl (SubK.cons rfl (SubK.cons rfl (SubK.cons rfl (SubK.cons rfl (SubK.cons rfl (SubK.cons rfl (SubK.cons rfl (SubK.cons rfl zax))))))))) ?_ ?_ ?_
 ·
  intro D lp o1 o2 O W lη lb V0 k s hk hI;obtain ⟨hv1,hrun⟩:=hI;have hbl:=hv1.b;have hpl:=hv1.p;have hql:=hv1.q;have hr:=hv1.r;have hN:=yd1 (l:=l) (m:=m);obtain ⟨hi,hon⟩:=zg3 hk;have hbw:=xd0.1 (hv1.w _ hi).1;have hpw:=xd0.1 (hv1.w _ hi).2;apply yi3
  ·
   refine A6 ?_;refine RE (xa3 (k:=11) (n:=7) (agg:=true) zr44.1 zr44.2 rfl) trivial trivial qA ?_;refine A2 ?_;exact yc6 fun _ _ h=>h
  ·
   refine A7 ?_;refine RE (x7 (1) ti23 rfl rfl) qA qA trivial ?_;refine A1 ?_;refine R2 (zag sl23 rfl) rfl rfl (RE (x7 (((apl l m).getD k 0)) ti3 (za8 (by omega)) (by omega)) qA qA trivial ?_);refine A2 ?_;refine R2 (zag sl23 rfl) rfl rfl (RE (xa8 (((apl l m).getD k 0)) ti3 (yg5 (by omega)) (by omega) (ya1 (m:=(s.n ((apl l m).getD k 0))) rfl)) qB qA trivial ?_);refine A9 ?_;refine RE (x7 (1) ti23 rfl rfl) qA qA trivial ?_;refine A1 ?_;refine R2 (zag sl23 rfl) rfl rfl (RE (x7 (((apl l m).getD k 0)) ti3 (xq8 (by omega)) (by omega)) qA qA trivial (R1 (x3 (xp4 _) fi54 rfl) rfl ?_));refine A3 ?_;refine xc7 rfl (fun h116=> ?_) (fun h116=> ?_)
   ·
    have hw:wIn (s.n ((apl l m).getD k 0))=false:=by rw [zen] at h116;exact h116
    refine A9 ?_;exact qv2 (()) (.inl rfl) (⟨rfl,by rw [yj0 hk hrun hw]⟩) ((SubK.cons (by rw [yj0 hk hrun hw];rfl)) ((SubK.cons (by rw [yj0 hk hrun hw];rfl)) (SubK.cons rfl (SubK.cons rfl (SubK.cons rfl zax))))) (zam rfl (supJ xd2) (zam rfl (supJ xd2) (zam rfl (supJL rfl) (zam rfl (supJL rfl) (zam rfl (supJL rfl) zaz))))) (lkOk rfl)
   ·
    have hw:wIn (s.n ((apl l m).getD k 0))=true:=by rw [Bool.not_eq_false'] at h116;exact h116
    have hpd2:=xd0.1 (DvI.pd (s:=s) hv hd hi hw);have hpd: -1099511627776<=take (l.getD ((apl l m).getD k 0) deal0).share.rat (s.n ((apl l m).getD k 0))/\take (l.getD ((apl l m).getD k 0) deal0).share.rat (s.n ((apl l m).getD k 0))<=1099511627776:=xd0.1 (DvI.pd hv hd hi hw);refine A10 ?_;refine RE (x7 (1) ti23 rfl rfl) qA qA trivial ?_;refine A1 ?_;refine R2 (zag sl23 rfl) rfl rfl (RE (x7 (((apl l m).getD k 0)) ti3 (xq8 (by omega)) (by omega)) qA qA trivial (R2 (x3 (zi7 _ (hd _ (xp9 (l:=l) (i:=((apl l m).getD k 0)) (d:=deal0) (by omega))) (xq6 hv (by omega)) _ hw) fi55 rfl) rfl rfl ?_));refine A13 ?_;refine RE (x7 (2) ti23 rfl rfl) qA qA trivial ?_;refine A1 ?_;refine R2 (zag sl23 rfl) rfl rfl (RE (x7 (((apl l m).getD k 0)) ti3 (za8 (by omega)) (by omega)) qA qA trivial ?_);refine A1 ?_;refine R2 (zag sl23 rfl) rfl rfl (RE (xa8 (((apl l m).getD k 0)+1) ti3 (yg5 (by omega)) (by omega) (ya1 (m:=(s.pd l ((apl l m).getD k 0) - s.p.getD ((apl l m).getD k 0) 0)) rfl)) qB qA trivial ?_);refine A8 ?_;refine RE (x7 (2) ti23 rfl rfl) qA qA trivial ?_;refine A2 ?_;refine R2 (zag sl23 rfl) rfl rfl (RE (xa8 (((apl l m).getD k 0)) ti3 (yg5 (by omega)) (by omega) (ya1 (m:=(s.pd l ((apl l m).getD k 0))) rfl)) qB qA trivial ?_);refine A7 ?_;refine R2 (zag sl23 rfl) rfl rfl (RE (x7 (((apl l m).getD k 0)+1) ti3 (xq8 (by omega)) (by omega)) qA qA trivial ?_);refine A4 ?_;exact yu4 (dv1 l s ((apl l m).getD k 0)) ⟨hv1.next hv hd hi hw,qd8 hk hrun hw⟩ (SubK.cons rfl (SubK.cons rfl (SubK.cons rfl (SubK.cons rfl (SubK.cons rfl (SubK.cons rfl (SubK.cons rfl (SubK.cons rfl (SubK.cons rfl zax))))))))) (zam rfl (supJ xd2) (zam rfl (supJ xd2) (zam rfl (supJL rfl) (zam rfl (supJ xd2) (zam rfl (supJL rfl) (zam rfl (supJL rfl) (zam rfl (supJL rfl) (zam rfl (supJL rfl) (zam rfl (supJL rfl) zaz))))))))) (lkOk rfl)
 ·
  intro D hD s hI;obtain ⟨hv1,hrun⟩:=hI;have hbl:=hv1.b;have hpl:=hv1.p;have hql:=hv1.q;have hr:=hv1.r;have hN:=yd1 (l:=l) (m:=m);have hR:=qg7 hrun;refine A6 ?_;refine R2 (zag sl23 rfl) rfl rfl (RE (xa8 (0) ti3 (yg5 (by omega)) (by omega) (ya1 (m:=s.r) rfl)) qB qA trivial ?_);refine A18 ?_;refine A7 ?_;refine R1 (x3 (xp4 _) fi54 rfl) rfl ?_;refine A4 ?_;refine yj5 (q:=6) (j:=19) (f:=fun n:Int=>tI n) (xs:=s.q.set 0 s.r) 0 rfl rfl rfl rfl (NoLbK.lent (LentC.loop LentC.mk' hD) rfl rfl rfl) (zs6 (by rw [zdx];exact hql)) (by rw [zdx];exact hql) rfl ?_;refine A1 ?_;exact yv2 (LentC.loop LentC.mk' hD) (rs:=[.cell 6 23,.cell 7 4]) rfl rfl ⟨⟨_,_,_,_,_,rfl,rfl,ti23,(Le.of (by rw [hR];rfl))⟩,⟨_,_,_,_,_,rfl,rfl,ti4,(zau (by rw [hR];rfl))⟩,trivial⟩ ⟨(by rw [hR];rfl),(by rw [hR];rfl),(by rw [hR];rfl),trivial⟩ ⟨⟨rfl,(SupX.lit rfl)⟩,⟨rfl,xd2⟩,⟨rfl,xd2⟩,trivial⟩ rfl
 ·
  intro D hD e i hi;obtain ⟨rfl,hx⟩:=hi;refine A2 ?_;exact yv2 (LentC.loop LentC.mk' hD) (rs:=[.cell 6 23,.cell 7 4]) rfl rfl ⟨⟨_,_,_,_,_,rfl,rfl,ti23,(leNil (by rw [hx];rfl))⟩,⟨_,_,_,_,_,rfl,rfl,ti4,(zau (by rw [hx];rfl))⟩,trivial⟩ ⟨(by rw [hx];rfl),rfl,rfl,trivial⟩ ⟨⟨rfl,(SupX.lit rfl)⟩,⟨rfl,xd2⟩,⟨rfl,xd2⟩,trivial⟩ rfl
instance ti99:TyI Tryz.prog 99 4 true:=⟨by kernel_rfl,by kernel_rfl⟩
instance fi16:FnI Tryz.prog 16:=⟨_,func16,by kernel_rfl,rfl⟩
instance fi72:FnI Tryz.prog 72:=⟨_,func72,by kernel_rfl,rfl⟩
instance fi73:FnI Tryz.prog 73:=⟨_,func73,by kernel_rfl,rfl⟩
theorem zr99:(Tryz.prog.info? 99).bind (·.zero)=some (.agg #[.int .i64 0,.slice none 0 0,.slice none 0 0,.slice none 0 0])/\ ∀F w,(tS [⟨3,true,(tS [⟨1,false,(tE (.int .i64 0))⟩,⟨1,false,(tIs [])⟩,⟨1,false,(tIs [])⟩])⟩,⟨1,false,(tE (.slice none 0 0))⟩]).p F w (.agg #[.int .i64 0,.slice none 0 0,.slice none 0 0,.slice none 0 0]):=⟨by kernel_rfl,fun _ _=>⟨_,rfl,rfl,⟨fun h=>Bool.noConfusion h,⟨_,rfl,rfl,⟨fun _=>rfl,rfl⟩,⟨fun _=>rfl,⟨none,0,rfl,zbm _,by decide,.inl rfl⟩⟩,⟨fun _=>rfl,⟨none,0,rfl,zbm _,by decide,.inl rfl⟩⟩,trivial⟩⟩,⟨fun _=>rfl,rfl⟩,trivial⟩⟩
theorem bu99:BuI Tryz.prog 99 (fun i=>[(0,3),(3,1)][i]?) (.agg #[.int .i64 0,.slice none 0 0,.slice none 0 0,.slice none 0 0]):=BuI.struct underlying99 (by kernel_rfl) (by kernel_rfl)
theorem yu1 {l:List Deal}: ∀(is:List Nat) (s:Dv),(dvRun l s is).1.b.length=s.b.length/\(dvRun l s is).1.p.length=s.p.length/\(dvRun l s is).1.q.length=s.q.length
 | [],s=>⟨rfl,rfl,rfl⟩
 | i::r,s=>by
  rw [dvRun];split
  ·obtain ⟨h1,h2,h3⟩:=yu1 r (dv1 l s i);exact ⟨h1.trans (by simp [dv1]),h2.trans (by simp [dv1]),h3.trans (by simp [dv1])⟩
  ·exact ⟨by simp,rfl,rfl⟩
def stepBad (l:List Deal) (o:Int) (b p:List Int) (m a:Int):Bool:= !rightL l o b p || decide (m < 0) || decide (1048576 < m) || !wIn a
def stepOk (l:List Deal) (o:Int) (b p:List Int) (m a:Int):Bool:=(dvAll l m b p a).2 && wIn (o+(dvAll l m b p a).1.r)
def stepE (l:List Deal) (o:Int) (b p:List Int) (m a:Int):Int:=bif stepBad l o b p m a then 2 else bif stepOk l o b p m a then 0 else 4
def stepG (l:List Deal) (o:Int) (b p:List Int) (m a:Int):Bool:= !stepBad l o b p m a && stepOk l o b p m a
def stepO (l:List Deal) (o:Int) (b p:List Int) (m a:Int):Int:=bif stepG l o b p m a then o+(dvAll l m b p a).1.r else 0
def stepB (l:List Deal) (o:Int) (b p:List Int) (m a:Int):List Int:=bif stepG l o b p m a then (dvAll l m b p a).1.b else []
def stepP (l:List Deal) (o:Int) (b p:List Int) (m a:Int):List Int:=bif stepG l o b p m a then (dvAll l m b p a).1.p else []
def stepQ (l:List Deal) (o:Int) (b p:List Int) (m a:Int):List Int:=bif stepG l o b p m a then (dvAll l m b p a).1.q.set 0 (dvAll l m b p a).1.r else []
theorem xj8 {l:List Deal} {o:Int} {b p:List Int} {m a:Int} (h:stepBad l o b p m a=true):stepO l o b p m a=0/\stepB l o b p m a=[]/\stepP l o b p m a=[]/\stepQ l o b p m a=[]/\stepE l o b p m a=2:=by
 have hg:stepG l o b p m a=false:=by rw [stepG,h];rfl
 simp only [stepO,stepB,stepP,stepQ,stepE,hg,h,zey,zeq,and_self]
theorem yh2 {l:List Deal} {o:Int} {b p:List Int} {m a:Int} (h:stepBad l o b p m a=false) (h2:stepOk l o b p m a=false):stepO l o b p m a=0/\stepB l o b p m a=[]/\stepP l o b p m a=[]/\stepQ l o b p m a=[]/\stepE l o b p m a=4:=by
 have hg:stepG l o b p m a=false:=by rw [stepG,h,h2];rfl
 simp only [stepO,stepB,stepP,stepQ,stepE,hg,h,h2,zeq,and_self]
theorem yt0 {l:List Deal} {o:Int} {b p:List Int} {m a:Int} (h:stepBad l o b p m a=false) (h2:stepOk l o b p m a=true):stepO l o b p m a=o+(dvAll l m b p a).1.r/\stepB l o b p m a=(dvAll l m b p a).1.b/\stepP l o b p m a=(dvAll l m b p a).1.p/\stepQ l o b p m a=(dvAll l m b p a).1.q.set 0 (dvAll l m b p a).1.r/\stepE l o b p m a=0/\(dvAll l m b p a).2=true:=by
 have hg:stepG l o b p m a=true:=by rw [stepG,h,h2];rfl
 have h3:=(Bool.and_eq_true_iff.1 h2).1;simp only [stepO,stepB,stepP,stepQ,stepE,hg,h,h2,h3,zey,zeq,and_self]
theorem xo9 {l:List Deal} {o:Int} {b p:List Int} (hd: ∀d∈l,d.share.dig) (h:rightL l o b p=true):validL l=true/\b.length=l.length/\p.length=l.length/\wIn o=true/\ ∀i,i < l.length->wIn (b.getD i 0)=true/\p.getD i 0=take (shr l i) (b.getD i 0):=by
 simp only [rightL,zcf,zee,zez,zcw] at h;obtain ⟨⟨⟨⟨h1,h2⟩,h3⟩,h4⟩,h5⟩:=h;have _:=hd;exact ⟨h1,h2,h3,h4,fun i hi=>h5 i hi⟩
theorem zr9 {l:List Deal} {o:Int} {b p:List Int} (hd: ∀d∈l,d.share.dig) (h:rightL l o b p=true): ∀i,i < l.length->wIn (b.getD i 0)=true/\wIn (p.getD i 0)=true:=fun i hi=>by
 obtain ⟨h1,_,_,_,h5⟩:=xo9 hd h;obtain ⟨h6,h7⟩:=h5 i hi;obtain ⟨q0,q1⟩:=ye3 h1 hd hi;exact ⟨h6,by rw [h7];exact xq1 q0 q1 h6⟩
theorem qp5 (l:List Deal) (o:Int) (b p:List Int) (m a:Int) (hd: ∀d∈l,d.share.dig):
  Ct Tryz.prog 22 [tL 7 true tDeal l,tState o b p,tI m,tI a] (tT [tState (stepO l o b p m a) (stepB l o b p m a) (stepP l o b p m a),tIs (stepQ l o b p m a),tI (stepE l o b p m a)]):=by
 refine Ct.intro func22 rfl ntmps22 rfl ?_;intro w F;refine A3 ?_;refine RE (xa3 (k:=8) (n:=3) (agg:=true) zr25.1 zr25.2 rfl) trivial trivial qA ?_;refine A9 ?_;refine R2 (x3 (yn9 l o b p hd) fi16 rfl) rfl rfl ?_;refine A2 ?_;refine RGcase (t:=18) rfl (fun h131=> ?_) (fun h131=> ?_)
 ·
  have hB:stepBad l o b p m a=true:=by rw [stepBad,h131];rfl
  obtain ⟨e1,e2,e3,e4,e5⟩:=xj8 hB;refine A17 ?_;refine R0 (xb7 (r:=tS [⟨1,false,(tE (.int .i64 0))⟩,⟨1,false,(tIs [])⟩,⟨1,false,(tIs [])⟩]) (ts:=[]) bu25 zr25.2 zao) ?_;refine A7 ?_;exact EN (rs:=[.cell 8 25,.tmp 9,.tmp 10]) rfl rfl ⟨⟨_,_,_,_,_,rfl,rfl,ti25,(Le.of (by first | (rw [e1,e2,e3];done) | (rw [e1,e2,e3];rfl)))⟩,⟨_,rfl,(leNil e4)⟩,⟨_,rfl,(zba (by rw [e5]))⟩,trivial⟩
 ·
  have hr:rightL l o b p=true:=by rw [Bool.not_eq_false'] at h131;exact h131
  refine A4 ?_;refine RGcaseD (t:=22) rfl (fun h131_2=> ?_) (fun h131_2=> ?_)
  ·
   have hB:stepBad l o b p m a=true:=by rw [stepBad,zbg h131_2];simp
   obtain ⟨e1,e2,e3,e4,e5⟩:=xj8 hB;refine A13 ?_;refine R0 (xb7 (r:=tS [⟨1,false,(tE (.int .i64 0))⟩,⟨1,false,(tIs [])⟩,⟨1,false,(tIs [])⟩]) (ts:=[]) bu25 zr25.2 zao) ?_;refine A7 ?_;exact EN (rs:=[.cell 8 25,.tmp 9,.tmp 10]) rfl rfl ⟨⟨_,_,_,_,_,rfl,rfl,ti25,(Le.of (by first | (rw [e1,e2,e3];done) | (rw [e1,e2,e3];rfl)))⟩,⟨_,rfl,(leNil e4)⟩,⟨_,rfl,(zba (by rw [e5]))⟩,trivial⟩
  ·
   refine A4 ?_;refine RGcaseD (t:=26) rfl (fun h131_3=> ?_) (fun h131_3=> ?_)
   ·
    have hB:stepBad l o b p m a=true:=by rw [stepBad,zbg h131_3];simp
    obtain ⟨e1,e2,e3,e4,e5⟩:=xj8 hB;refine A9 ?_;refine R0 (xb7 (r:=tS [⟨1,false,(tE (.int .i64 0))⟩,⟨1,false,(tIs [])⟩,⟨1,false,(tIs [])⟩]) (ts:=[]) bu25 zr25.2 zao) ?_;refine A7 ?_;exact EN (rs:=[.cell 8 25,.tmp 9,.tmp 10]) rfl rfl ⟨⟨_,_,_,_,_,rfl,rfl,ti25,(Le.of (by first | (rw [e1,e2,e3];done) | (rw [e1,e2,e3];rfl)))⟩,⟨_,rfl,(leNil e4)⟩,⟨_,rfl,(zba (by rw [e5]))⟩,trivial⟩
   ·
    refine A1 ?_;refine Rg (zbf h131_3) rfl (x3 (xp4 _) fi54 rfl) rfl qA ?_;refine A4 ?_;refine xc7 rfl (fun h131_4=> ?_) (fun h131_4=> ?_)
    ·
     have hB:stepBad l o b p m a=true:=by rw [stepBad,h131_4];simp
     obtain ⟨e1,e2,e3,e4,e5⟩:=xj8 hB;refine A2 ?_;refine R0 (xb7 (r:=tS [⟨1,false,(tE (.int .i64 0))⟩,⟨1,false,(tIs [])⟩,⟨1,false,(tIs [])⟩]) (ts:=[]) bu25 zr25.2 zao) ?_;refine A7 ?_;exact EN (rs:=[.cell 8 25,.tmp 9,.tmp 10]) rfl rfl ⟨⟨_,_,_,_,_,rfl,rfl,ti25,(Le.of (by first | (rw [e1,e2,e3];done) | (rw [e1,e2,e3];rfl)))⟩,⟨_,rfl,(leNil e4)⟩,⟨_,rfl,(zba (by rw [e5]))⟩,trivial⟩
    ·
     have ha:wIn a=true:=by rw [Bool.not_eq_false'] at h131_4;exact h131_4
     have hB:stepBad l o b p m a=false:=by rw [stepBad,hr,ha,zbf h131_2,zbf h131_3];rfl
     refine A3 ?_;obtain ⟨hv,hbl,hpl,ho,_⟩:=xo9 hd hr;have hl16:=xf8 hv;refine A5 ?_;refine RE (xe9 (fun _=>36) (yk8 _ (by omega)) fi72 rfl (krN (ρ:=fun _=>36)) (krC (ρ:=fun _=>36) (k:=2) xo5 (krN (ρ:=fun _=>36))) ⟨⟨rfl,xd2⟩,trivial⟩ rfl) qA trivial qA ?_;refine A2 ?_;refine RE (xe9 (fun _=>39) (yk8 _ (by omega)) fi72 rfl (krN (ρ:=fun _=>39)) (krC (ρ:=fun _=>39) (k:=2) xo5 (krN (ρ:=fun _=>39))) ⟨⟨rfl,xd2⟩,trivial⟩ rfl) qA trivial qA (R3 (xz6 (es:=[.val (tI o),.own (.sl 36 1 0 b.length),.own (.sl 39 1 0 p.length)]) (r:=[.val (tI o),.own (.sl 36 1 0 b.length),.own (.sl 39 1 0 p.length)]) bu25 rfl rfl rfl rfl) rfl rfl rfl ?_);refine A1 ?_;refine R2 (xz6 (es:=[.own (rowV [.val (tI o),.own (.sl 36 1 0 b.length),.own (.sl 39 1 0 p.length)]),.val (tL 7 true tDeal l)]) (r:=[.val (tI o),.own (.sl 36 1 0 b.length),.own (.sl 39 1 0 p.length),.val (tL 7 true tDeal l)]) bu99 rfl rfl rfl rfl) rfl rfl (RE (ym5 (k:=11) (n:=4) [.int .i64 0,.slice none 0 0,.slice none 0 0,.slice none 0 0] zr99.1 rfl rfl rfl rfl) trivial trivial qA (RE (ym9 ti99 rfl rfl rfl) qB qA trivial ?_));refine A3 ?_;refine xp2 (k:=11) rfl (e':=⟨99,1,false,[.val (tI o),.own (.sl 36 1 0 l.length),.own (.sl 39 1 0 l.length),.val (tL 7 true tDeal l)]⟩) (by rw [hbl,hpl]) ?_;refine A3 ?_;refine RE (xe9 (fun j=>cond (Nat.beq j 101) 36 (cond (Nat.beq j 100) 11 (39))) (qo4 l m a o b p hv hd hbl hpl (zr9 hd hr) ho ha) fi73 rfl (krC (ρ:=fun j=>cond (Nat.beq j 101) 36 (cond (Nat.beq j 100) 11 (39))) (k:=100) rfl (krC (ρ:=fun j=>cond (Nat.beq j 101) 36 (cond (Nat.beq j 100) 11 (39))) (k:=101) xo5 (krC (ρ:=fun j=>cond (Nat.beq j 101) 36 (cond (Nat.beq j 100) 11 (39))) (k:=102) xo5 (krN (ρ:=fun j=>cond (Nat.beq j 101) 36 (cond (Nat.beq j 100) 11 (39))))))) (krC (ρ:=fun j=>cond (Nat.beq j 101) 36 (cond (Nat.beq j 100) 11 (39))) (k:=100) rfl (krC (ρ:=fun j=>cond (Nat.beq j 101) 36 (cond (Nat.beq j 100) 11 (39))) (k:=101) xo5 (krC (ρ:=fun j=>cond (Nat.beq j 101) 36 (cond (Nat.beq j 100) 11 (39))) (k:=102) xo5 (krN (ρ:=fun j=>cond (Nat.beq j 101) 36 (cond (Nat.beq j 100) 11 (39))))))) ⟨⟨rfl,(SupX.lit rfl)⟩,⟨rfl,xd2⟩,⟨rfl,xd2⟩,trivial⟩ rfl) qC qC trivial ?_;refine A14 ?_;refine xc7 rfl (fun h139=> ?_) (fun h139=> ?_)
     ·
      have hF:stepOk l o b p m a=false:=by rw [zen] at h139;exact h139
      obtain ⟨e1,e2,e3,e4,e5⟩:=yh2 hB hF;refine A2 ?_;refine R0 (xb7 (r:=tS [⟨1,false,(tE (.int .i64 0))⟩,⟨1,false,(tIs [])⟩,⟨1,false,(tIs [])⟩]) (ts:=[]) bu25 zr25.2 zao) ?_;refine A7 ?_;exact EN (rs:=[.cell 8 25,.tmp 9,.tmp 10]) rfl rfl ⟨⟨_,_,_,_,_,rfl,rfl,ti25,(Le.of (by first | (rw [e1,e2,e3];done) | (rw [e1,e2,e3];rfl)))⟩,⟨_,rfl,(leNil e4)⟩,⟨_,rfl,(zba (by rw [e5]))⟩,trivial⟩
     ·
      have hF:stepOk l o b p m a=true:=by rw [Bool.not_eq_false'] at h139;exact h139
      obtain ⟨e1,e2,e3,e4,e5,e6⟩:=yt0 hB hF;refine A3 ?_;obtain ⟨hl1,hl2,_⟩:=yu1 (l:=l) (apl l m) ⟨b,p,List.replicate (l.length+1) 0,a⟩;replace hl1:(dvAll l m b p a).1.b.length=l.length:=hl1.trans hbl;replace hl2:(dvAll l m b p a).1.p.length=l.length:=hl2.trans hpl;refine yj5 (q:=11) (j:=36) (f:=fun n:Int=>tI n) (xs:=(dvAll l m b p a).1.b) 1 rfl rfl rfl rfl (NoLbK.of fun _ h=>h) (zs6 hl1) hl1 rfl (yj5 (q:=11) (j:=39) (f:=fun n:Int=>tI n) (xs:=(dvAll l m b p a).1.p) 2 rfl rfl rfl rfl (NoLbK.of fun _ h=>h) (zs6 hl2) hl2 rfl ?_);refine A2 ?_;refine RE (yc7 (us:=[tI (bif (dvAll l m b p a).2 then o+(dvAll l m b p a).1.r else o),tIs (dvAll l m b p a).1.b,tIs (dvAll l m b p a).1.p]) (t:=tState (bif (dvAll l m b p a).2 then o+(dvAll l m b p a).1.r else o) (dvAll l m b p a).1.b (dvAll l m b p a).1.p) ti25 rfl rfl rfl rfl) qA qA trivial ?_;refine A7 ?_;exact EN (rs:=[.cell 8 25,.tmp 9,.tmp 10]) rfl rfl ⟨⟨_,_,_,_,_,rfl,rfl,ti25,(Le.of (by rw [e1,e2,e3,e6];rfl))⟩,⟨_,rfl,(Le.of (by rw [e4,e6];rfl))⟩,⟨_,rfl,(zba (by rw [e5]))⟩,trivial⟩
instance fi284:FnI Tryz.prog 284:=⟨_,func284,by kernel_rfl,rfl⟩
theorem yi2 (a:List Nat):
  Ct Tryz.prog 284 [tLm a] (tLm (trimL a)):=by
 refine Ct.intro func284 rfl ntmps284 rfl ?_;intro w F;refine xj5 (s:=0) rfl (fun hl0=> ?_);refine A14 ?_;refine cL (fun (k:Nat)=>k<=a.length/\trimL (a.take k)=trimL a) (fun (k:Nat)=>uV (uV uN 0 (tLm a)) 3 (tI k)) (fun (k:Nat)=>fun _=>none) [] (fun (k:Nat)=>k) (a.length) ⟨zbm _,by rw [zci]⟩ ?_;intro k hI;obtain ⟨hk,hc⟩:=hI;refine A6 ?_;refine RGcaseD (t:=8) rfl (fun h12=> ?_) (fun h12=> ?_)
 ·
  refine A2 ?_;refine Rg (zbg h12) rfl (xf9 zah) rfl qB (Rg (zbg h12) rfl (x8 sl37 (k - 1) (by omega) (gN (by omega))) rfl qB ?_);refine A5 ?_;refine xa6 rfl (fun h12_2=> ?_) (fun h12_2=> ?_)
  ·
   refine A9 ?_;exact kF (k - 1) ⟨⟨by omega,by rw [qk0 hk (by omega) (by omega)];exact hc⟩,(by omega)⟩
  ·
   refine A9 ?_;refine R2 (xs9 sl37 k (by omega) (by omega) rfl) rfl rfl ?_;refine A4 ?_;exact E1 rfl rfl (Le.of (congrArg tLm (by rw [<-hc,qm8 hk (by omega) (by omega)])))
 ·
  refine A18 ?_;refine A1 ?_;refine R2 (xs9 sl37 k (by omega) (by omega) rfl) rfl rfl ?_;refine A4 ?_;exact E1 rfl rfl (Le.of (congrArg tLm (by rw [<-hc,show k=0 by omega,List.take_zero];rfl)))
theorem zj8 (a b:Nat):
  Ct Tryz.prog 255 [tM a,tM b] (tB (decide (a < b))):=by
 refine Ct.intro func255 rfl ntmps255 rfl ?_;intro w F;refine xj5 (s:=0) rfl (fun hl0=> ?_);refine xj5 (s:=1) rfl (fun hl1=> ?_);have ha:=xg9 xa0 a;have hb:=xg9 xa0 b;refine A15 ?_;refine xa6 rfl (fun h20=> ?_) (fun h20=> ?_)
 ·
  refine A12 ?_;exact E1 rfl rfl (zau (zfb.2 ⟨fun h=>zv9 xa0 (by omega),fun h=>by have:=xd4 xa0 (zfv h);omega⟩))
 ·
  refine A12 ?_;have hlen:(dig 65536 a).length=(dig 65536 b).length:=by omega
  rw [<-hlen] at hb;refine cL (fun (k:Nat)=>k<=(dig 65536 a).length/\a / 65536 ^ k=b / 65536 ^ k) (fun (k:Nat)=>uV (uV (uV uN 0 (tM a)) 1 (tM b)) 5 (tI ((k:Int) - 1))) (fun (k:Nat)=>fun _=>none) [] (fun (k:Nat)=>k) ((dig 65536 a).length) ⟨zbm _,by rw [zcv ha,zcv hb]⟩ ?_;intro k hI;obtain ⟨hk,hc⟩:=hI;refine A7 ?_;refine xa6 rfl (fun h23=> ?_) (fun h23=> ?_)
  ·
   obtain ⟨j,rfl⟩: ∃j,k=j+1:=⟨k - 1,by omega⟩
   refine A8 ?_;refine R2 (x8 sl37 (j) (by omega) (gN (by omega))) rfl rfl ?_;refine A3 ?_;refine R2 (x8 sl37 (j) (by omega) (gN (by omega))) rfl rfl ?_;refine A4 ?_;refine xa6 rfl (fun h24=> ?_) (fun h24=> ?_)
   ·
    refine A4 ?_;refine R2 (x8 sl37 (j) (by omega) (gN (by omega))) rfl rfl ?_;refine A3 ?_;refine R2 (x8 sl37 (j) (by omega) (gN (by omega))) rfl rfl ?_;refine A11 ?_;exact E1 rfl rfl (zau (zfb.2 ⟨fun h=>zm7 xa0 hc (by omega),fun h=>zgk fun h2=>by have:=zm7 xa0 hc.symm (show (dig 65536 b).getD j 0 < (dig 65536 a).getD j 0 by omega);omega⟩))
   ·
    refine A8 ?_;exact kF (j) ⟨⟨by omega,zv2 (by decide) hc (by rw [<-xc1 xa0,<-xc1 xa0];omega)⟩,(by omega)⟩
  ·
   refine A11 ?_;exact E1 rfl rfl (zau (zbf (by have h0:=hc;rw [show k=0 by omega] at h0;simp at h0;omega)).symm)
theorem zw6 {v:Nat}:(0:Int) < ((dig 65536 v).length:Nat)↔v≠0:=by
 have h:(dig 65536 v).length=0↔v=0:=by rw [zco,xe2 xa0]
 omega
theorem xi7 (p:Bool) (v:Nat):
  Ct Tryz.prog 155 [tB p,tM v] (tWh (wh (sgn p v))):=by
 refine Ct.intro func155 rfl ntmps155 rfl ?_;intro w F;refine A2 ?_;refine RE (xa3 (k:=4) (n:=2) (agg:=true) zr39.1 zr39.2 rfl) trivial trivial qA ?_;refine A6 ?_;refine RGcase (t:=6) rfl (fun h129=> ?_) (fun h129=> ?_)
 ·
  refine A5 ?_;refine R2 (xb7 (r:=tS [⟨1,false,tB (decide ((0:Int) < ((dig 65536 v).length:Nat)))⟩,⟨1,false,tM v⟩]) (ts:=[(0,tB (decide ((0:Int) < ((dig 65536 v).length:Nat)))),(1,tM v)]) bu39 zr39.2 (Bc 0 rfl rfl rfl (Bc 1 rfl rfl rfl zao))) rfl rfl ?_;refine A4 ?_;exact EC rfl ⟨_,_,_,_,_,rfl,rfl,ti39,(Le.of (by rw [xs1,h129,zec,zfb.2 (show (0:Int) < ((dig 65536 v).length:Nat)↔v≠0 from zw6)]))⟩
 ·
  refine A5 ?_;refine R2 (xb7 (r:=tS [⟨1,false,tB false⟩,⟨1,false,tM v⟩]) (ts:=[(0,tB false),(1,tM v)]) bu39 zr39.2 (Bc 0 rfl rfl rfl (Bc 1 rfl rfl rfl zao))) rfl rfl ?_;refine A4 ?_;exact EC rfl ⟨_,_,_,_,_,rfl,rfl,ti39,(Le.of (by rw [xs1,h129,zdz]))⟩
theorem qc7 (x y:Wh):
  Ct Tryz.prog 129 [tWh x,tWh y] (tB (decide (x=y))):=by
 refine Ct.intro func129 rfl ntmps129 rfl ?_;intro w F;refine A16 ?_;refine RGcase (t:=11) rfl (fun h150=> ?_) (fun h150=> ?_)
 ·
  have hn:x.neg≠y.neg:=fun h=>by rw [h] at h150;simp at h150
  refine A18 ?_;exact E1 rfl rfl (zau (zbf (fun h=>hn (by rw [h]))).symm)
 ·
  have hn:x.neg=y.neg:=by simpa using h150
  refine A10 ?_;refine xa6 rfl (fun h150_2=> ?_) (fun h150_2=> ?_)
  ·
   have hll:x.l.length≠y.l.length:=by omega
   refine A7 ?_;exact E1 rfl rfl (zau (zbf (fun h=>hll (by rw [h]))).symm)
  ·
   have hll:x.l.length=y.l.length:=by omega
   refine A9 ?_;refine cL (fun (i:Nat)=>i<=x.l.length/\x.l.take i=y.l.take i) (fun (i:Nat)=>uV (uO (uO uN 2 (.ptr 2 0)) 3 (.ptr 3 0)) 5 (tI i)) (fun (i:Nat)=>uK (uK uN 2 39 2 true [.val (tWh x)]) 3 39 2 true [.val (tWh y)]) [2,3] (fun (i:Nat)=>x.l.length - i) (0) ⟨zbs _,rfl⟩ ?_;intro i hI;obtain ⟨hi,ht⟩:=hI;refine A10 ?_;refine xa6 rfl (fun h153=> ?_) (fun h153=> ?_)
   ·
    refine A5 ?_;refine xj5 (s:=22) rfl (fun hl22=> ?_);refine A4 ?_;refine R2 (x8 sl37 (i) (by omega) (gN (by omega))) rfl rfl ?_;refine A4 ?_;refine R2 (x8 sl37 (i) (by omega) (gN (by omega))) rfl rfl ?_;refine A4 ?_;refine xa6 rfl (fun h154=> ?_) (fun h154=> ?_)
    ·
     refine A11 ?_;exact E1 rfl rfl (zau (zbf (fun h=>by rw [h] at h154;omega)).symm)
    ·
     refine A8 ?_;exact kF (i+1) ⟨⟨by omega,by rw [xh8 x.l i (by omega),xh8 y.l i (by omega),ht,show x.l.getD i 0=y.l.getD i 0 by omega]⟩,(by omega)⟩
   ·
    refine A11 ?_;exact E1 rfl rfl (zau (zbg (by rw [show i=x.l.length by omega,zci,hll,zci] at ht;obtain ⟨a,b⟩:=x;obtain ⟨c,d⟩:=y;simp only at hn ht;rw [hn,ht])).symm)
theorem iquo64 {a b:Nat} (ha:a < 9223372036854775808):IntKind.i64.wrap ((a:Int).tdiv (b:Int))=((a / b:Nat):Int):=by
 rw [Int.tdiv_eq_ediv_of_nonneg (by omega)];have h:(a:Int) / (b:Int)=((a / b:Nat):Int):=(Int.natCast_ediv a b).symm;rw [h];have:=Nat.div_le_self a b;generalize a / b=q at*
 exact wr64 (by omega) (by omega)
theorem je8 (a d:Nat) (ha:(dig 65536 a).length<=100000) (hd:0 < d) (hdW:d < 65536):
  Ct Tryz.prog 254 [tM a,tI d] (tT [tM (a / d),tM (a%d)]):=by
 refine Ct.intro func254 rfl ntmps254 rfl ?_;intro w F;refine A10 ?_;refine RE (xe5 (k:=11) (t:=tE (.int .u16 0)) (ts:=rW .u16 (List.replicate ((dig 65536 a).length) 0)) ((dig 65536 a).length) ((dig 65536 a).length) zgr el64 (fun _ _=>rfl) rfl (by omega) (by omega) (zbm _) (by omega) (by omega) (xp5 _)) qB trivial qA ?_;refine A18 ?_;refine cL (fun (fm:(Nat)×(List Nat))=>(fun (k:Nat) (qs:List Nat)=>k<=(dig 65536 a).length/\qs.length=(dig 65536 a).length/\Dig 65536 qs/\val 65536 (qs.drop k)=a / 65536 ^ k / d) fm.1 fm.2) (wB fun (k:Nat) (qs:List Nat)=>uV (uV (uO (uV (uV uN 0 (tM a)) 1 (tI d)) 6 (.sl 11 1 0 (dig 65536 a).length)) 7 (tI ((a / 65536 ^ k%d:Nat):Int))) 8 (tI ((k:Int) - 1))) (wB fun (k:Nat) (qs:List Nat)=>uK uN 11 64 1 false (rW .u16 qs)) [11] (fun (fm:(Nat)×(List Nat))=>(fun (k:Nat) (qs:List Nat)=>k) fm.1 fm.2) (((dig 65536 a).length,List.replicate (dig 65536 a).length 0)) (by dsimp only;exact ⟨zbm _,by simp,Dig.rep (by decide) _,by rw [zcv (xg9 xa0 a),Nat.zero_div,zfd,xg6]⟩) (hg:=(sI (Sub.le rfl (zba (by dsimp only;rw [zcv (xg9 xa0 a),Nat.zero_mod];rfl)) (sC (sI (sC zay)))))) ?_;intro fm hI;obtain ⟨k,qs⟩:=fm;replace hI:k<=(dig 65536 a).length/\qs.length=(dig 65536 a).length/\Dig 65536 qs/\val 65536 (qs.drop k)=a / 65536 ^ k / d:=hI;show wc _ _ _ _ (uV (uV (uO (uV (uV uN 0 (tM a)) 1 (tI d)) 6 (.sl 11 1 0 (dig 65536 a).length)) 7 (tI ((a / 65536 ^ k%d:Nat):Int))) 8 (tI ((k:Int) - 1))) (uK uN 11 64 1 false (rW .u16 qs)) _;obtain ⟨hk,hl,hD,hv⟩:=hI;have hr:a / 65536 ^ k%d < d:=zcd _ hd;refine A7 ?_;refine xa6 rfl (fun h93=> ?_) (fun h93=> ?_)
 ·
  obtain ⟨j,rfl⟩: ∃j,k=j+1:=⟨k - 1,by omega⟩
  have hx:=xc1 xa0 a j;have hx1:=(xc3 xa0 a).getD (by decide) j;obtain ⟨n1,n2,n3,n4,n5⟩:=zw0 (k:=j) (by omega) hl hD hd rfl hv (by rw [<-hx]);have hq0:=zbs (((a / 65536 ^ (j+1)%d)*65536+(dig 65536 a).getD j 0) / d);refine A7 ?_;refine R2 (xj0 (r:=(((a / 65536 ^ (j+1)%d)*65536:Nat):Int)) (by rw [wr64 (by omega) (by omega)];omega)) rfl rfl ?_;refine A2 ?_;refine R2 (x8 sl37 (j) (by omega) (gN (by omega))) rfl rfl ?_;refine A1 ?_;refine R1 (x9 zgz (isS zgv) zah) rfl (R2 (xc9 (r:=((((a / 65536 ^ (j+1)%d)*65536+(dig 65536 a).getD j 0):Nat):Int)) (by rw [wr64 (by omega) (by omega)];omega)) rfl rfl ?_);refine A9 ?_;refine R2 (xs3 (r:=((((a / 65536 ^ (j+1)%d)*65536+(dig 65536 a).getD j 0) / d:Nat):Int)) (by omega) (iquo64 (by omega))) rfl rfl (R1 (x9 zgv (isS zgz) (wu16 (by omega) (by omega))) rfl (R2 (zag sl37 rfl) rfl rfl (RE (xa8 (j) ti64 (xj2 (by omega)) (by omega) (xh1 (m:=_) rfl)) qB qA trivial ?_)));refine A5 ?_;refine R2 (xr1 (by omega) wrem64) rfl rfl ?_;refine A9 ?_;exact kF ((j,qs.set j (((a / 65536 ^ (j+1)%d)*65536+(dig 65536 a).getD j 0) / d))) ⟨(by dsimp only;exact ⟨by omega,n1,n2,n4⟩),(by dsimp only;omega)⟩ (hg:=(sI (Sub.le rfl (zba (by dsimp only;rw [hx,n3])) (sC (sI (sC zay))))))
 ·
  have hk0:k=0:=by omega
  subst hk0;rw [List.drop_zero,zeg,Nat.div_one] at hv;refine A7 ?_;refine RE (xi5 (f:=fun n:Nat=>tE (.int .u16 n)) (fun _ h=>h) (xk2 hl) hl) qA qA trivial (R1 (x3 (yi2 _) fi284 rfl) rfl ?_);refine A1 ?_;refine R1 (x9 zgv (isS zgz) (wu16 (by omega) (by omega))) rfl (R1 (xm7 (n:=1) [a / 65536 ^ 0%d] zgr el64 zf64 rfl rfl rfl) rfl (R1 (x3 (yi2 _) fi284 rfl) rfl ?_));refine A5 ?_;exact E2 rfl rfl rfl (Le.of (congrArg tLm (by rw [xe8 xa0 hD,hv]))) (Le.of (congrArg tLm (by rw [trim1L (by omega),zeg,Nat.div_one])))
theorem yk4 (a b:Nat) (ha:(dig 65536 a).length<=100000) (hb:(dig 65536 b).length<=100000):
  Ct Tryz.prog 224 [tM a,tM b] (tM (a+b)):=by
 have hab:=yu0 ha hb;refine Ct.intro func224 rfl ntmps224 rfl ?_;intro w F;refine A7 ?_;refine RE (xh7 (k:=5) 64 1 false rfl (fun _=>rfl)) trivial trivial qA ?_;refine A14 ?_;refine cL (fun (fm:(Nat)×(Nat)×(List Nat))=>(fun (i:Nat) (n:Nat) (cs:List Nat)=>i<=(dig 65536 (a+b)).length/\n=(a%65536 ^ i+b%65536 ^ i) / 65536 ^ i/\cs=dgs 65536 i (a+b)) fm.1 fm.2.1 fm.2.2) (wC fun (i:Nat) (n:Nat) (cs:List Nat)=>uV (uV (uO (uV (uV uN 0 (tM a)) 1 (tM b)) 5 (.sl 5 1 0 cs.length)) 7 (tI i)) 6 (tI n)) (wC fun (i:Nat) (n:Nat) (cs:List Nat)=>uK uN 5 64 1 false (rW .u16 cs)) [5] (fun (fm:(Nat)×(Nat)×(List Nat))=>(fun (i:Nat) (n:Nat) (cs:List Nat)=>(dig 65536 (a+b)).length - i) fm.1 fm.2.1 fm.2.2) ((0,0,[])) (by dsimp only;exact ⟨zbs _,by simp [Nat.mod_one],rfl⟩) ?_;intro fm hI;obtain ⟨i,n,cs⟩:=fm;replace hI:i<=(dig 65536 (a+b)).length/\n=(a%65536 ^ i+b%65536 ^ i) / 65536 ^ i/\cs=dgs 65536 i (a+b):=hI;show wc _ _ _ _ (uV (uV (uO (uV (uV uN 0 (tM a)) 1 (tM b)) 5 (.sl 5 1 0 cs.length)) 7 (tI i)) 6 (tI n)) (uK uN 5 64 1 false (rW .u16 cs)) _;obtain ⟨hi,hn,hcs⟩:=hI;have hcl:cs.length=i:=by rw [hcs,xg7]
 have hn1:=qa7 hn;have xa:=xc1 xa0 a i;have xb:=xc1 xa0 b i;have xa1:=(xc3 xa0 a).getD (by decide) i;have xb1:=(xc3 xa0 b).getD (by decide) i;refine A8 ?_;refine RGcaseD (t:=12) rfl (fun h35=> ?_) (fun h35=> ?_)
 ·
  have hmore:=yk7 hn (.inl (by omega));refine A16 ?_;refine xh3 (fun (m1:Nat)=>m1=(n+a / 65536 ^ i%65536)) (fun (m1:Nat)=>uV (uV (uO (uV (uV uN 0 (tM a)) 1 (tM b)) 5 (.sl 5 1 0 cs.length)) 7 (tI i)) 6 (tI m1)) (fun (m1:Nat)=>uK uN 5 64 1 false (rW .u16 cs)) (nm [5]) ?_ ?_
  ·
   refine A8 ?_;refine xa6 rfl (fun h36=> ?_) (fun h36=> ?_)
   ·
    refine A4 ?_;refine R2 (x8 sl37 (i) (by omega) (gN (by omega))) rfl rfl ?_;refine A1 ?_;refine R1 (x9 zgz (isS zgv) zah) rfl (R2 (xc9 (r:=((n+(dig 65536 a).getD i 0:Nat):Int)) (by rw [wr64 (by omega) (by omega)];omega)) rfl rfl ?_);refine A2 ?_;exact kF (n+(dig 65536 a).getD i 0) (by rw [xa])
   ·
    refine A1 ?_;exact kF (n) (by rw [xn7 xa0 (by omega),zej])
  ·
   intro m1 hm1;refine xh3 (fun (m2:Nat)=>m2=(m1+b / 65536 ^ i%65536)) (fun (m2:Nat)=>uV (uV (uO (uV (uV uN 0 (tM a)) 1 (tM b)) 5 (.sl 5 1 0 cs.length)) 7 (tI i)) 6 (tI m2)) (fun (m2:Nat)=>uK uN 5 64 1 false (rW .u16 cs)) (nm [5]) ?_ ?_
   ·
    refine A8 ?_;refine xa6 rfl (fun h39=> ?_) (fun h39=> ?_)
    ·
     refine A4 ?_;refine R2 (x8 sl37 (i) (by omega) (gN (by omega))) rfl rfl ?_;refine A1 ?_;refine R1 (x9 zgz (isS zgv) zah) rfl (R2 (xc9 (r:=((m1+(dig 65536 b).getD i 0:Nat):Int)) (by rw [wr64 (by omega) (by omega)];omega)) rfl rfl ?_);refine A2 ?_;exact kF (m1+(dig 65536 b).getD i 0) (by rw [xb])
    ·
     refine A1 ?_;exact kF (m1) (by rw [xn7 xa0 (by omega),zej])
   ·
    intro m2 hm2;refine A4 ?_;refine R2 (xr1 (r:=((m2%65536:Nat):Int)) (by decide) (wrem64 (b:=65536))) rfl rfl (R1 (x9 zgv (isS zgz) (wu16 (by omega) (by omega))) rfl (R1 (xm7 (n:=1) [m2%65536] zgr el64 zf64 rfl rfl rfl) rfl (RE (xc5 (k:=5) (k':=51) (ts':=rW .u16 (cs++[m2%65536])) zgr el64 zf64 rfl rfl (fun _=>inferInstance) xp6 (by simp;omega) (by simp;omega) (by simp [rW]) (n':=cs.length+1) rfl) ⟨rfl,rfl,trivial⟩ ⟨rfl,trivial⟩ ⟨rfl,trivial⟩ ?_)));refine A5 ?_;refine R2 (xs3 (r:=((m2 / 65536:Nat):Int)) (by decide) (iquo64 (b:=65536) (by omega))) rfl rfl ?_;refine A9 ?_;obtain ⟨n1,n2⟩:=za1 (s:=m2) hn (by rw [hm2,hm1]);exact xh0 (l:=[5]) (zab 5 51) ((i+1,m2 / 65536,cs++[m2%65536])) ⟨(by dsimp only;exact ⟨hmore,n2,by rw [hcs];exact n1⟩),(by dsimp only;omega)⟩ (zaf rfl (zaf rfl ((zbc rfl (zaw (by dsimp only;rw [zck];rfl))) (zas rfl (zas rfl zbd))))) ((zbb rfl (zat xi2.symm)) zbe) (zaj (zaj (zak rfl (zaj (zaj zar))))) (zam rfl (supJ xf3) zaz) (lkOk rfl) rfl rfl (fun _ h=>by cases h)
 ·
  refine A6 ?_;refine RGcaseD (t:=18) rfl (fun h35_2=> ?_) (fun h35_2=> ?_)
  ·
   have hmore:=yk7 hn (.inr (.inl (by omega)));refine A10 ?_;refine xh3 (fun (m1:Nat)=>m1=(n+a / 65536 ^ i%65536)) (fun (m1:Nat)=>uV (uV (uO (uV (uV uN 0 (tM a)) 1 (tM b)) 5 (.sl 5 1 0 cs.length)) 7 (tI i)) 6 (tI m1)) (fun (m1:Nat)=>uK uN 5 64 1 false (rW .u16 cs)) (nm [5]) ?_ ?_
   ·
    refine A8 ?_;refine xa6 rfl (fun h36=> ?_) (fun h36=> ?_)
    ·
     refine A4 ?_;refine R2 (x8 sl37 (i) (by omega) (gN (by omega))) rfl rfl ?_;refine A1 ?_;refine R1 (x9 zgz (isS zgv) zah) rfl (R2 (xc9 (r:=((n+(dig 65536 a).getD i 0:Nat):Int)) (by rw [wr64 (by omega) (by omega)];omega)) rfl rfl ?_);refine A2 ?_;exact kF (n+(dig 65536 a).getD i 0) (by rw [xa])
    ·
     refine A1 ?_;exact kF (n) (by rw [xn7 xa0 (by omega),zej])
   ·
    intro m1 hm1;refine xh3 (fun (m2:Nat)=>m2=(m1+b / 65536 ^ i%65536)) (fun (m2:Nat)=>uV (uV (uO (uV (uV uN 0 (tM a)) 1 (tM b)) 5 (.sl 5 1 0 cs.length)) 7 (tI i)) 6 (tI m2)) (fun (m2:Nat)=>uK uN 5 64 1 false (rW .u16 cs)) (nm [5]) ?_ ?_
    ·
     refine A8 ?_;refine xa6 rfl (fun h39=> ?_) (fun h39=> ?_)
     ·
      refine A4 ?_;refine R2 (x8 sl37 (i) (by omega) (gN (by omega))) rfl rfl ?_;refine A1 ?_;refine R1 (x9 zgz (isS zgv) zah) rfl (R2 (xc9 (r:=((m1+(dig 65536 b).getD i 0:Nat):Int)) (by rw [wr64 (by omega) (by omega)];omega)) rfl rfl ?_);refine A2 ?_;exact kF (m1+(dig 65536 b).getD i 0) (by rw [xb])
     ·
      refine A1 ?_;exact kF (m1) (by rw [xn7 xa0 (by omega),zej])
    ·
     intro m2 hm2;refine A4 ?_;refine R2 (xr1 (r:=((m2%65536:Nat):Int)) (by decide) (wrem64 (b:=65536))) rfl rfl (R1 (x9 zgv (isS zgz) (wu16 (by omega) (by omega))) rfl (R1 (xm7 (n:=1) [m2%65536] zgr el64 zf64 rfl rfl rfl) rfl (RE (xc5 (k:=5) (k':=51) (ts':=rW .u16 (cs++[m2%65536])) zgr el64 zf64 rfl rfl (fun _=>inferInstance) xp6 (by simp;omega) (by simp;omega) (by simp [rW]) (n':=cs.length+1) rfl) ⟨rfl,rfl,trivial⟩ ⟨rfl,trivial⟩ ⟨rfl,trivial⟩ ?_)));refine A5 ?_;refine R2 (xs3 (r:=((m2 / 65536:Nat):Int)) (by decide) (iquo64 (b:=65536) (by omega))) rfl rfl ?_;refine A9 ?_;obtain ⟨n1,n2⟩:=za1 (s:=m2) hn (by rw [hm2,hm1]);exact xh0 (l:=[5]) (zab 5 51) ((i+1,m2 / 65536,cs++[m2%65536])) ⟨(by dsimp only;exact ⟨hmore,n2,by rw [hcs];exact n1⟩),(by dsimp only;omega)⟩ (zaf rfl (zaf rfl ((zbc rfl (zaw (by dsimp only;rw [zck];rfl))) (zas rfl (zas rfl zbd))))) ((zbb rfl (zat xi2.symm)) zbe) (zaj (zaj (zak rfl (zaj (zaj zar))))) (zam rfl (supJ xf3) zaz) (lkOk rfl) rfl rfl (fun _ h=>by cases h)
  ·
   refine A5 ?_;refine xa6 rfl (fun h35_3=> ?_) (fun h35_3=> ?_)
   ·
    have hmore:=yk7 hn (.inr (.inr (by omega)));refine A4 ?_;refine xh3 (fun (m1:Nat)=>m1=(n+a / 65536 ^ i%65536)) (fun (m1:Nat)=>uV (uV (uO (uV (uV uN 0 (tM a)) 1 (tM b)) 5 (.sl 5 1 0 cs.length)) 7 (tI i)) 6 (tI m1)) (fun (m1:Nat)=>uK uN 5 64 1 false (rW .u16 cs)) (nm [5]) ?_ ?_
    ·
     refine A8 ?_;refine xa6 rfl (fun h36=> ?_) (fun h36=> ?_)
     ·
      refine A4 ?_;refine R2 (x8 sl37 (i) (by omega) (gN (by omega))) rfl rfl ?_;refine A1 ?_;refine R1 (x9 zgz (isS zgv) zah) rfl (R2 (xc9 (r:=((n+(dig 65536 a).getD i 0:Nat):Int)) (by rw [wr64 (by omega) (by omega)];omega)) rfl rfl ?_);refine A2 ?_;exact kF (n+(dig 65536 a).getD i 0) (by rw [xa])
     ·
      refine A1 ?_;exact kF (n) (by rw [xn7 xa0 (by omega),zej])
    ·
     intro m1 hm1;refine xh3 (fun (m2:Nat)=>m2=(m1+b / 65536 ^ i%65536)) (fun (m2:Nat)=>uV (uV (uO (uV (uV uN 0 (tM a)) 1 (tM b)) 5 (.sl 5 1 0 cs.length)) 7 (tI i)) 6 (tI m2)) (fun (m2:Nat)=>uK uN 5 64 1 false (rW .u16 cs)) (nm [5]) ?_ ?_
     ·
      refine A8 ?_;refine xa6 rfl (fun h39=> ?_) (fun h39=> ?_)
      ·
       refine A4 ?_;refine R2 (x8 sl37 (i) (by omega) (gN (by omega))) rfl rfl ?_;refine A1 ?_;refine R1 (x9 zgz (isS zgv) zah) rfl (R2 (xc9 (r:=((m1+(dig 65536 b).getD i 0:Nat):Int)) (by rw [wr64 (by omega) (by omega)];omega)) rfl rfl ?_);refine A2 ?_;exact kF (m1+(dig 65536 b).getD i 0) (by rw [xb])
      ·
       refine A1 ?_;exact kF (m1) (by rw [xn7 xa0 (by omega),zej])
     ·
      intro m2 hm2;refine A4 ?_;refine R2 (xr1 (r:=((m2%65536:Nat):Int)) (by decide) (wrem64 (b:=65536))) rfl rfl (R1 (x9 zgv (isS zgz) (wu16 (by omega) (by omega))) rfl (R1 (xm7 (n:=1) [m2%65536] zgr el64 zf64 rfl rfl rfl) rfl (RE (xc5 (k:=5) (k':=51) (ts':=rW .u16 (cs++[m2%65536])) zgr el64 zf64 rfl rfl (fun _=>inferInstance) xp6 (by simp;omega) (by simp;omega) (by simp [rW]) (n':=cs.length+1) rfl) ⟨rfl,rfl,trivial⟩ ⟨rfl,trivial⟩ ⟨rfl,trivial⟩ ?_)));refine A5 ?_;refine R2 (xs3 (r:=((m2 / 65536:Nat):Int)) (by decide) (iquo64 (b:=65536) (by omega))) rfl rfl ?_;refine A9 ?_;obtain ⟨n1,n2⟩:=za1 (s:=m2) hn (by rw [hm2,hm1]);exact xh0 (l:=[5]) (zab 5 51) ((i+1,m2 / 65536,cs++[m2%65536])) ⟨(by dsimp only;exact ⟨hmore,n2,by rw [hcs];exact n1⟩),(by dsimp only;omega)⟩ (zaf rfl (zaf rfl ((zbc rfl (zaw (by dsimp only;rw [zck];rfl))) (zas rfl (zas rfl zbd))))) ((zbb rfl (zat xi2.symm)) zbe) (zaj (zaj (zak rfl (zaj (zaj zar))))) (zam rfl (supJ xf3) zaz) (lkOk rfl) rfl rfl (fun _ h=>by cases h)
   ·
    refine A7 ?_;refine RE (xi5 (f:=fun n:Nat=>tE (.int .u16 n)) (xs:=cs) (fun _ h=>h) (xk2 rfl) rfl) qA qA trivial ?_;refine A4 ?_;exact E1 rfl rfl (Le.of (congrArg tLm (by rw [hcs,qv5 hn (by omega) (by omega) (by omega) hi])))
instance fi155:FnI Tryz.prog 155:=⟨_,func155,by kernel_rfl,rfl⟩
theorem ym4 (a b:Nat) (hab:b<=a) (ha:(dig 65536 a).length<=100000):
  Ct Tryz.prog 225 [tM a,tM b] (tM (a - b)):=by
 refine Ct.intro func225 rfl ntmps225 rfl ?_;intro w F;refine A7 ?_;refine RE (xh7 (k:=5) 64 1 false rfl (fun _=>rfl)) trivial trivial qA ?_;refine A14 ?_;refine cL (fun (fm:(Nat)×(Nat)×(List Nat))=>(fun (i:Nat) (br:Nat) (cs:List Nat)=>i<=(dig 65536 a).length/\cs.length=i/\Dig 65536 cs/\val 65536 cs+b%65536 ^ i=a%65536 ^ i+br*65536 ^ i/\br<=1) fm.1 fm.2.1 fm.2.2) (wC fun (i:Nat) (br:Nat) (cs:List Nat)=>uV (uV (uO (uV (uV uN 0 (tM a)) 1 (tM b)) 5 (.sl 5 1 0 cs.length)) 6 (tI br)) 7 (tI i)) (wC fun (i:Nat) (br:Nat) (cs:List Nat)=>uK uN 5 64 1 false (rW .u16 cs)) [5] (fun (fm:(Nat)×(Nat)×(List Nat))=>(fun (i:Nat) (br:Nat) (cs:List Nat)=>(dig 65536 a).length - i) fm.1 fm.2.1 fm.2.2) ((0,0,[])) (by dsimp only;exact ⟨zbs _,rfl,Dig.nil _,by simp [val,Nat.mod_one],by omega⟩) ?_;intro fm hI;obtain ⟨i,br,cs⟩:=fm;replace hI:i<=(dig 65536 a).length/\cs.length=i/\Dig 65536 cs/\val 65536 cs+b%65536 ^ i=a%65536 ^ i+br*65536 ^ i/\br<=1:=hI;show wc _ _ _ _ (uV (uV (uO (uV (uV uN 0 (tM a)) 1 (tM b)) 5 (.sl 5 1 0 cs.length)) 6 (tI br)) 7 (tI i)) (uK uN 5 64 1 false (rW .u16 cs)) _;obtain ⟨hi,hl,hD,hv,hbr⟩:=hI;have xa:=xc1 xa0 a i;have xb:=xc1 xa0 b i;have xa1:=(xc3 xa0 a).getD (by decide) i;have xb1:=(xc3 xa0 b).getD (by decide) i;refine A9 ?_;refine xa6 rfl (fun h52=> ?_) (fun h52=> ?_)
 ·
  refine A8 ?_;refine R2 (x8 sl37 (i) (by omega) (gN (by omega))) rfl rfl ?_;refine A1 ?_;refine R1 (x9 zgz (isS zgv) zah) rfl (R2 (xc9 (r:=((65536+((dig 65536 a).getD i 0):Nat):Int)) (by rw [wr64 (by omega) (by omega)];omega)) rfl rfl ?_);refine A1 ?_;refine R2 (xf9 (r:=((65536+((dig 65536 a).getD i 0) - br:Nat):Int)) (by rw [wr64 (by omega) (by omega)];omega)) rfl rfl ?_;refine A3 ?_;refine xh3 (fun (m:Nat)=>m+br+b / 65536 ^ i%65536=65536+a / 65536 ^ i%65536) (fun (m:Nat)=>uV (uV (uV (uO (uV (uV uN 0 (tM a)) 1 (tM b)) 5 (.sl 5 1 0 cs.length)) 6 (tI br)) 7 (tI i)) 8 (tI m)) (fun (m:Nat)=>uK uN 5 64 1 false (rW .u16 cs)) (nm [5]) ?_ ?_
  ·
   refine A8 ?_;refine xa6 rfl (fun h54=> ?_) (fun h54=> ?_)
   ·
    refine A4 ?_;refine R2 (x8 sl37 (i) (by omega) (gN (by omega))) rfl rfl ?_;refine A1 ?_;refine R1 (x9 zgz (isS zgv) zah) rfl (R2 (xf9 (r:=((65536+((dig 65536 a).getD i 0) - br - ((dig 65536 b).getD i 0):Nat):Int)) (by rw [wr64 (by omega) (by omega)];omega)) rfl rfl ?_);refine A2 ?_;exact kF (65536+((dig 65536 a).getD i 0) - br - ((dig 65536 b).getD i 0)) (by omega)
   ·
    refine A1 ?_;exact kF (65536+((dig 65536 a).getD i 0) - br) (by rw [xn7 xa0 (v:=b) (i:=i) (by omega)];omega)
  ·
   intro m hm;refine A4 ?_;refine R2 (xr1 (r:=((m%65536:Nat):Int)) (by decide) (wrem64 (b:=65536))) rfl rfl (R1 (x9 zgv (isS zgz) (wu16 (by omega) (by omega))) rfl (R1 (xm7 (n:=1) [m%65536] zgr el64 zf64 rfl rfl rfl) rfl (RE (xc5 (k:=5) (k':=39) (ts':=rW .u16 (cs++[m%65536])) zgr el64 zf64 rfl rfl (fun _=>inferInstance) xp6 (by simp;omega) (by simp;omega) (by simp [rW]) (n':=cs.length+1) rfl) ⟨rfl,rfl,trivial⟩ ⟨rfl,trivial⟩ ⟨rfl,trivial⟩ ?_)));refine A5 ?_;refine R2 (xs3 (r:=((m / 65536:Nat):Int)) (by decide) (iquo64 (b:=65536) (by omega))) rfl rfl (R2 (xf9 (r:=((1 - m / 65536:Nat):Int)) (by rw [wr64 (by omega) (by omega)];omega)) rfl rfl ?_);refine A9 ?_;obtain ⟨n1,n2,n3⟩:=qv6 hl hv hbr hm;exact xh0 (l:=[5]) (zab 5 39) ((i+1,1 - m / 65536,cs++[m%65536])) ⟨(by dsimp only;exact ⟨by omega,by rw [zck,hl];rfl,hD.append (Dig.cons (zcd _ (by decide)) (Dig.nil _)),n1,n3⟩),(by dsimp only;omega)⟩ (zaf rfl (zaf rfl ((zbc rfl (zaw (by dsimp only;rw [zck];rfl))) (zas rfl (zas rfl zbd))))) ((zbb rfl (zat xi2.symm)) zbe) (zaj (zaj (zak rfl (zaj (zaj zar))))) (zam rfl (supJ xf3) zaz) (lkOk rfl) rfl rfl (fun _ h=>by cases h)
 ·
  refine A7 ?_;refine RE (xi5 (f:=fun n:Nat=>tE (.int .u16 n)) (xs:=cs) (fun _ h=>h) (xk2 rfl) rfl) qA qA trivial (R1 (x3 (yi2 _) fi284 rfl) rfl ?_);refine A4 ?_;exact E1 rfl rfl (Le.of (congrArg tLm (by rw [show i=(dig 65536 a).length by omega] at hv hl;exact qj2 hl hD (xg9 xa0 a) hab hv)))
theorem jk1 (a:Nat) (ha:(dig 65536 a).length<=200000):
  Ct Tryz.prog 256 [tM a] (tM (a / 2)):=by
 refine Ct.intro func256 rfl ntmps256 rfl ?_;intro w F;refine A9 ?_;refine RE (xe5 (k:=8) (t:=tE (.int .u16 0)) (ts:=rW .u16 (List.replicate ((dig 65536 a).length) 0)) ((dig 65536 a).length) ((dig 65536 a).length) zgr el64 (fun _ _=>rfl) rfl (by omega) (by omega) (zbm _) (by omega) (by omega) (xp5 _)) qB trivial qA ?_;refine A18 ?_;refine cL (fun (fm:(Nat)×(Nat)×(List Nat))=>(fun (k:Nat) (n:Nat) (qs:List Nat)=>k<=(dig 65536 a).length/\qs.length=(dig 65536 a).length/\Dig 65536 qs/\n%2=a / 65536 ^ k%2/\val 65536 (qs.drop k)=a / 65536 ^ k / 2) fm.1 fm.2.1 fm.2.2) (wC fun (k:Nat) (n:Nat) (qs:List Nat)=>uV (uV (uO (uV uN 0 (tM a)) 3 (.sl 8 1 0 (dig 65536 a).length)) 4 (tI n)) 5 (tI ((k:Int) - 1))) (wC fun (k:Nat) (n:Nat) (qs:List Nat)=>uK uN 8 64 1 false (rW .u16 qs)) [8] (fun (fm:(Nat)×(Nat)×(List Nat))=>(fun (k:Nat) (n:Nat) (qs:List Nat)=>k) fm.1 fm.2.1 fm.2.2) (((dig 65536 a).length,0,List.replicate (dig 65536 a).length 0)) (by dsimp only;exact ⟨zbm _,by simp,Dig.rep (by decide) _,by rw [zcv (xg9 xa0 a)],by rw [zcv (xg9 xa0 a),Nat.zero_div,zfd,xg6]⟩) ?_;intro fm hI;obtain ⟨k,n,qs⟩:=fm;replace hI:k<=(dig 65536 a).length/\qs.length=(dig 65536 a).length/\Dig 65536 qs/\n%2=a / 65536 ^ k%2/\val 65536 (qs.drop k)=a / 65536 ^ k / 2:=hI;show wc _ _ _ _ (uV (uV (uO (uV uN 0 (tM a)) 3 (.sl 8 1 0 (dig 65536 a).length)) 4 (tI n)) 5 (tI ((k:Int) - 1))) (uK uN 8 64 1 false (rW .u16 qs)) _;obtain ⟨hk,hl,hD,hn,hv⟩:=hI;refine A7 ?_;refine xa6 rfl (fun h82=> ?_) (fun h82=> ?_)
 ·
  obtain ⟨j,rfl⟩: ∃j,k=j+1:=⟨k - 1,by omega⟩
  have hx:=xc1 xa0 a j;have hx1:=(xc3 xa0 a).getD (by decide) j;obtain ⟨n1,n2,n3,n4,n5⟩:=js2 (k:=j) (by omega) hl hD hn hv rfl;rw [<-hx] at n1 n2 n3 n4 n5;refine A7 ?_;refine R2 (xr1 (r:=((n%2:Nat):Int)) (by decide) (wrem64 (b:=2))) rfl rfl (R2 (xj0 (r:=((n%2*65536:Nat):Int)) (by rw [wr64 (by omega) (by omega)];omega)) rfl rfl ?_);refine A2 ?_;refine R2 (x8 sl37 (j) (by omega) (gN (by omega))) rfl rfl ?_;refine A1 ?_;refine R1 (x9 zgz (isS zgv) zah) rfl (R2 (xc9 (r:=(((n%2*65536+(dig 65536 a).getD j 0):Nat):Int)) (by rw [wr64 (by omega) (by omega)];omega)) rfl rfl ?_);refine A7 ?_;refine R2 (xs3 (r:=(((n%2*65536+(dig 65536 a).getD j 0) / 2:Nat):Int)) (by decide) (iquo64 (b:=2) (by omega))) rfl rfl (R1 (x9 zgv (isS zgz) (wu16 (by omega) (by omega))) rfl (R2 (zag sl37 rfl) rfl rfl (RE (xa8 (j) ti64 (xj2 (by omega)) (by omega) (xh1 (m:=_) rfl)) qB qA trivial ?_)));refine A8 ?_;exact kF ((j,(n%2*65536+(dig 65536 a).getD j 0),qs.set j ((n%2*65536+(dig 65536 a).getD j 0) / 2))) ⟨(by dsimp only;exact ⟨by omega,n1,n2,n3,n4⟩),(by dsimp only;omega)⟩
 ·
  have hk0:k=0:=by omega
  subst hk0;rw [List.drop_zero,zeg,Nat.div_one] at hv;refine A7 ?_;refine RE (xi5 (f:=fun n:Nat=>tE (.int .u16 n)) (xs:=qs) (fun _ h=>h) (xk2 hl) hl) qA qA trivial (R1 (x3 (yi2 _) fi284 rfl) rfl ?_);refine A4 ?_;exact E1 rfl rfl (Le.of (congrArg tLm (by rw [xe8 xa0 hD,hv])))
theorem xv1 (n:Int) (h1: -9223372036854775808<=n) (h2:n<=9223372036854775807):
  Ct Tryz.prog 71 [tI n] (tWh (wh n)):=by
 refine Ct.intro func71 rfl ntmps71 rfl ?_;intro w F;refine A2 ?_;refine RE (xa3 (k:=2) (n:=2) (agg:=true) zr39.1 zr39.2 rfl) trivial trivial qA ?_;refine A5 ?_;refine R1 (x9 zgw (isS zgz) toU64) rfl ?_;refine A3 ?_;refine xh3 (fun (v:Nat)=>v=n.natAbs) (fun (v:Nat)=>uV (uO (uV uN 0 (tI n)) 2 (.ptr 2 0)) 3 (tE (.int .u64 ((v:Nat):Int)))) (fun (v:Nat)=>uK uN 2 39 2 true [.val (tWh ⟨false,[]⟩)]) (nm [2]) ?_ ?_
 ·
  refine A6 ?_;refine xa6 rfl (fun h164=> ?_) (fun h164=> ?_)
  ·
   refine A2 ?_;refine R1 (yb4 (negU64 (by omega))) rfl ?_;refine A2 ?_;exact kF ((18446744073709551616 - (n%18446744073709551616).toNat)%18446744073709551616) (by omega)
  ·
   refine A1 ?_;exact kF ((n%18446744073709551616).toNat) (by omega)
 ·
  intro v hv;have hvl:=zv6 v (by omega);refine A2 ?_;refine RE (xh7 (k:=4) 64 1 false rfl (fun _=>rfl)) trivial trivial qA ?_;refine A4 ?_;refine cL (fun (fm:(Nat)×(Nat)×(List Nat))=>(fun (i:Nat) (u:Nat) (cs:List Nat)=>i<=(dig 65536 v).length/\u=v / 65536 ^ i/\cs=dgs 65536 i v/\u < 18446744073709551616) fm.1 fm.2.1 fm.2.2) (wC fun (i:Nat) (u:Nat) (cs:List Nat)=>uO (uV (uO (uV uN 0 (tI n)) 2 (.ptr 2 0)) 3 (tE (.int .u64 ((u:Nat):Int)))) 4 (.sl 4 1 0 cs.length)) (wC fun (i:Nat) (u:Nat) (cs:List Nat)=>uK (uK uN 2 39 2 true [.val (tWh ⟨false,[]⟩)]) 4 64 1 false (rW .u16 cs)) [2,4] (fun (fm:(Nat)×(Nat)×(List Nat))=>(fun (i:Nat) (u:Nat) (cs:List Nat)=>u) fm.1 fm.2.1 fm.2.2) ((0,v,[])) (by dsimp only;exact ⟨zbs _,by simp,rfl,by omega⟩) ?_;intro fm hI;obtain ⟨i,u,cs⟩:=fm;replace hI:i<=(dig 65536 v).length/\u=v / 65536 ^ i/\cs=dgs 65536 i v/\u < 18446744073709551616:=hI;show wc _ _ _ _ (uO (uV (uO (uV uN 0 (tI n)) 2 (.ptr 2 0)) 3 (tE (.int .u64 ((u:Nat):Int)))) 4 (.sl 4 1 0 cs.length)) (uK (uK uN 2 39 2 true [.val (tWh ⟨false,[]⟩)]) 4 64 1 false (rW .u16 cs)) _;obtain ⟨hi,hu,hcs,hu64⟩:=hI;have hcl:cs.length=i:=by rw [hcs,xg7]
  refine A7 ?_;refine xa6 rfl (fun h168=> ?_) (fun h168=> ?_)
  ·
   refine A7 ?_;refine R2 (xr1 (r:=((u%65536:Nat):Int)) (by decide) (wrem64 (b:=65536))) rfl rfl (R1 (x9 zgv (isS zgw) (wu16 (by omega) (by omega))) rfl (R1 (xm7 (n:=1) [u%65536] zgr el64 zf64 rfl rfl rfl) rfl (RE (xc5 (k:=4) (k':=18) (ts':=rW .u16 (cs++[u%65536])) zgr el64 zf64 rfl rfl (fun _=>inferInstance) xp6 (by simp;omega) (by simp;omega) (by simp [rW]) (n':=cs.length+1) rfl) ⟨rfl,rfl,trivial⟩ ⟨rfl,trivial⟩ ⟨rfl,trivial⟩ ?_)));refine A5 ?_;refine R2 (xs3 (r:=((u / 65536:Nat):Int)) (by decide) (wquo64 (b:=65536) (by omega))) rfl rfl ?_;refine A3 ?_;obtain ⟨n1,n2,n3⟩:=qn5 hu (by omega);exact xh0 (l:=[2,4]) (zab 4 18) ((i+1,u / 65536,cs++[u%65536])) ⟨(by dsimp only;exact ⟨n1,n2,by rw [hcs];exact n3,by omega⟩),(by dsimp only;omega)⟩ ((zbc rfl (zaw (by dsimp only;rw [zck];rfl))) (zaf rfl (zas rfl (zaf rfl zbd)))) ((zbb rfl (zat xi2.symm)) ((zbb rfl zap) zbe)) (zak rfl (zaj (zak rfl (zaj zar)))) (zam rfl (supJ xf3) (zam rfl (supJL rfl) zaz)) (lkOk rfl) rfl rfl (fun _ h=>by cases h)
  ·
   refine A9 ?_;have hfin:cs=dig 65536 v:=by rw [hcs];exact je6 (by rw [<-hu];omega) hi
   subst hfin;refine RE (xi5 (f:=fun n:Nat=>tE (.int .u16 n)) (xs:=(dig 65536 v)) (fun _ h=>h) (xk2 rfl) rfl) qA qA trivial (R2 (x3 (xi7 _ v) fi155 rfl) rfl rfl ?_);refine A4 ?_;exact EC rfl ⟨_,_,_,_,_,rfl,rfl,ti39,(Le.of (by rw [xs1,hv,wh];congr 2;by_cases h:n < 0 <;> simp [h];omega))⟩
instance fi156:FnI Tryz.prog 156:=⟨_,func156,by kernel_rfl,rfl⟩
instance fi224:FnI Tryz.prog 224:=⟨_,func224,by kernel_rfl,rfl⟩
instance fi225:FnI Tryz.prog 225:=⟨_,func225,by kernel_rfl,rfl⟩
instance fi254:FnI Tryz.prog 254:=⟨_,func254,by kernel_rfl,rfl⟩
instance fi255:FnI Tryz.prog 255:=⟨_,func255,by kernel_rfl,rfl⟩
instance fi256:FnI Tryz.prog 256:=⟨_,func256,by kernel_rfl,rfl⟩
theorem zb0 (q:Nat) (h:(dig 65536 q).length<=100000):Ct Tryz.prog 224 [tM q,tLm [1]] (tM (q+1)):=by
 have e:dig 65536 1=[1]:=by rw [xk7 xa0 (by decide),show (1:Nat) / 65536=0 by decide,xc4]
 have:=yk4 q 1 h (by rw [e];decide);rw [tM,tM,e] at this;exact this
theorem lenM {a b k:Nat} (h:a<=b) (hb:(dig 65536 b).length<=k):(dig 65536 a).length<=k:=zce (xd4 xa0 h) hb
theorem jp9 {l:List Nat} (h:l.length=1):decide (((l.getD 0 0:Nat):Int)=1)=decide (l=[1]):=by
 obtain ⟨a,rfl⟩:=List.length_eq_one_iff.1 h;simp;omega
theorem qd5 {n d:Int} (hd:d≠0):fr (Rat.divInt n d)=⟨wh (sgn (!((wh n).neg==(wh d).neg)) (n.natAbs / Nat.gcd n.natAbs d.natAbs)),wh (sgn false (d.natAbs / Nat.gcd n.natAbs d.natAbs))⟩:=by
 have key: ∀(n d:Int),0 < d->fr (Rat.divInt n d)=⟨wh (sgn (decide (n < 0)) (n.natAbs / Nat.gcd n.natAbs d.natAbs)),wh (sgn false (d.natAbs / Nat.gcd n.natAbs d.natAbs))⟩:=fun n d h=>by
  rw [xt1 h];have hg:(Int.gcd n d:Nat)=Nat.gcd n.natAbs d.natAbs:=rfl;rw [hg];have hdn:Nat.gcd n.natAbs d.natAbs ∣ n.natAbs:=Nat.gcd_dvd_left _ _;have hdd:Nat.gcd n.natAbs d.natAbs ∣ d.natAbs:=zgp _ _;generalize Nat.gcd n.natAbs d.natAbs=g at*
  have e2:d / (g:Int)=sgn false (d.natAbs / g):=by
   show _=((d.natAbs / g:Nat):Int)
   rw [Int.natCast_ediv];congr 1;omega
  have e1:n / (g:Int)=sgn (decide (n < 0)) (n.natAbs / g):=by
   by_cases hn:n < 0
   ·rw [zbg hn];show _= -((n.natAbs / g:Nat):Int)
    have:n= -(n.natAbs:Int):=by omega
    conv=>lhs;rw [this]
    rw [Int.neg_ediv_of_dvd (zgg.2 hdn),Int.natCast_ediv]
   ·rw [zbf hn];show _=((n.natAbs / g:Nat):Int)
    rw [Int.natCast_ediv];congr 1;omega
  rw [e1,e2]
 rcases Int.lt_or_gt_of_ne hd with h | h
 ·have e:Rat.divInt n d=Rat.divInt (-n) (-d):=(Rat.neg_divInt_neg n d).symm;rw [e,key (-n) (-d) (by omega),Int.natAbs_neg,Int.natAbs_neg];have e3:(wh d).neg=true:=zbg h;have e4:(wh n).neg=decide (n < 0):=rfl;rw [e3,e4];by_cases h0:n=0
  ·subst h0;simp [sgn]
  ·have:decide (-n < 0)= !(decide (n < 0)==true):=by
    by_cases hn:n < 0
    ·simp [hn];omega
    ·simp [hn];omega
   rw [this]
 ·rw [key n d h];have e3:(wh d).neg=false:=zbf (by omega);have e4:(wh n).neg=decide (n < 0):=rfl;rw [e3,e4];simp
theorem yb0 (a b:Nat) (hb:0 < b) (ha:(dig 65536 a).length<=4000) (hbl:(dig 65536 b).length<=4000):
  Ct Tryz.prog 156 [tM a,tM b] (tT [tM (a / b),tM (a%b)]):=by
 refine Ct.intro func156 rfl ntmps156 rfl ?_;intro w F;refine A14 ?_;refine xa6 rfl (fun h103=> ?_) (fun h103=> ?_)
 ·
  have hb0:=j5 (b:=b) (by omega);have hbW:=(xc3 xa0 b).getD (by decide) 0;refine A4 ?_;refine R2 (x8 sl37 (0) (by omega) (gN (by omega))) rfl rfl ?_;refine A1 ?_;refine R1 (x9 zgz (isS zgv) zah) rfl (R2 (x3 (je8 a _ (by omega) (by omega) (by omega)) fi254 rfl) rfl rfl ?_);refine A8 ?_;exact E2 rfl rfl rfl (Le.of (by rw [hb0])) (Le.of (by rw [hb0]))
 ·
  refine A15 ?_;refine cL (fun (n:Nat)=>n=0∨b*2 ^ n<=a+a) (fun (n:Nat)=>uV (uV (uV (uV uN 0 (tM a)) 1 (tM b)) 6 (tI n)) 7 (tM (b*2 ^ n))) (fun (n:Nat)=>fun _=>none) [] (fun (n:Nat)=>a+1 - b*2 ^ n) (0) (.inl rfl) (hg:=(Sub.le rfl (Le.of (by first | rw [zeg,zfr] | (dsimp only;rw [zeg,zfr]))) (sI (sC (sC zay))))) ?_;intro n hI;have hn:n < 16*4001:=by
   rcases hI with h | h
   ·omega
   ·refine ji6 (a:=a+a) ?_ (by have:=yu0 ha ha;omega);exact zce (zfh _ hb) h
  refine A5 ?_;refine R2 (x3 (zj8 a (b*2 ^ n)) fi255 rfl) rfl rfl ?_;refine A3 ?_;refine xc7 rfl (fun h107=> ?_) (fun h107=> ?_)
  ·
   have hle:b*2 ^ n<=a:=by
    have h:=h107;simp at h;exact h
   have hnl:=lenM hle ha;refine A7 ?_;refine R2 (x3 (yk4 (b*2 ^ n) (b*2 ^ n) (by omega) (by omega)) fi224 rfl) rfl rfl ?_;refine A9 ?_;have he:b*2 ^ n+b*2 ^ n=b*2 ^ (n+1):=by rw [zcc,<-zdf,Nat.mul_two]
   have hp:0 < b*2 ^ n:=Nat.mul_pos hb (zcu (by decide));exact kF (n+1) ⟨(.inr (by omega)),(by show a+1 - b*2 ^ (n+1) < a+1 - b*2 ^ n;omega)⟩ (hg:=(Sub.le rfl (Le.of (by rw [he])) (sI (sC (sC zay)))))
  ·
   have hlt:a < b*2 ^ n:=by
    have h:=h107;simp at h;exact h
   have hnl:(dig 65536 (b*2 ^ n)).length<=4001:=by
    rcases hI with h | h
    ·rw [h,zeg,zfr];omega
    ·exact lenM h (yu0 ha ha)
   refine A18 ?_;refine cL (fun (i:Nat)=>i<=n) (fun (i:Nat)=>uV (uV (uV (uV (uV uN 0 (tM a)) 1 (tM b)) 6 (tI n)) 8 (tM (b*2 ^ i))) 9 (tI i)) (fun (i:Nat)=>fun _=>none) [] (fun (i:Nat)=>n - i) (0) (zbs _) (hg:=(sI (Sub.le rfl (Le.of (by first | rw [zeg,zfr] | (dsimp only;rw [zeg,zfr]))) (sI (sC (sC zay)))))) ?_;intro i hJ;refine A8 ?_;refine xa6 rfl (fun h111=> ?_) (fun h111=> ?_)
   ·
    have hil:(dig 65536 (b*2 ^ i)).length<=4001:=lenM (zdh _ (Nat.pow_le_pow_right (by decide) (by omega))) hnl;refine A7 ?_;refine R2 (x3 (yk4 (b*2 ^ i) (b*2 ^ i) (by omega) (by omega)) fi224 rfl) rfl rfl ?_;refine A9 ?_;have he:b*2 ^ i+b*2 ^ i=b*2 ^ (i+1):=by rw [zcc,<-zdf,Nat.mul_two]
    exact kF (i+1) ⟨(by omega),(by omega)⟩ (hg:=(sI (Sub.le rfl (Le.of (by rw [he])) (sI (sC (sC zay))))))
   ·
    refine A12 ?_;refine RE (xi0 (k:=43) (ents:=[]) zgr el64 zf64 rfl (by simp) rfl rfl rfl) trivial trivial qA ?_;refine A1 ?_;refine RE (xc5 (k:=43) (k':=45) (ts':=rW .u16 (dig 65536 a)) zgr el64 zf64 rfl rfl (fun _=>inferInstance) rfl (by simp;omega) (by simp;omega) (by simp [rW]) (n':=(dig 65536 a).length) (by simp)) ⟨rfl,rfl,trivial⟩ ⟨rfl,trivial⟩ ⟨rfl,trivial⟩ (RE (xo2 (f:=fun n:Nat=>tE (.int .u16 n)) (xs:=dig 65536 a) (fun _ h=>h) (xk2 rfl) rfl) ⟨rfl,trivial⟩ ⟨rfl,trivial⟩ trivial ?_);refine A9 ?_;refine cL (fun (fm:(Nat)×(Nat)×(Nat)×(Nat))=>(fun (j:Nat) (q:Nat) (r:Nat) (d:Nat)=>j<=n/\d=b*2 ^ (n - j)/\a=q*d+r/\r < d) fm.1 fm.2.1 fm.2.2.1 fm.2.2.2) (wD fun (j:Nat) (q:Nat) (r:Nat) (d:Nat)=>uV (uV (uV (uV (uV uN 6 (tI n)) 8 (tM d)) 10 (tM q)) 11 (tM r)) 12 (tI j)) (wD fun (j:Nat) (q:Nat) (r:Nat) (d:Nat)=>fun _=>none) [] (fun (fm:(Nat)×(Nat)×(Nat)×(Nat))=>(fun (j:Nat) (q:Nat) (r:Nat) (d:Nat)=>n - j) fm.1 fm.2.1 fm.2.2.1 fm.2.2.2) ((0,0,a,b*2 ^ n)) (by dsimp only;exact ⟨zbs _,rfl,by omega,by omega⟩) (hg:=(sI (sC (Sub.le rfl (leNil (xc4 _)) (Sub.le rfl (Le.of (by first | rw [show i=n by omega] | (dsimp only;rw [show i=n by omega]))) (sI zay)))))) ?_;intro fm hK;obtain ⟨j,q,r,d⟩:=fm;replace hK:j<=n/\d=b*2 ^ (n - j)/\a=q*d+r/\r < d:=hK;show wc _ _ _ _ (uV (uV (uV (uV (uV uN 6 (tI n)) 8 (tM d)) 10 (tM q)) 11 (tM r)) 12 (tI j)) (fun _=>none) _;obtain ⟨hj,hd,hq,hr⟩:=hK;have hqa:q<=a:=by
     have h1:q*1<=q*d:=zdh _ (by omega);omega
    have hql:=lenM hqa ha;have hdn:b*2 ^ (n - j)<=b*2 ^ n:=zdh _ (Nat.pow_le_pow_right (by decide) (by omega));have hdl:(dig 65536 d).length<=4001:=by rw [<-hd] at hdn;exact lenM hdn hnl
    have hqq:=yu0 hql hql;refine A8 ?_;refine xa6 rfl (fun h116=> ?_) (fun h116=> ?_)
    ·
     refine A7 ?_;refine R1 (x3 (jk1 d (by omega)) fi256 rfl) rfl ?_;refine A7 ?_;refine R2 (x3 (yk4 q q (by omega) (by omega)) fi224 rfl) rfl rfl ?_;refine A7 ?_;refine R2 (x3 (zj8 r (d / 2)) fi255 rfl) rfl rfl ?_;refine A3 ?_;refine xc7 rfl (fun h119=> ?_) (fun h119=> ?_)
     ·
      have hge:d / 2<=r:=by
       have h:=h119;simp at h;exact h
      refine A4 ?_;refine R2 (x3 (ym4 r (d / 2) (by omega) (by have:=lenM (zfv hr) hdl;omega)) fi225 rfl) rfl rfl ?_;refine A5 ?_;refine R1 (xm7 (n:=1) [1] zgr el64 zf64 rfl rfl rfl) rfl (R2 (x3 (zb0 (q+q) (by omega)) fi224 rfl) rfl rfl ?_);refine A9 ?_;obtain ⟨b1,b2,b3⟩:=qd0 (by omega) hd hq hr;obtain ⟨b4,b5,b6⟩:=b3 (by omega);exact kF ((j+1,q+q+1,r - d / 2,d / 2)) ⟨(by dsimp only;exact ⟨by omega,b1,b4,b5⟩),(by dsimp only;omega)⟩
     ·
      have hge:r < d / 2:=by
       have h:=h119;simp at h;exact h
      refine A8 ?_;obtain ⟨b1,b2,b3⟩:=qd0 (by omega) hd hq hr;exact kF ((j+1,q+q,r,d / 2)) ⟨(by dsimp only;exact ⟨by omega,b1,b2 (by omega),by omega⟩),(by dsimp only;omega)⟩
    ·
     have hdb:d=b:=by rw [hd,show n - j=0 by omega,zeg,zfr]
     rw [hdb] at hq hr;obtain ⟨e1,e2⟩:=je5 hq hr;refine A14 ?_;exact E2 rfl rfl rfl (Le.of (by rw [e1])) (Le.of (by rw [e2]))
theorem zn9 (a b:Nat) (ha:(dig 65536 a).length<=4000) (hb:(dig 65536 b).length<=4000):
  Ct Tryz.prog 138 [tM a,tM b] (tM (Nat.gcd a b)):=by
 refine Ct.intro func138 rfl ntmps138 rfl ?_;intro w F;refine A7 ?_;refine cL (fun (fm:(Nat)×(Nat))=>(fun (x:Nat) (y:Nat)=>Nat.gcd x y=Nat.gcd a b/\(dig 65536 x).length<=4000/\(dig 65536 y).length<=4000) fm.1 fm.2) (wB fun (x:Nat) (y:Nat)=>uV (uV uN 0 (tM x)) 1 (tM y)) (wB fun (x:Nat) (y:Nat)=>fun _=>none) [] (fun (fm:(Nat)×(Nat))=>(fun (x:Nat) (y:Nat)=>y) fm.1 fm.2) ((a,b)) (by dsimp only;exact ⟨rfl,ha,hb⟩) ?_;intro fm hI;obtain ⟨x,y⟩:=fm;replace hI:Nat.gcd x y=Nat.gcd a b/\(dig 65536 x).length<=4000/\(dig 65536 y).length<=4000:=hI;show wc _ _ _ _ (uV (uV uN 0 (tM x)) 1 (tM y)) (fun _=>none) _;obtain ⟨hg,hx,hy⟩:=hI;refine A8 ?_;refine xa6 rfl (fun h261=> ?_) (fun h261=> ?_)
 ·
  have hy0:0 < y:=by have:=zw6.1 h261;omega
  refine A7 ?_;refine R2 (x3 (yb0 x y hy0 hx hy) fi156 rfl) rfl rfl ?_;refine A18 ?_;have hlt:x%y < y:=zcd _ hy0;exact kF ((y,x%y)) ⟨(by dsimp only;exact ⟨by rw [zgh,<-Nat.gcd_rec,zgh];exact hg,hy,lenM (zfv hlt) hy⟩),(by dsimp only;omega)⟩
 ·
  have hy0:y=0:=zgk fun h=>h261 (zw6.2 h);refine A12 ?_;exact E1 rfl rfl (Le.of (by rw [<-hg,hy0,Nat.gcd_zero_right]))
theorem qu9 (l:List Nat):
  Ct Tryz.prog 137 [tLm l] (tB (decide (l=[1]))):=by
 refine Ct.intro func137 rfl ntmps137 rfl ?_;intro w F;refine A11 ?_;refine RGcaseD (t:=6) rfl (fun h24=> ?_) (fun h24=> ?_)
 ·
  refine A1 ?_;refine Rg (zbg h24) rfl (x8 sl37 (0) (by omega) (gN (by omega))) rfl qB ?_;refine A7 ?_;exact E1 rfl rfl (zau (jp9 (by omega)))
 ·
  refine A9 ?_;exact E1 rfl rfl (zau (zbf (fun h=>h24 (by rw [h];rfl))).symm)
instance fi70:FnI Tryz.prog 70:=⟨_,func70,by kernel_rfl,rfl⟩
instance fi71:FnI Tryz.prog 71:=⟨_,func71,by kernel_rfl,rfl⟩
instance fi129:FnI Tryz.prog 129:=⟨_,func129,by kernel_rfl,rfl⟩
instance fi137:FnI Tryz.prog 137:=⟨_,func137,by kernel_rfl,rfl⟩
instance fi138:FnI Tryz.prog 138:=⟨_,func138,by kernel_rfl,rfl⟩
theorem ys7 (n d:Int) (hn:len16 n<=4000) (hd:len16 d<=4000) (hd0:d≠0):
  Ct Tryz.prog 70 [tWh (wh n),tWh (wh d)] (tFr (fr (Rat.divInt n d))):=by
 have hg0:0 < (Nat.gcd n.natAbs d.natAbs):=Nat.gcd_pos_of_pos_right _ (by omega);have hgl:=lenM (Nat.le_of_dvd (by omega) (zgp n.natAbs d.natAbs)) hd;refine Ct.intro func70 rfl ntmps70 rfl ?_;intro w F;refine A4 ?_;refine RE (xa3 (k:=4) (n:=4) (agg:=true) zr41.1 zr41.2 rfl) trivial trivial qA ?_;refine A8 ?_;refine R2 (x3 (zn9 n.natAbs d.natAbs hn hd) fi138 rfl) rfl rfl ?_;refine A7 ?_;refine R1 (x3 (qu9 _) fi137 rfl) rfl ?_;refine A2 ?_;refine xc7 rfl (fun h15=> ?_) (fun h15=> ?_)
 ·
  have hg1:(Nat.gcd n.natAbs d.natAbs)=1:=by
   have h:=zdt h15;rw [<-xk4 xa0 (Nat.gcd n.natAbs d.natAbs),h];rfl
  refine A9 ?_;refine R2 (x3 (xi7 (!((wh n).neg==(wh d).neg)) n.natAbs) fi155 rfl) rfl rfl ?_;refine A2 ?_;refine R2 (x3 (xi7 false d.natAbs) fi155 rfl) rfl rfl (R2 (xb7 (r:=tS [⟨2,true,tWh (wh (sgn (!((wh n).neg==(wh d).neg)) n.natAbs))⟩,⟨2,true,tWh (wh (sgn false d.natAbs))⟩]) (ts:=[(0,tWh (wh (sgn (!((wh n).neg==(wh d).neg)) n.natAbs))),(1,tWh (wh (sgn false d.natAbs)))]) bu41 zr41.2 (Bc 0 rfl rfl rfl (Bc 1 rfl rfl rfl zao))) rfl rfl ?_);refine A5 ?_;exact EC rfl ⟨_,_,_,_,_,rfl,rfl,ti41,(Le.of (by rw [qd5 hd0,hg1,Nat.div_one,Nat.div_one]))⟩
 ·
  refine A7 ?_;refine R2 (x3 (yb0 n.natAbs (Nat.gcd n.natAbs d.natAbs) hg0 hn hgl) fi156 rfl) rfl rfl ?_;refine A12 ?_;refine R2 (x3 (yb0 d.natAbs (Nat.gcd n.natAbs d.natAbs) hg0 hd hgl) fi156 rfl) rfl rfl ?_;refine A15 ?_;refine R2 (x3 (xi7 (!((wh n).neg==(wh d).neg)) (n.natAbs / (Nat.gcd n.natAbs d.natAbs))) fi155 rfl) rfl rfl ?_;refine A1 ?_;refine R2 (x3 (xi7 false (d.natAbs / (Nat.gcd n.natAbs d.natAbs))) fi155 rfl) rfl rfl (R2 (xb7 (r:=tS [⟨2,true,tWh (wh (sgn (!((wh n).neg==(wh d).neg)) (n.natAbs / (Nat.gcd n.natAbs d.natAbs))))⟩,⟨2,true,tWh (wh (sgn false (d.natAbs / (Nat.gcd n.natAbs d.natAbs))))⟩]) (ts:=[(0,tWh (wh (sgn (!((wh n).neg==(wh d).neg)) (n.natAbs / (Nat.gcd n.natAbs d.natAbs))))),(1,tWh (wh (sgn false (d.natAbs / (Nat.gcd n.natAbs d.natAbs)))))]) bu41 zr41.2 (Bc 0 rfl rfl rfl (Bc 1 rfl rfl rfl zao))) rfl rfl ?_);refine A4 ?_;exact EC rfl ⟨_,_,_,_,_,rfl,rfl,ti41,(Le.of (by rw [qd5 hd0]))⟩
theorem xq5 (n d:Int) (hd0:d≠0) (h1: -9223372036854775808<=n) (h2:n<=9223372036854775807) (h3: -9223372036854775808<=d) (h4:d<=9223372036854775807):
  Ct Tryz.prog 20 [tI n,tI d] (tFr (fr (Rat.divInt n d))):=by
 have l1:=len16_64 h1 h2;have l2:=len16_64 h3 h4;refine Ct.intro func20 rfl ntmps20 rfl ?_;intro w F;refine A2 ?_;refine RE (xa3 (k:=4) (n:=4) (agg:=true) zr41.1 zr41.2 rfl) trivial trivial qA ?_;refine A5 ?_;refine R1 (x3 (xv1 n h1 h2) fi71 rfl) rfl ?_;refine A1 ?_;refine R1 (x3 (xv1 d h3 h4) fi71 rfl) rfl (R2 (x3 (ys7 n d (by omega) (by omega) hd0) fi70 rfl) rfl rfl ?_);refine A4 ?_;exact EC rfl ⟨_,_,_,_,_,rfl,rfl,ti41,zao⟩
theorem jc9 (f g:Fr):
  Ct Tryz.prog 46 [tFr f,tFr g] (tB (decide (f=g))):=by
 refine Ct.intro func46 rfl ntmps46 rfl ?_;intro w F;refine A13 ?_;refine R2 (x3 (qc7 _ _) fi129 rfl) rfl rfl ?_;refine A1 ?_;refine RGcase (t:=10) rfl (fun h47=> ?_) (fun h47=> ?_)
 ·
  have hn:f.n=g.n:=zdt h47;refine A4 ?_;refine Rg h47 rfl (x3 (qc7 _ _) fi129 rfl) rfl qB ?_;refine A5 ?_;exact E1 rfl rfl (zau (by obtain ⟨a,b⟩:=f;obtain ⟨c,d⟩:=g;simp only at hn;subst hn;simp))
 ·
  have hn:f.n≠g.n:=of_decide_eq_false h47;refine A10 ?_;exact E1 rfl rfl (zau (zbf (fun h=>hn (by rw [h]))).symm)
end An.S
namespace An.S
open Go
end An.S
namespace An
open Go
def tO {α:Type} (n:Nat) (agg:Bool) (f:α->Ty):Option α->Ty
 | none=>tE (.pointer none)
 | some x=>tP n agg (f x)
instance {α:Type} {n:Nat} {agg:Bool} {f:α->Ty} {o:Option α}:Shape (tO n agg f o) 1 false:=⟨fun h=>by
 cases o with
 | none=>have h:_=_:=h;rw [h];exact xd6 rfl
 | some x=>obtain ⟨_,_,_,h,_⟩:=h;rw [h];exact xd6 rfl⟩
section
variable {P:Program} {c:Base} {d ty:Nat} {pos:String} {af:Array Edge} {gd:Option (Nat×Bool)} {α:Type} {n:Nat} {agg:Bool} {f:α->Ty}
end
end An
namespace An
open Go Go.Proofs Go.Shelf Go.Sort Tryz
end An
namespace An.S
open Go
end An.S
namespace An
open Go
section
variable {P:Program} {c:Base}
theorem qc8 {D:Nat->Bool} {n:Nat} (h: ∀j,n<=j->D j=false): ∀m,m - n<=left D m
 | 0=>by simp [left]
 | m+1=>by
  have ih:=qc8 h m;simp only [left];rcases zcs m n with h1 | h1
  ·omega
  ·rw [h m h1];simp only [zeq];omega
theorem jp0 {ops:List Oper} {Es:List Eff} {n:Nat} {g0:Slots} {h0:Keys} {al0:Nat->Bool} {Q:Exit->Act->World->Prop} (hn:n<=ops.length) (hlen:n=Es.length)
  (hD: ∀(i:Nat) (o:Oper) (E:Eff),ops[i]? =some o->Es[i]? =some E->DoesR P c ops.toArray o E)
  (hpre: ∀(i:Nat) (E:Eff),Es[i]? =some E->E.PreL (runC (fun j=>decide (j < i)) 0 (Es.map Eff.cg) g0) (runC (fun j=>decide (j < i)) 0 (Es.map Eff.ch) h0) (runC (fun j=>decide (j < i)) 0 (Es.map Eff.ca) al0))
  (hgo:goAll (masks ops #[]) [] (Es.map Eff.sm)=true) (hd:dOk c.N (Es.map Eff.sm)=true) (hnk:nkOk (Es.map Eff.sm) []=true) (hed:edgesOk 0 ops=true)
  (hrest: ∀i,n<=i->i < ops.length-> ∀j,j < i->((masks ops #[]).getD i 0).testBit j=true)
  (hQ: ∀(fuel:Nat) (listed:Array Bool) (a:Act) (w:World),listed.size=ops.length->Closed ops (fun i=>listed.getD i false)->(∀j,listed.getD j false=decide (j < n))->ops.length - n<=fuel->
   St c (runC (fun _=>true) 0 (Es.map Eff.cg) g0) (runC (fun _=>true) 0 (Es.map Eff.ch) h0) (runC (fun _=>true) 0 (Es.map Eff.ca) al0) a w->wpAnyIn (fc c.ro) 0 P .any ops.toArray Q fuel listed a w):
  ∀(fuel:Nat) (listed:Array Bool) (a:Act) (w:World),listed.size=ops.length->Closed ops (fun i=>listed.getD i false)->(∀j,n<=j->listed.getD j false=false)->
   left (fun i=>listed.getD i false) ops.length<=fuel->
   St c (runC (fun i=>listed.getD i false) 0 (Es.map Eff.cg) g0) (runC (fun i=>listed.getD i false) 0 (Es.map Eff.ch) h0) (runC (fun i=>listed.getD i false) 0 (Es.map Eff.ca) al0) a w->
   wpAnyIn (fc c.ro) 0 P .any ops.toArray Q fuel listed a w:=by
 have hsm: ∀(i:Nat) (E:Eff),Es[i]? =some E->(Es.map Eff.sm)[i]? =some E.sm:=fun i E h=>by rw [zbp,h];rfl
 have hpair: ∀(i j:Nat) (E E':Eff),i < j->Es[i]? =some E->Es[j]? =some E'->((masks ops #[]).getD j 0).testBit i=true∨Indep E.sm E'.sm:=fun i j E E' hij hi hj=>
  yp0 (Es.map Eff.sm) [] hgo i j _ _ hij (zbs _) (by simpa using hsm i E hi) (by simpa using hsm j E' hj)
 have hmask: ∀D,Closed ops D-> ∀i j,((masks ops #[]).getD i 0).testBit j=true->(∀o,ops[i]? =some o-> ∀e∈o.after.toList,Region.binds .any e=true->D e.on=true)->D j=true:=by
  intro D hcl i j hj hi;rw [zbn] at hj;cases hm:(masks ops #[])[i]? with
  | none=>rw [hm] at hj;simp at hj
  | some m=>rw [hm] at hj;exact yb8 (ops:=ops) ops #[] (by simp) (by simp) D hcl i m hm hi j hj
 have hmaskD: ∀D,Closed ops D-> ∀i j,((masks ops #[]).getD i 0).testBit j=true->D i=true->D j=true:=fun D hcl i j hj hi=>hmask D hcl i j hj fun o ho=>hcl i o ho hi;have hall: ∀(fuel:Nat) (listed:Array Bool) (a:Act) (w:World),listed.size=ops.length->Closed ops (fun i=>listed.getD i false)->(∀j,n<=j->listed.getD j false=false)->left (fun i=>listed.getD i false) ops.length<=fuel->
   St c (runC (fun i=>listed.getD i false) 0 (Es.map Eff.cg) g0) (runC (fun i=>listed.getD i false) 0 (Es.map Eff.ch) h0) (runC (fun i=>listed.getD i false) 0 (Es.map Eff.ca) al0) a w->
   (∀j,j < n->listed.getD j false=true)->wpAnyIn (fc c.ro) 0 P .any ops.toArray Q fuel listed a w:=by
  intro fuel listed a w hsz hcl hno hleft hs hall;have hcong: ∀{β:Type} (l:List (Chg β)) (f:Nat->β),l.length=n->runC (fun i=>listed.getD i false) 0 l f=runC (fun _=>true) 0 l f:=fun l f hl=>by
   funext s;refine xh9 l 0 f f rfl fun j C hj _=> ?_;rw [zcj];exact hall j (by have:=(zbi.1 hj).1;omega)
  rw [hcong _ _ (by simp [hlen]),hcong _ _ (by simp [hlen]),hcong _ _ (by simp [hlen])] at hs;have hge:=qc8 (D:=fun i=>listed.getD i false) hno ops.length;refine hQ fuel listed a w hsz hcl (fun j=> ?_) (by omega) hs;rcases zcs j n with h1 | h1
  ·rw [hall j h1,zbg h1]
  ·rw [hno j h1,zbf (by omega)]
 have hsome: ∀(listed:Array Bool),listed.size=ops.length-> ¬(∀j,j < n->listed.getD j false=true)->Region.ready .any ops.toArray listed≠[]:=by
  intro listed hsz hnall hr;refine hnall fun i=> ?_
  induction i using Nat.strongRecOn with
  | _ i ih=>
   intro hi;cases hl:listed.getD i false with
   | true=>rfl
   | false=>
    exfalso;have:i∈Region.ready .any ops.toArray listed:=by
     rw [mem_ready];refine ⟨?_,ops[i],by simp [show i < ops.length by omega],fun e he hb=> ?_⟩
     ·rw [zbn] at hl ⊢;rw [zdb (by omega)] at hl ⊢;simpa using hl
     ·have hon:=xv4 ops 0 hed i ops[i] (zbk (by omega)) e (by simpa using he) hb;exact ih e.on (by omega) (by omega)
    rw [hr] at this;cases this
 intro fuel
 induction fuel with
 | zero=>
  intro listed a w hsz hcl hno hleft hs;refine hall 0 listed a w hsz hcl hno hleft hs fun j hj=> ?_;exact ys8 (D:=fun i=>listed.getD i false) ops.length (by omega) j (by omega)
 | succ fuel ih=>
  intro listed a w hsz hcl hno hleft hs;by_cases hal: ∀j,j < n->listed.getD j false=true
  ·exact hall _ listed a w hsz hcl hno hleft hs hal
  refine ⟨fun hr=>absurd hr (hsome listed hsz hal),fun i hi=> ?_⟩;have hin:i < n:=by
   rw [mem_ready] at hi;obtain ⟨h1,o,ho,hedge⟩:=hi;have hlt:i < ops.length:=by
    have:=(zex.1 ho).1;simpa using this
   refine Decidable.byContradiction fun hge=>hal fun j hj=> ?_;exact hmask _ hcl i j (hrest i (by omega) hlt j (by omega)) fun o' ho'' e he hbd=>by
    have ho3:ops[i]? =some o:=by simpa using ho
    rw [ho3] at ho'';cases ho'';exact hedge e (by simpa using he) hbd
  rw [mem_ready] at hi;obtain ⟨h1,o,ho,hedge⟩:=hi;have hlt:i < ops.length:=by
   have:=(zex.1 ho).1;simpa using this
  have ho':ops[i]? =some o:=by simpa using ho
  have hEi:Es[i]? =some (Es[i]'(by omega)):=zbk (by omega);generalize hE:Es[i]'(by omega)=E at hEi;have hDi:listed.getD i false=false:=by
   rw [zbn,zdb (by omega)] at h1 ⊢;simpa using h1
  have hahead: ∀j E',Es[j]? =some E'->j≠i-> ¬Indep E'.sm E.sm-> ¬Indep E.sm E'.sm->listed.getD j false=decide (j < i):=by
   intro j E' hj hji hn1 hn2;rcases zcs j i with hlt' | hge
   ·rw [zbg hlt'];rcases hpair j i E' E hlt' hj hEi with hb | hb
    ·exact hmask _ hcl i j hb fun o' ho'' e he hbd=>by
      rw [ho'] at ho'';cases ho'';exact hedge e (by simpa using he) hbd
    ·exact absurd hb hn1
   ·rw [zbf (by omega)];rcases hpair i j E E' (by omega) hEi hj with hb | hb
    ·cases hd':listed.getD j false with
     | false=>rfl
     | true=>
      have this:listed.getD i false=true:=hmaskD _ hcl j i hb hd';rw [hDi] at this;cases this
    ·exact absurd hb hn2
  have hp0:=hpre i E hEi;have hpD:E.Pre c (runC (fun i=>listed.getD i false) 0 (Es.map Eff.cg) g0) (runC (fun i=>listed.getD i false) 0 (Es.map Eff.ch) h0) (runC (fun i=>listed.getD i false) 0 (Es.map Eff.ca) al0):=by
   refine ⟨Rd.congr (fun s hs=> ?_) hp0.rd,Kr.congr (fun s hs=> ?_) hp0.kr,Nk.congr (fun s hs=> ?_) hp0.nk,fun x hx=> ?_⟩
   ·refine xh9 _ 0 _ _ rfl fun j C hj hsome=> ?_;rw [zbp] at hj;cases hj':Es[j]? with
    | none=>rw [hj'] at hj;cases hj
    | some E'=>
     rw [hj'] at hj;cases hj;have hw:=Eff.cg_some.1 hsome;rw [zcj];by_cases hji:j=i
     ·subst hji;rw [zbf (by omega)];exact hDi.symm
     ·exact (hahead j E' hj' hji (fun hI=>hI.h1 s hw hs) (fun hI=>hI.h3 s hw hs)).symm
   ·refine xh9 _ 0 _ _ rfl fun j C hj hsome=> ?_;rw [zbp] at hj;cases hj':Es[j]? with
    | none=>rw [hj'] at hj;cases hj
    | some E'=>
     rw [hj'] at hj;cases hj;have hw:=Eff.ch_some.1 hsome;rw [zcj];by_cases hji:j=i
     ·subst hji;rw [zbf (by omega)];exact hDi.symm
     ·exact (hahead j E' hj' hji (fun hI=>hI.h4 s hw hs) (fun hI=>hI.h6 s hw hs)).symm
   ·refine xh9 _ 0 _ _ rfl fun j C hj hsome=> ?_;rw [zbp] at hj;cases hj':Es[j]? with
    | none=>rw [hj'] at hj;cases hj
    | some E'=>
     rw [hj'] at hj;cases hj;rw [zcj];by_cases hji:j=i
     ·subst hji;rw [zbf (by omega)];exact hDi.symm
     ·exfalso;have hm:s∈E'.nk:=Eff.ca_mem hsome;have hs':s∈E.sm.nk:=hs;rcases zcs j i with hlt' | hge
      ·exact (xp8 hnk).2 j i _ _ hlt' (hsm j E' hj') (hsm i E hEi) s hm hs'
      ·exact (xp8 hnk).2 i j _ _ (by omega) (hsm i E hEi) (hsm j E' hj') s hs' hm
   ·exact yn6 hd i _ (hsm i E hEi) x.1 (by simp [Eff.sm,hx])
  have hD': ∀j,j≠i->(listed.setIfInBounds i true).getD j false=listed.getD j false:=fun j hj=>Go.getD_set_ne false (fun h=>hj h.symm);have hi':(listed.setIfInBounds i true).getD i false=true:=by
   rw [zbn];simp [hsz,hlt]
  have hg':E.g (runC (fun i=>listed.getD i false) 0 (Es.map Eff.cg) g0)=runC (fun j=>(listed.setIfInBounds i true).getD j false) 0 (Es.map Eff.cg) g0:=by
   rw [<-Eff.cg_run];refine xz4 (D':=fun j=>(listed.setIfInBounds i true).getD j false) (i:=i) (by rw [zbp,hEi];rfl) hD' hi' (fun j C' hj hij s h1 h2=> ?_) _;rw [zbp] at hj;cases hj':Es[j]? with
   | none=>rw [hj'] at hj;cases hj
   | some E'=>
    rw [hj'] at hj;cases hj;have:=hahead j E' hj' (by omega) (fun hI=>hI.h2 s (Eff.cg_some.1 h2) (Eff.cg_some.1 h1)) (fun hI=>hI.h2 s (Eff.cg_some.1 h1) (Eff.cg_some.1 h2));rw [this,zbf (by omega)]
  have hh':E.h (runC (fun i=>listed.getD i false) 0 (Es.map Eff.ch) h0)=runC (fun j=>(listed.setIfInBounds i true).getD j false) 0 (Es.map Eff.ch) h0:=by
   rw [<-Eff.ch_run];refine xz4 (D':=fun j=>(listed.setIfInBounds i true).getD j false) (i:=i) (by rw [zbp,hEi];rfl) hD' hi' (fun j C' hj hij s h1 h2=> ?_) _;rw [zbp] at hj;cases hj':Es[j]? with
   | none=>rw [hj'] at hj;cases hj
   | some E'=>
    rw [hj'] at hj;cases hj;have:=hahead j E' hj' (by omega) (fun hI=>hI.h5 s (Eff.ch_some.1 h2) (Eff.ch_some.1 h1)) (fun hI=>hI.h5 s (Eff.ch_some.1 h1) (Eff.ch_some.1 h2));rw [this,zbf (by omega)]
  have ha':E.al (runC (fun i=>listed.getD i false) 0 (Es.map Eff.ca) al0)=runC (fun j=>(listed.setIfInBounds i true).getD j false) 0 (Es.map Eff.ca) al0:=by
   rw [<-Eff.ca_run];refine xz4 (D':=fun j=>(listed.setIfInBounds i true).getD j false) (i:=i) (by rw [zbp,hEi];rfl) hD' hi' (fun j C' hj hij s h1 h2=> ?_) _;rw [zbp] at hj;cases hj':Es[j]? with
   | none=>rw [hj'] at hj;cases hj
   | some E'=>
    rw [hj'] at hj;cases hj;exfalso;exact (xp8 hnk).2 i j _ _ hij (hsm i E hEi) (hsm j E' hj') s (Eff.ca_mem h1) (Eff.ca_mem h2)
  have hcl':Closed ops (fun j=>(listed.setIfInBounds i true).getD j false):=by
   intro j o' hj hDj e he hb;by_cases hji:j=i
   ·subst hji;rw [ho'] at hj;cases hj;exact getD_set_true (hedge e (by simpa using he) hb)
   ·simp only [hD' j hji] at hDj;exact getD_set_true (hcl j o' hj hDj e he hb)
  have hleft':left (fun j=>(listed.setIfInBounds i true).getD j false) ops.length<=fuel:=by
   have:=z7 (D:=fun j=>listed.getD j false) (D':=fun j=>(listed.setIfInBounds i true).getD j false) (i:=i) hD' hi' hDi ops.length hlt;omega
  have hdo:=hD i o E ho' hEi _ _ _ a w hpD hs;have hgo': ∀a' w',St c (E.g (runC (fun i=>listed.getD i false) 0 (Es.map Eff.cg) g0)) (E.h (runC (fun i=>listed.getD i false) 0 (Es.map Eff.ch) h0)) (E.al (runC (fun i=>listed.getD i false) 0 (Es.map Eff.ca) al0)) a' w'->
    wpAnyIn (fc c.ro) 0 P .any ops.toArray Q fuel (listed.setIfInBounds i true) a' w':=fun a' w' hs'=>by
   rw [hg',hh',ha'] at hs';exact ih _ a' w' (by simp [hsz]) hcl' (fun j hj=>by rw [hD' j (by omega)];exact hno j hj) hleft' hs'
  unfold wpOpIn;rw [ho];simp only;split
  ·rename_i hw;rw [if_pos hw] at hdo;exact Oper.wpIn_mono hgo' (zi2 hdo)
  ·rename_i hw;rw [if_neg hw] at hdo;exact ⟨fun _ _=>trivial,hgo' _ _ hdo⟩
theorem j8 {ops:List Oper} {Q:Exit->Act->World->Prop} {n:Nat} (hed:edgesOk 0 ops=true) (hrest: ∀i,n<=i->i < ops.length-> ∀j,j < i->((masks ops #[]).getD i 0).testBit j=true):
  ∀(k m:Nat) (fuel:Nat) (listed:Array Bool) (a:Act) (w:World),n<=m->m+k=ops.length->listed.size=ops.length->Closed ops (fun i=>listed.getD i false)->(∀j,listed.getD j false=decide (j < m))->k<=fuel->
   wpListIn (fc c.ro) 0 P ops.toArray Q (ops.drop m) a w->wpAnyIn (fc c.ro) 0 P .any ops.toArray Q fuel listed a w:=by
 have hmask: ∀D,Closed ops D-> ∀i j,((masks ops #[]).getD i 0).testBit j=true->(∀o,ops[i]? =some o-> ∀e∈o.after.toList,Region.binds .any e=true->D e.on=true)->D j=true:=by
  intro D hcl i j hj hi;rw [zbn] at hj;cases hm:(masks ops #[])[i]? with
  | none=>rw [hm] at hj;simp at hj
  | some m=>rw [hm] at hj;exact yb8 (ops:=ops) ops #[] (by simp) (by simp) D hcl i m hm hi j hj
 intro k
 induction k with
 | zero=>
  intro m fuel listed a w hnm hmk hsz hcl hli hfu hw;have hnil:Region.ready .any ops.toArray listed=[]:=by
   cases hr:Region.ready .any ops.toArray listed with
   | nil=>rfl
   | cons i rs=>
    have hi:i∈Region.ready .any ops.toArray listed:=by rw [hr];simp
    rw [mem_ready] at hi;obtain ⟨h1,o,ho,_⟩:=hi;have hlt:i < ops.length:=by
     have:=(zex.1 ho).1;simpa using this
    have this:=hli i;rw [zbg (by omega)] at this;rw [zbn,zdb (by omega)] at h1 this;simp at h1 this;rw [h1] at this;cases this
  rw [List.drop_of_length_le (by omega)] at hw;cases fuel with
  | zero=>exact ⟨hnil,hw⟩
  | succ f=>
   refine ⟨fun _=>hw,fun i hi=> ?_⟩;rw [hnil] at hi;cases hi
 | succ k ih=>
  intro m fuel listed a w hnm hmk hsz hcl hli hfu hw;have hlt:m < ops.length:=by omega
  have hmr:m∈Region.ready .any ops.toArray listed:=by
   rw [mem_ready];have hl:=hli m;rw [zbf (by omega)] at hl;refine ⟨?_,ops[m],by simp [hlt],fun e he hb=> ?_⟩
   ·rw [zbn] at hl ⊢;rw [zdb (by omega)] at hl ⊢;simpa using hl
   ·have hon:=xv4 ops 0 hed m ops[m] (zbk (by omega)) e (by simpa using he) hb;rw [hli,zbg (by omega)]
  cases fuel with
  | zero=>omega
  | succ f=>
   refine ⟨fun hr=>(by rw [hr] at hmr;cases hmr),fun i hi=> ?_⟩;rw [mem_ready] at hi;obtain ⟨h1,o,ho,hedge⟩:=hi;have hlt2:i < ops.length:=by
    have:=(zex.1 ho).1;simpa using this
   have ho3:ops[i]? =some o:=by simpa using ho
   have him:i=m:=by
    have hge:m<=i:=Decidable.byContradiction fun hge=>by
     have this:=hli i;rw [zbg (by omega)] at this;rw [zbn,zdb (by omega)] at h1 this;simp at h1 this;rw [h1] at this;cases this
    refine Decidable.byContradiction fun hne=> ?_;have hb:=hrest i (by omega) hlt2 m (by omega);have:=hmask _ hcl i m hb fun o' ho'' e he hbd=>by
     rw [ho3] at ho'';cases ho'';exact hedge e (by simpa using he) hbd
    rw [hli,zbf (by omega)] at this;cases this
   subst him;have edr:ops.drop i=o::ops.drop (i+1):=by
    rw [List.drop_eq_getElem_cons hlt];rw [zbk hlt] at ho3;cases ho3;rfl
   rw [edr] at hw;unfold wpListIn at hw;have hcl':Closed ops (fun j=>(listed.setIfInBounds i true).getD j false):=by
    intro j o' hj hDj e he hb;by_cases hji:j=i
    ·subst hji;rw [ho3] at hj;cases hj;exact getD_set_true (hedge e (by simpa using he) hb)
    ·simp only [Go.getD_set_ne false (fun h=>hji h.symm)] at hDj;exact getD_set_true (hcl j o' hj hDj e he hb)
   have hli': ∀j,(listed.setIfInBounds i true).getD j false=decide (j < i+1):=fun j=>by
    by_cases hji:j=i
    ·subst hji;rw [zbn];simp [hsz,hlt]
    ·rw [Go.getD_set_ne false (fun h=>hji h.symm),hli];by_cases h2:j < i
     ·rw [zbg h2,zbg (by omega)]
     ·rw [zbf h2,zbf (by omega)]
   have key:=fun a w (hw2:wpListIn (fc c.ro) 0 P ops.toArray Q (ops.drop (i+1)) a w)=>ih (i+1) f (listed.setIfInBounds i true) a w (by omega) (by omega) (by simp [hsz]) hcl' hli' (by omega) hw2;unfold wpOpIn;rw [ho];simp only;split
   ·rename_i hwa;rw [if_pos hwa] at hw;exact Oper.wpIn_mono key hw
   ·rename_i hwa;rw [if_neg hwa] at hw;exact ⟨hw.1,key _ _ hw.2⟩
end
def lastB (n:Nat) (ops:List Oper):Bool:=(List.range ops.length).all fun i=>Nat.blt i n || (List.range i).all fun j=>((masks ops #[]).getD i 0).testBit j
theorem ze9 {n:Nat} {ops:List Oper} (h:lastB n ops=true): ∀i,n<=i->i < ops.length-> ∀j,j < i->((masks ops #[]).getD i 0).testBit j=true:=fun i h1 h2 j hj=>by
 have h3:=zez.1 h i (zcw.2 h2);rw [zgm] at h3;rcases h3 with h3 | h3
 ·have:i < n:=by simpa using h3
  omega
 ·exact zez.1 h3 j (zcw.2 hj)
def chkY (ops:List Oper) (sms:List Sm) (n N:Nat):Bool:=goAll (masks ops #[]) [] sms && dOk N sms && nkOk sms [] && edgesOk 0 ops && lastB n ops && Nat.ble n ops.length
section
variable {P:Program} {c:Base} {Q:Exit->Act->World->Prop} {g:Slots} {h:Keys} {al:Names}
theorem qd3 (hm:P.follows .mixedOrders=true) {id n:Nat} {ops:List Oper}
  (H:RSeq P c ops.toArray (fun sms g h al=>chkY ops sms n c.N=true/\wl P c ops.toArray Q (ops.drop n) g h al) (ops.take n) [] g h al):wc P c (.region id ops.toArray true) Q g h al:=by
 intro a w hs;obtain ⟨Es,h1,h2,h3,h4⟩:=RSeq.split (g0:=g) (h0:=h) (al0:=al) (ops.take n) [] H;simp only [chkY,zcf,List.nil_append] at h3;obtain ⟨⟨⟨⟨⟨c1,c2⟩,c3⟩,c4⟩,c5⟩,c6⟩:=h3;have hn:n<=ops.length:=zdm c6;have hle:n=Es.length:=by rw [h1,zcz];omega
 refine wpIn_region_any hm ?_;have hsz:(Array.replicate ops.toArray.size false).size=ops.length:=by simp
 have hfl: ∀i,(Array.replicate ops.toArray.size false).getD i false=false:=fun i=>by
  rw [zbn,Array.getElem?_replicate];split <;> rfl
 have hfalse:(fun i=>(Array.replicate ops.toArray.size false).getD i false)=fun _=>false:=funext hfl;have h0: ∀{β:Type} (l:List (Chg β)) (i:Nat) (f:Nat->β),runC (fun _=>false) i l f=f:=by
  intro β l
  induction l with
  | nil=>intro i f;rfl
  | cons C l ih=>intro i f;simp only [runC,zeq];exact ih _ _
 have htake: ∀(i:Nat) (o:Oper) (E:Eff),ops[i]? =some o->Es[i]? =some E->(ops.take n)[i]? =some o:=fun i o E ho hE=>by
  have hi:i < Es.length:=(zbi.1 hE).1;rw [List.getElem?_take,if_pos (by omega)];exact ho
 refine jp0 (g0:=g) (h0:=h) (al0:=al) hn hle (fun i o E ho hE=>(h2 i o E (htake i o E ho hE) hE).1) (fun i E hE=> ?_) c1 c2 c3 c4 (ze9 c5) (fun fuel listed a w hsz hcl hli hfu hs=> ?_) _ _ a _ hsz ?_ (fun j _=>hfl j) ?_ ?_
 ·have hi:i < Es.length:=(zbi.1 hE).1;have:=(h2 i ops[i] E (htake i _ E (zbk (by omega)) hE) hE).2;rw [xu1,xu1,xu1];simpa [List.map_take] using this
 ·rw [xq0,xq0,xq0] at hs;exact j8 c4 (ze9 c5) (ops.length - n) n fuel listed a w (zbm _) (by omega) hsz hcl hli hfu (h4 a w (by simpa using hs))
 ·rw [hfalse];intro i o _ hD;cases hD
 ·rw [hfalse];have: ∀n,left (fun _=>false) n=n:=by
   intro n
   induction n with
   | zero=>rfl
   | succ n ih=>simp only [left,ih];rfl
  rw [this];simp
 ·rw [hfalse,h0,h0,h0];obtain ⟨η,s⟩:=hs;exact ⟨η,s.ext (Ext.drew w)⟩
end
theorem qo7 {P:Program} {c:Base} {Q:Exit->Act->World->Prop} {g:Slots} {h:Keys} {al:Names} {A:Array Oper} {sms:List Sm} {n N:Nat} {ops rest:List Oper} (h1:chkY ops sms n N=true) (h2:wl P c A Q rest g h al):RSeq P c A (fun sms g h al=>chkY ops sms n N=true/\wl P c A Q rest g h al) [] sms g h al:=⟨h1,h2⟩
end An
namespace An.S
open Go Go.Proofs An Tryz
theorem el51:ElI Tryz.prog 51 1 24 false (.slice none 0 0):=⟨ti51,by kernel_rfl,by kernel_rfl⟩
instance un133:UnI Tryz.prog 133 (.slice 51):=⟨underlying133⟩
end An.S
namespace An.S
open Go
section
variable {K:Nat} {D B:Int} {l a b:List Tst}
end
def bd (l:List Sn) (i:Nat):Int:=if i%2=0 then (l.getD (i / 2) sn0).lo else (l.getD (i / 2) sn0).hi
def jnC (a b:List Tst):Prop:=(tRight a=true/\tRight b=true)/\ ¬(0 < a.length/\0 < b.length/\(a.getD 0 tst0).v.kind≠(b.getD 0 tst0).v.kind)
instance (a b:List Tst):Decidable (jnC a b):=inferInstanceAs (Decidable (_/\_))
end An.S
namespace An
open Go
section
variable {P:Program} {c:Base} {d ty:Nat} {pos:String} {af:Array Edge} {gd:Option (Nat×Bool)}
theorem qe1 {k:Nat} {T E es by_:Nat} {agg:Bool} {z:Value} (sl:P.underlying T=some (.slice E)) (el:ElI P E es by_ agg z) (hes:Nat.blt 0 es=true) (hagg:agg=false->es=1):
  Does P c ⟨some d,.buildSlice T 0 #[],ty,pos,af,gd⟩ ⟨[],[],some (d,some (.own (.sl k es 0 0))),[(k,some ⟨E,es,agg,[]⟩)],[k]⟩:=by
 intro g h al a w hp ⟨η,s⟩;have hrun:(execOp a.eval ⟨some d,.buildSlice T 0 #[],ty,pos,af,gd⟩).run P w= .ok (.value (.slice (some ⟨w.heap.size,0,none⟩) 0 0)) {w with heap:=w.heap.push (.cells #[] E)}:=by
  simp [execOp,Instr.buildSlice,Sem.run_bind,run_underlying sl,Result.andThen_ok,el.el.size_run w,Instr.fill,go_sem]
 have hext:Ext w {w with heap:=w.heap.push (.cells #[] E)}:=⟨rfl,rfl,rfl,by simp,fun b hb=>by
  show (w.heap.push _)[b]? =_;rw [zgc,if_neg (by omega)]⟩
 have s':=s.new' k hp.nk.1 ⟨E,es,agg,[]⟩ 0 0 (zbm _) (by simpa using hes) hagg (by decide) (fun j hj=>by cases hj) hext fun h=>absurd h (Nat.lt_irrefl _);refine xe1 hrun ?_;refine ⟨_,s'.put (hp.d _ rfl) (e:= .own (.sl k es 0 0)) ⟨_,by rw [Env.set_c],by omega,fun h=>by rw [Env.set_c] at h;omega⟩ fun j hj=> ?_⟩;simp only [Ent.supp,VP.supp,zbq] at hj;subst hj;simp
end
end An
namespace An.S
open Go Go.Proofs An Tryz
instance ti113:TyI Tryz.prog 113 1 false:=⟨by kernel_rfl,by kernel_rfl⟩
end An.S
namespace An
open Go
section
variable {P:Program} {c:Base} {d ty:Nat} {pos:String} {af:Array Edge} {gd:Option (Nat×Bool)}
end
end An
namespace An.S
open Go Go.Proofs An Tryz
theorem yk0 (l:List Int) (k:Nat) (hk:k < l.length):l.take (k+1)=l.take k++[l.getD k 0]:=by
 rw [zcn hk,zbh,zbk hk];rfl
theorem zf4 (xs ys:List Int):
  Ct Tryz.prog 64 [tL 1 false tI xs,tL 1 false tI ys] (tB (decide (xs=ys))):=by
 refine Ct.intro func64 rfl ntmps64 rfl ?_;intro w F;refine xj5 (s:=0) rfl (fun hl0=> ?_);refine A15 ?_;refine xa6 rfl (fun h27=> ?_) (fun h27=> ?_)
 ·
  refine A7 ?_;exact E1 rfl rfl (zau (zbf (fun h=>by rw [h] at h27;omega)).symm)
 ·
  have hll:xs.length=ys.length:=by omega
  refine A9 ?_;refine cL (fun (i:Nat)=>i<=xs.length/\xs.take i=ys.take i) (fun (i:Nat)=>uV (uV (uV uN 0 (tL 1 false tI xs)) 1 (tL 1 false tI ys)) 5 (tI i)) (fun (i:Nat)=>fun _=>none) [] (fun (i:Nat)=>xs.length - i) (0) ⟨zbs _,rfl⟩ ?_;intro i hI;obtain ⟨hi,ht⟩:=hI;refine A9 ?_;refine xa6 rfl (fun h30=> ?_) (fun h30=> ?_)
  ·
   refine A8 ?_;refine R2 (x8 sl23 i (by omega) (gD (d:=0) (by omega))) rfl rfl ?_;refine A3 ?_;refine R2 (x8 sl23 i (by omega) (gD (d:=0) (by omega))) rfl rfl ?_;refine A4 ?_;refine xa6 rfl (fun h31=> ?_) (fun h31=> ?_)
   ·
    refine A11 ?_;exact E1 rfl rfl (zau (zbf (fun h=>by rw [h] at h31;exact (h31 rfl))).symm)
   ·
    refine A8 ?_;exact kF (i+1) ⟨⟨by omega,by rw [yk0 xs i (by omega),yk0 ys i (by omega),ht,show xs.getD i 0=ys.getD i 0 from (Decidable.of_not_not h31)]⟩,(by omega)⟩
  ·
   refine A11 ?_;exact E1 rfl rfl (zau (zbg (by rw [show i=xs.length by omega,zci,hll,zci] at ht;exact ht)).symm)
instance sl77:SlI Tryz.prog 77 23 1 false:=⟨zhe,ti23⟩
instance fi21:FnI Tryz.prog 21:=⟨_,func21,by kernel_rfl,rfl⟩
instance fi22:FnI Tryz.prog 22:=⟨_,func22,by kernel_rfl,rfl⟩
instance fi64:FnI Tryz.prog 64:=⟨_,func64,by kernel_rfl,rfl⟩
def stepsL (l:List Deal) (m:Int):Int->List Int->List Int->List Int->List (List Int)->Bool
 | _,_,_,[],_=>true
 | o,b,p,a::us,w=>decide (stepE l o b p m a=0) && decide (stepQ l o b p m a=w.headD []) && stepsL l m (stepO l o b p m a) (stepB l o b p m a) (stepP l o b p m a) us w.tail
theorem qt8 {l:List Deal} {m o:Int} {b p us:List Int} {w:List (List Int)} {i:Nat} (h:us.length<=i):stepsL l m o b p (us.drop i) (w.drop i)=true:=by
 rw [List.drop_eq_nil_of_le h,stepsL]
theorem yz2 {l:List Deal} {m o:Int} {b p us:List Int} {w:List (List Int)} {i:Nat} (h:i < us.length) (hw:i < w.length):stepsL l m o b p (us.drop i) (w.drop i)=
  (decide (stepE l o b p m (us.getD i 0)=0) && decide (stepQ l o b p m (us.getD i 0)=w.getD i []) && stepsL l m (stepO l o b p m (us.getD i 0)) (stepB l o b p m (us.getD i 0)) (stepP l o b p m (us.getD i 0)) (us.drop (i+1)) (w.drop (i+1))):=by
 rw [List.drop_eq_getElem_cons h,List.drop_eq_getElem_cons hw,stepsL];simp [h,hw]
theorem qn9 (l:List Deal) (m:Int) (us:List Int) (ws:List (List Int)) (hv:validL l=true) (hd: ∀d∈l,d.share.dig) (hw:us.length<=ws.length):
  Ct Tryz.prog 47 [tL 7 true tDeal l,tI m,tIs us,tL 1 false (fun x:List Int=>tIs x) ws] (tB (stepsL l m 0 (List.replicate l.length (0:Int)) (List.replicate l.length (0:Int)) us ws)):=by
 refine Ct.intro func47 rfl ntmps47 rfl ?_;intro w F;refine xj5 (s:=2) rfl (fun hl0=> ?_);refine A8 ?_;refine R1 (x3 (qr4 l hd) fi21 rfl) rfl ?_;refine A3 ?_;refine RE (xa3 (k:=9) (n:=3) (agg:=true) zr25.1 zr25.2 rfl) trivial trivial qA ?_;refine A11 ?_;refine cL (fun (fm:(Nat)×(Int)×(List Int)×(List Int))=>(fun (i:Nat) (o:Int) (b:List Int) (p:List Int)=>i<=us.length/\stepsL l m o b p (us.drop i) (ws.drop i)=stepsL l m 0 (List.replicate l.length (0:Int)) (List.replicate l.length (0:Int)) us ws) fm.1 fm.2.1 fm.2.2.1 fm.2.2.2) (wD fun (i:Nat) (o:Int) (b:List Int) (p:List Int)=>uV (uV (uO (uV (uV (uV (uV uN 0 (tL 7 true tDeal l)) 1 (tI m)) 2 (tIs us)) 3 (tL 1 false (fun x:List Int=>tIs x) ws)) 9 (.ptr 9 0)) 10 (tI 0)) 11 (tI i)) (wD fun (i:Nat) (o:Int) (b:List Int) (p:List Int)=>uK uN 9 25 3 true [.val (tState o b p)]) [9] (fun (fm:(Nat)×(Int)×(List Int)×(List Int))=>(fun (i:Nat) (o:Int) (b:List Int) (p:List Int)=>us.length - i) fm.1 fm.2.1 fm.2.2.1 fm.2.2.2) ((0,0,(List.replicate l.length (0:Int)),(List.replicate l.length (0:Int)))) (by dsimp only;exact ⟨zbs _,rfl⟩) (hg:=(sI (Sub.int rfl (by rw [hv];rfl) (sC (sC (sC (sI (sC zay)))))))) (hh:=(SubK.cons (by rw [hv];rfl) zax)) ?_;intro fm hI;obtain ⟨i,o,b,p⟩:=fm;replace hI:i<=us.length/\stepsL l m o b p (us.drop i) (ws.drop i)=stepsL l m 0 (List.replicate l.length (0:Int)) (List.replicate l.length (0:Int)) us ws:=hI;show wc _ _ _ _ (uV (uV (uO (uV (uV (uV (uV uN 0 (tL 7 true tDeal l)) 1 (tI m)) 2 (tIs us)) 3 (tL 1 false (fun x:List Int=>tIs x) ws)) 9 (.ptr 9 0)) 10 (tI 0)) 11 (tI i)) (uK uN 9 25 3 true [.val (tState o b p)]) _;obtain ⟨hi,hT⟩:=hI;refine A9 ?_;refine xa6 rfl (fun h24=> ?_) (fun h24=> ?_)
 ·
  refine A11 ?_;refine R2 (x8 sl23 (i) (by omega) (gZ (by omega))) rfl rfl ?_;refine A1 ?_;refine Rt (x3 (qp5 l o b p m _ hd) fi22 rfl) qD ?_;refine A4 ?_;refine RE (xa3 (k:=12) (n:=3) (agg:=true) zr25.1 zr25.2 rfl) trivial trivial qA ?_;refine A11 ?_;refine RGcaseD (t:=40) rfl (fun h26=> ?_) (fun h26=> ?_)
  ·
   exact absurd h26 (by omega)
  ·
   refine A4 ?_;refine RGcaseD (t:=44) rfl (fun h26_2=> ?_) (fun h26_2=> ?_)
   ·
    refine A18 ?_;refine A5 ?_;exact E1 rfl rfl (zau (by rw [<-hT,yz2 (by omega) (by omega),zbf h26_2];rfl))
   ·
    have hE:stepE l o b p m (us.getD i 0)=0:=by omega
    refine A3 ?_;refine Rg (zbf h26_2) rfl (x8 sl77 i (by omega) (gD (d:=[]) (by omega))) rfl qB ?_;refine A1 ?_;refine Rg (zbf h26_2) rfl (x3 (zf4 _ _) fi64 rfl) rfl qB ?_;refine A4 ?_;refine C_ifn rfl (fun h26_3=> ?_) (fun h26_3=> ?_)
    ·
     refine A12 ?_;exact E1 rfl rfl (zau (by rw [<-hT,yz2 (by omega) (by omega),zbf h26_3,Bool.and_false,zdz]))
    ·
     refine A13 ?_;have hT2:=yz2 (l:=l) (m:=m) (o:=o) (b:=b) (p:=p) (us:=us) (w:=ws) (i:=i) (by omega) (by omega);rw [hT,zbg hE,zbg h26_3,zec,zec] at hT2;exact kF ((i+1,stepO l o b p m (us.getD i 0),stepB l o b p m (us.getD i 0),stepP l o b p m (us.getD i 0))) ⟨(by dsimp only;exact ⟨by omega,hT2.symm⟩),(by dsimp only;omega)⟩
 ·
  refine A11 ?_;exact E1 rfl rfl (zau (by rw [<-hT,qt8 (by omega)]))
instance fi20:FnI Tryz.prog 20:=⟨_,func20,by kernel_rfl,rfl⟩
theorem el44:ElI Tryz.prog 44 7 88 true (.agg #[.int .i64 0,.int .i64 0,.bool false,.slice none 0 0,.bool false,.slice none 0 0,.int .i64 0]):=⟨ti44,by kernel_rfl,by kernel_rfl⟩
theorem bu44:BuI Tryz.prog 44 (fun i=>[(0,1),(1,1),(2,4),(6,1)][i]?) (.agg #[.int .i64 0,.int .i64 0,.bool false,.slice none 0 0,.bool false,.slice none 0 0,.int .i64 0]):=BuI.struct underlying44 (by kernel_rfl) (by kernel_rfl)
theorem zf44:Flat 7 true (.agg #[.int .i64 0,.int .i64 0,.bool false,.slice none 0 0,.bool false,.slice none 0 0,.int .i64 0]):=xn3 (by intro u hu;simp at hu;rcases hu with rfl | rfl | rfl | rfl | rfl | rfl | rfl <;> rfl)
def deal3:Deal:=⟨0,12,fr (Rat.divInt 1 3),7⟩
def dealA:Deal:=⟨0,9,fr (Rat.divInt 1 2),3⟩
def dealB:Deal:=⟨0,9,fr (Rat.divInt 1 2),1⟩
theorem qg4:
  Ct Tryz.prog 48 [] (tL 7 true tDeal [deal3]):=by
 refine Ct.intro func48 rfl ntmps48 rfl ?_;intro w F;refine A7 ?_;refine R2 (x3 (xq5 1 3 (by decide) (by decide) (by decide) (by decide) (by decide)) fi20 rfl) rfl rfl (Rt (xb7 (r:=tS [⟨1,false,tI 0⟩,⟨1,false,tI 12⟩,⟨4,true,tFr (fr (Rat.divInt 1 3))⟩,⟨1,false,tI 7⟩]) (ts:=[(0,tI 0),(1,tI 12),(2,tFr (fr (Rat.divInt 1 3))),(3,tI 7)]) bu44 zr44.2 (Bc 0 rfl rfl rfl (Bc 1 rfl rfl rfl (Bc 2 rfl rfl rfl (Bc 3 rfl rfl rfl zao))))) qD (R1 (xb6 (n:=1) (f:=tDeal) [deal3] zhd el44 zf44 rfl (fun _=>inferInstance) rfl rfl rfl) rfl ?_));refine A4 ?_;exact E1 rfl rfl zao
theorem yz8:
  Ct Tryz.prog 45 [] (tL 7 true tDeal [dealA,dealB]):=by
 refine Ct.intro func45 rfl ntmps45 rfl ?_;intro w F;refine A7 ?_;refine R2 (x3 (xq5 1 2 (by decide) (by decide) (by decide) (by decide) (by decide)) fi20 rfl) rfl rfl (R3 (xb7 (r:=tS [⟨1,false,(tE (.int .i64 0))⟩,⟨1,false,tI 9⟩,⟨4,true,tFr (fr (Rat.divInt 1 2))⟩,⟨1,false,tI 3⟩]) (ts:=[(1,tI 9),(2,tFr (fr (Rat.divInt 1 2))),(3,tI 3)]) bu44 zr44.2 (Bc 1 rfl rfl rfl (Bc 2 rfl rfl rfl (Bc 3 rfl rfl rfl zao)))) rfl rfl rfl (R2 (x3 (xq5 1 2 (by decide) (by decide) (by decide) (by decide) (by decide)) fi20 rfl) rfl rfl (R3 (xb7 (r:=tS [⟨1,false,(tE (.int .i64 0))⟩,⟨1,false,tI 9⟩,⟨4,true,tFr (fr (Rat.divInt 1 2))⟩,⟨1,false,tI 1⟩]) (ts:=[(1,tI 9),(2,tFr (fr (Rat.divInt 1 2))),(3,tI 1)]) bu44 zr44.2 (Bc 1 rfl rfl rfl (Bc 2 rfl rfl rfl (Bc 3 rfl rfl rfl zao)))) rfl rfl rfl (R2 (xb6 (n:=2) (f:=tDeal) [dealA,dealB] zhd el44 zf44 rfl (fun _=>inferInstance) rfl rfl rfl) rfl rfl ?_))));refine A4 ?_;exact E1 rfl rfl zao
end An.S
namespace An
open Go
theorem xt6 {l:List Int} {i j:Nat} {x:Int} (h:j≠i):(l.set i x).getD j 0=l.getD j 0:=by
 rw [zbh,zbh,List.getElem?_set_ne (fun e=>h e.symm)]
theorem zk4 {l:List Int} {i:Nat} {x:Int} (h:i < l.length):(l.set i x).getD i 0=x:=by
 rw [ye6 h,if_pos rfl]
theorem grep0 {n i:Nat}:(List.replicate n (0:Int)).getD i 0=0:=by
 rw [zbh,zfp];split <;> rfl
structure Dv.fit (s:Dv) (n:Nat):Prop where
  b:s.b.length=n
  p:s.p.length=n
  q:s.q.length=n+1
theorem Dv.fit.next {l:List Deal} {s:Dv} {n i:Nat} (h:s.fit n):(dv1 l s i).fit n:=⟨by simp [dv1,h.b],by simp [dv1,h.p],by simp [dv1,h.q]⟩
theorem qi9 {l:List Deal} {n:Nat}: ∀(is:List Nat) (s:Dv),s.fit n->(dvRun l s is).1.fit n
 | [],s,h=>h
 | i::r,s,h=>by
  rw [dvRun];split
  ·exact qi9 r _ h.next
  ·exact ⟨by simp [h.b],h.p,h.q⟩
theorem zr5 {l:List Deal}: ∀(is:List Nat) (s:Dv) (j:Nat),j∉is->(dvRun l s is).1.b.getD j 0=s.b.getD j 0/\(dvRun l s is).1.p.getD j 0=s.p.getD j 0/\(dvRun l s is).1.q.getD (j+1) 0=s.q.getD (j+1) 0
 | [],s,j,_=>⟨rfl,rfl,rfl⟩
 | i::r,s,j,h=>by
  simp only [zbt,not_or] at h;rw [dvRun];split
  ·obtain ⟨h1,h2,h3⟩:=zr5 r (dv1 l s i) j h.2;refine ⟨h1.trans ?_,h2.trans ?_,h3.trans ?_⟩
   ·exact xt6 h.1
   ·exact xt6 h.1
   ·exact xt6 (by omega)
  ·exact ⟨xt6 h.1,rfl,rfl⟩
theorem xm3 {l:List Deal} (s:Dv) (i:Nat) (r:List Nat):dvRun l s (i::r)=if wIn (s.n i) then dvRun l (dv1 l s i) r else (⟨s.b.set i (s.n i),s.p,s.q,s.r⟩,false):=by rw [dvRun]
theorem fit0 {l:List Deal} {b p:List Int} {a:Int} (hb:b.length=l.length) (hp:p.length=l.length):(Dv.mk b p (List.replicate (l.length+1) 0) a).fit l.length:=⟨hb,hp,by simp⟩
structure Sh where
  q:List Fr
  r:Rat
def sh1 (l:List Deal) (s:Sh) (i:Nat):Sh:=⟨s.q.set (i+1) (fr (s.r*shr l i)),s.r - s.r*shr l i⟩
def shRun (l:List Deal):Sh->List Nat->Sh
 | s,[]=>s
 | s,i::r=>shRun l (sh1 l s i) r
def sh0 (n i:Nat):List Fr:=List.replicate i (fr ((0:Int):Rat))++List.replicate (n - i) fr0
theorem sh0_zero {n:Nat}:sh0 n 0=List.replicate n fr0:=by simp [sh0]
theorem sh0_full {n:Nat}:sh0 n n=List.replicate n (fr ((0:Int):Rat)):=by simp [sh0]
theorem sh0_len {n i:Nat} (h:i<=n):(sh0 n i).length=n:=by simp [sh0];omega
theorem sh0_set {n i:Nat} (h:i < n):(sh0 n i).set i (fr ((0:Int):Rat))=sh0 n (i+1):=by
 apply zes;intro j;rw [zeo];simp only [sh0,List.getElem?_append,List.length_replicate,zck,zfp]
 repeat' split
 all_goals first | rfl | (exfalso;omega)
structure ShI (l:List Deal) (k:Nat) (s:Sh):Prop where
  q:s.q.length=l.length+1
  lo:0<=s.r
  hi:s.r<=1
  den:len16 (s.r.den:Int)<=4*k+1
theorem yb5 {q:Rat} (h0:0<=q) (h1:q<=1):len16 q.num<=len16 (q.den:Int):=by
 have h2:0<=q.num:=Rat.num_nonneg.2 h0;have h3:q.num<=(q.den:Int):=by
  have:=(Rat.le_iff q 1).1 h1;simpa using this
 exact len16_le (by omega)
theorem qc6 (q:Rat):len16 ((1 - q).den:Int)<=len16 (q.den:Int):=by
 have hd:=q.den_nz;have h:=xt1 (n:=(q.den:Int) - q.num) (d:=(q.den:Int)) (by omega);have e:Rat.divInt ((q.den:Int) - q.num) (q.den:Int)=1 - q:=by
  rw [Rat.divInt_eq_div];have h2:((q.den:Int):Rat)≠0:=by
   intro h';have:=Rat.intCast_eq_zero_iff.1 h';omega
  rw [Rat.intCast_sub];have h3:(q.num:Rat) / ((q.den:Int):Rat)=q:=by
   rw [<-Rat.divInt_eq_div,Rat.num_divInt_den]
  grind
 rw [e,fr] at h;injection h with _ h2;rw [yj2 h2];exact len16_div (zbm _)
theorem yi5 {l:List Deal} {i:Nat} (hv:validL l=true) (hD: ∀d∈l,d.share.dig) (hi:i < l.length):len16 (shr l i).num<=4/\len16 ((shr l i).den:Int)<=4/\(l.getD i deal0).share=fr (shr l i):=by
 obtain ⟨_,_,_,v1,v2,v3,v4,v5,_⟩:=Deal.valid_iff.1 (xq6 hv hi);have e':l.getD i deal0=l[i]:=by simp [hi]
 obtain ⟨e,_⟩:=Fr.of_valid' (by rw [e'];exact hD _ (zdw hi)) v1;rw [e] at v4 v5;exact ⟨v4,v5,e⟩
theorem yf7 {q:Rat} (h1:len16 q.num<=256) (h2:len16 (q.den:Int)<=256):short q:=⟨h1,h2⟩
section
variable {l:List Deal} {k:Nat} {s:Sh} {i:Nat}
theorem ShI.short (h:ShI l k s) (hk:k<=16):short s.r:=by
 have:=yb5 h.lo h.hi;have:=h.den;exact yf7 (by omega) (by omega)
theorem ShI.shortM (h:ShI l k s) (hk:k<=16) (hv:validL l=true) (hD: ∀d∈l,d.share.dig) (hi:i < l.length):An.short (s.r*shr l i):=by
 have h1:=yb5 h.lo h.hi;have h2:=h.den;obtain ⟨s1,s2,_⟩:=yi5 hv hD hi;obtain ⟨m1,m2⟩:=ya6 (zce h1 h2) s1 h2 s2;exact yf7 (by omega) (by omega)
theorem ShI.next (h:ShI l k s) (hv:validL l=true) (hD: ∀d∈l,d.share.dig) (hi:i < l.length):ShI l (k+1) (sh1 l s i):=by
 obtain ⟨s1,s2,_⟩:=yi5 hv hD hi;obtain ⟨q0,q1⟩:=ye3 hv hD hi;have e:s.r - s.r*shr l i=s.r*(1 - shr l i):=by grind
 have h0:0<=1 - shr l i:=by grind
 have h1:1 - shr l i<=1:=by grind
 have lo:=Rat.mul_nonneg h.lo h0;have hi':s.r*(1 - shr l i)<=1:=by
  have:=Rat.mul_le_mul_of_nonneg_right h.hi h0
  grind
 refine ⟨by simp [sh1,h.q],by simp only [sh1];rw [e];exact lo,by simp only [sh1];rw [e];exact hi',?_⟩;simp only [sh1];rw [e];have hn:=yb5 h.lo h.hi;have hn2:=yb5 h0 h1;have hd:=qc6 (shr l i);have:=(ya6 (zce hn h.den) (zce hn2 (zce hd s2)) h.den (zce hd s2)).2;omega
theorem shI0 {l:List Deal}:ShI l 0 ⟨List.replicate (l.length+1) (fr ((0:Int):Rat)),((1:Int):Rat)⟩:=by
 refine ⟨by simp,(by decide+kernel:(0:Rat)<=((1:Int):Rat)),(by decide+kernel:((1:Int):Rat)<=1),?_⟩;show len16 ((((1:Int):Rat).den:Nat):Int)<=1;rw [Rat.den_intCast];show (wh 1).l.length<=1;rw [xv0];decide
end
theorem qd6 {l:List Deal} {s:Sh} {is:List Nat} {k:Nat} {X:Sh} (hk:k < is.length) (h:shRun l s (is.drop k)=X):shRun l (sh1 l s (is.getD k 0)) (is.drop (k+1))=X:=by
 rw [zh8 hk,shRun] at h;exact h
theorem qu2 {l:List Deal} {s:Sh} {is:List Nat} {X:Sh} (h:shRun l s (is.drop is.length)=X):X=s:=by
 rw [List.drop_length,shRun] at h;exact h.symm
def shAll (l:List Deal) (m:Int):Sh:=shRun l ⟨List.replicate (l.length+1) (fr ((0:Int):Rat)),((1:Int):Rat)⟩ (apl l m)
def shBad (l:List Deal) (m:Int):Bool:= !validL l || decide (m < 0) || decide (1048576 < m)
end An
namespace An.S
open Go Go.Proofs An Tryz
instance ti71:TyI Tryz.prog 71 1 false:=⟨by kernel_rfl,by kernel_rfl⟩
instance fi128:FnI Tryz.prog 128:=⟨_,func128,by kernel_rfl,rfl⟩
theorem zr71:(Tryz.prog.info? 71).bind (·.zero)=some (.slice none 0 0)/\ ∀F w,(tE (.slice none 0 0)).p F w (.slice none 0 0):=⟨by kernel_rfl,fun _ _=>rfl⟩
theorem jp1 (r:Rat) (l:List Deal) (i:Nat) (hv:validL l=true) (hD: ∀d∈l,d.share.dig) (hi:i < l.length) (h1:short r) (h2:short (r*shr l i)):Ct Tryz.prog 127 [tFr (fr r),tFr (l.getD i deal0).share] (tT [tFr (fr (r*shr l i)),tI 0]):=by
 obtain ⟨s1,s2,e⟩:=yi5 hv hD hi;have h:=qu3 r (shr l i) h1 (yf7 (by omega) (by omega));rw [resF,resFE,if_pos h2,if_pos h2] at h;rw [e];exact h
theorem jm0 (a b:Rat) (h1:short a) (h2:short b) (h3:short (a - b)):Ct Tryz.prog 128 [tFr (fr a),tFr (fr b)] (tT [tFr (fr (a - b)),tI 0]):=by
 have h:=c_FSub a b h1 h2;rw [resF,resFE,if_pos h3,if_pos h3] at h;exact h
theorem jn2 (n:Nat):List.replicate n (Ent.val (tFr fr0))=rV tFr (sh0 n 0):=by rw [sh0_zero];exact yd8 n fr0 rfl
theorem ja5 (l:List Deal) (m:Int) (hd: ∀d∈l,d.share.dig):
  Ct Tryz.prog 44 [tL 7 true tDeal l,tI m] (tT [tL 4 true tFr (bif shBad l m then [] else ((shAll l m)).q.set 0 (fr ((shAll l m)).r)),tI (bif shBad l m then 2 else 0)]):=by
 refine Ct.intro func44 rfl ntmps44 rfl ?_;intro w F;refine A10 ?_;refine R1 (x3 (xw1 l hd) fi13 rfl) rfl ?_;refine A2 ?_;refine RGcase (t:=14) rfl (fun h164=> ?_) (fun h164=> ?_)
 ·
  have hB:shBad l m=true:=by rw [shBad,h164];rfl
  refine A18 ?_;exact E2 rfl rfl rfl (leNil (by rw [hB];rfl)) (zba (by rw [hB];rfl))
 ·
  have hv:validL l=true:=by rw [Bool.not_eq_false'] at h164;exact h164
  have hl16:=xf8 hv;refine A4 ?_;refine RGcaseD (t:=18) rfl (fun h164_2=> ?_) (fun h164_2=> ?_)
  ·
   have hB:shBad l m=true:=by rw [shBad,zbg h164_2];simp
   refine A14 ?_;exact E2 rfl rfl rfl (leNil (by rw [hB];rfl)) (zba (by rw [hB];rfl))
  ·
   refine A5 ?_;refine xa6 rfl (fun h164_3=> ?_) (fun h164_3=> ?_)
   ·
    have hB:shBad l m=true:=by rw [shBad,zbg h164_3];simp
    refine A8 ?_;exact E2 rfl rfl rfl (leNil (by rw [hB];rfl)) (zba (by rw [hB];rfl))
   ·
    have hB:shBad l m=false:=by rw [shBad,hv,zbf h164_2,zbf h164_3];rfl
    refine A7 ?_;refine RE (xe5 (k:=25) (t:=tFr fr0) (ts:=rV tFr (sh0 (l.length+1) 0)) (l.length+1) (l.length+1) zhc el41 zr41.2 rfl (by omega) (by omega) (zbm _) (by omega) (by omega) (jn2 _)) qB trivial qA (RE (xa3 (k:=6) (n:=1) (agg:=false) zr71.1 zr71.2 rfl) trivial trivial qA ?_);refine A12 ?_;refine cL (fun (i:Nat)=>i<=l.length+1) (fun (i:Nat)=>uV (uV (uO (uV (uV uN 0 (tL 7 true tDeal l)) 1 (tI m)) 6 (.ptr 6 0)) 27 (tI ((l.length+1:Nat):Int))) 28 (tI i)) (fun (i:Nat)=>uK (uK uN 6 71 1 false [.own (.sl 25 4 0 (l.length+1))]) 25 41 4 true (rV tFr (sh0 (l.length+1) i))) [6,25] (fun (i:Nat)=>l.length+1 - i) (0) (zbs _) ?_;intro i hI;refine A6 ?_;refine xa6 rfl (fun h168=> ?_) (fun h168=> ?_)
    ·
     refine A13 ?_;refine R1 (x3 (xv5 0 (by decide) (by decide)) fi51 rfl) rfl (R2 (zag sl71 rfl) rfl rfl (RE (xa8 (i) ti41 (xn4 (by rw [sh0_len (by omega)];omega)) (by omega) (xm8 (m:=fr ((0:Int):Rat)) rfl)) qB qA trivial ?_));refine A7 ?_;exact kF (i+1) ⟨(by omega),(by omega)⟩ (hh:=(SubK.cons (by rw [sh0_set (by omega)];rfl) (SubK.cons rfl zax)))
    ·
     refine A7 ?_;refine R1 (x3 (xv5 1 (by decide) (by decide)) fi51 rfl) rfl (RE (xa3 (k:=8) (n:=4) (agg:=true) zr41.1 zr41.2 rfl) trivial trivial qA ?_);refine A8 ?_;refine RE (xe9 (fun j=>cond (Nat.beq j 2) 39 (1039)) (yb7 l m) fi126 rfl (krN (ρ:=fun j=>cond (Nat.beq j 2) 39 (1039))) (krC (ρ:=fun j=>cond (Nat.beq j 2) 39 (1039)) (k:=2) rfl (krC (ρ:=fun j=>cond (Nat.beq j 2) 39 (1039)) (k:=3) rfl (krN (ρ:=fun j=>cond (Nat.beq j 2) 39 (1039))))) ⟨⟨rfl,(SupX.lit rfl)⟩,⟨rfl,(SupX.lit rfl)⟩,trivial⟩ rfl) qB trivial qB ?_;refine A3 ?_;refine yi1 (caps:=[.ptr 1 0,.ptr 2 0]) (κ:=Empty) (zaa 2 1039 (zab 1 39)) rfl (fun _ h=>h) trivial (yb6 l m hl16) fi200 rfl qB rfl rfl (fun _ _=>rfl) (uO (uO uN 6 (.ptr 6 0)) 8 (.ptr 8 0)) [6,8,25] [6,8] (zan rfl (zan rfl zay)) (zak rfl (zak rfl zar)) rfl (lkOk rfl) (fun (k:Nat) (s:Sh)=>ShI l k s/\shRun l s ((apl l m).drop k)=(shAll l m)) (fun (k:Nat) (s:Sh)=>uK (uK (uK uN 6 71 1 false [.own (.sl 25 4 0 (l.length+1))]) 8 41 4 true [.val (tFr (fr s.r))]) 25 41 4 true (rV tFr s.q)) (fun k x=>(zam rfl (supJ xb2) (zam rfl (supJL rfl) (zam rfl (supJL rfl) zaz)))) (fun k x y hy=>by simp only [zbt,zed,or_false] at hy;rcases hy with rfl | rfl <;> rfl) (fun _ _=>False) (fun i=>i.elim) (fun _ _ h=>h.elim) (⟨List.replicate (l.length+1) (fr ((0:Int):Rat)),((1:Int):Rat)⟩) ⟨shI0,rfl⟩ (SubK.cons (by rw [show i=l.length+1 by omega,sh0_full];rfl) (SubK.cons rfl (SubK.cons rfl zax))) ?_ ?_ ?_
     ·
      intro D lp o1 o2 O W lη lb V0 k s hk hI;obtain ⟨hv1,hrun⟩:=hI;have hql:=hv1.q;have hN:=yd1 (l:=l) (m:=m);obtain ⟨hi,hon⟩:=zg3 hk;have hs1:=hv1.short (by omega);have hs2:=hv1.shortM (by omega) hv hd hi;have hnx:=hv1.next hv hd hi;have hs3:=hnx.short (by omega);apply yi3
      ·
       refine A6 ?_;refine RE (xa3 (k:=10) (n:=7) (agg:=true) zr44.1 zr44.2 rfl) trivial trivial qA ?_;refine A2 ?_;exact yc6 fun _ _ h=>h
      ·
       refine A9 ?_;refine R2 (x3 (jp1 s.r l ((apl l m).getD k 0) hv hd hi hs1 hs2) fi127 rfl) rfl rfl ?_;refine A3 ?_;refine R2 (zag sl71 rfl) rfl rfl (RE (xa8 (((apl l m).getD k 0)+1) ti41 (xn4 (by omega)) (by omega) (xm8 (m:=fr (s.r*shr l ((apl l m).getD k 0))) rfl)) qB qA trivial ?_);refine A7 ?_;refine R2 (zag sl71 rfl) rfl rfl (RE (x7 (((apl l m).getD k 0)+1) ti41 (xv3 (by omega)) (by omega)) qA qA trivial (R2 (x3 (jm0 s.r (s.r*shr l ((apl l m).getD k 0)) hs1 hs2 hs3) fi128 rfl) rfl rfl ?_));refine A6 ?_;exact yu4 (sh1 l s ((apl l m).getD k 0)) ⟨hnx,qd6 hk hrun⟩ (SubK.cons rfl (SubK.cons rfl (SubK.cons rfl zax))) (zam rfl (supJ xb2) (zam rfl (supJL rfl) (zam rfl (supJL rfl) zaz))) (lkOk rfl)
     ·
      intro D hD s hI;obtain ⟨hv1,hrun⟩:=hI;have hql:=hv1.q;have hR:=qu2 hrun;refine A6 ?_;refine R2 (zag sl71 rfl) rfl rfl (RE (xa8 (0) ti41 (xn4 (by omega)) (by omega) (xm8 (m:=fr s.r) rfl)) qB qA trivial ?_);refine A5 ?_;refine RE (xo2 (f:=tFr) (xs:=s.q.set 0 (fr s.r)) (fun _ h=>h) (xn8 (by rw [zdx];exact hql)) (by rw [zdx];exact hql)) qA qA trivial ?_;refine A4 ?_;exact ya3 (Plain.loop Plain.mk' hD) rfl rfl rfl (Le.of (by rw [hB,hR];rfl)) (zba (by rw [hB];rfl))
     ·
      intro D hD e i;exact i.elim
def capC (l:List Tst) (a b:Int) (f:Fr):Prop:=(f.valid=true/\f.n.neg=false)/\askB l a b=true
instance (l:List Tst) (a b:Int) (f:Fr):Decidable (capC l a b f):=inferInstanceAs (Decidable (_/\_))
def m12 (f:Fr):Rat:=f.rat*((12:Int):Rat)
def moB (f:Fr):Prop:=f.valid=true/\f.n.neg=false
def moC (f:Fr):Prop:=moB f/\short (m12 f)/\(m12 f).floor<=1048576
instance (f:Fr):Decidable (moB f):=inferInstanceAs (Decidable (_/\_))
instance (f:Fr):Decidable (moC f):=inferInstanceAs (Decidable (_/\_))
end An.S
namespace An.S
open Go
end An.S
namespace An.S
open Go Go.Proofs An Tryz
theorem yd7 (q:Rat):(fr q).dig:=⟨xc3 xa0 _,xc3 xa0 _⟩
instance fi44:FnI Tryz.prog 44:=⟨_,func44,by kernel_rfl,rfl⟩
instance fi45:FnI Tryz.prog 45:=⟨_,func45,by kernel_rfl,rfl⟩
instance fi46:FnI Tryz.prog 46:=⟨_,func46,by kernel_rfl,rfl⟩
instance fi47:FnI Tryz.prog 47:=⟨_,func47,by kernel_rfl,rfl⟩
instance fi48:FnI Tryz.prog 48:=⟨_,func48,by kernel_rfl,rfl⟩
theorem el23:ElI Tryz.prog 23 1 24 false (.slice none 0 0):=⟨ti23,by kernel_rfl,by kernel_rfl⟩
theorem zf23:Flat 1 false (.slice none 0 0):=xd6 rfl
instance un77:UnI Tryz.prog 77 (.slice 23):=⟨zhe⟩
theorem digH: ∀d∈[dealA,dealB],d.share.dig:=fun d hd=>by
 simp only [zbt,zed,or_false] at hd;rcases hd with rfl | rfl <;> exact yd7 _
theorem digA: ∀d∈[dealA],d.share.dig:=fun d hd=>by
 simp only [zbt,zed,or_false] at hd;subst hd;exact yd7 _
theorem dig3: ∀d∈[deal3],d.share.dig:=fun d hd=>by
 simp only [zbt,zed,or_false] at hd;subst hd;exact yd7 _
theorem qw2:Ct Tryz.prog 44 [tL 7 true tDeal [dealA,dealB],tI 4] (tT [tL 4 true tFr [fr (Rat.divInt 1 4),fr (Rat.divInt 1 2),fr (Rat.divInt 1 4)],tI 0]):=by
 have h:=ja5 [dealA,dealB] 4 digH;have e1:(bif shBad [dealA,dealB] 4 then [] else (shAll [dealA,dealB] 4).q.set 0 (fr (shAll [dealA,dealB] 4).r))=[fr (Rat.divInt 1 4),fr (Rat.divInt 1 2),fr (Rat.divInt 1 4)]:=by decide+kernel
 have e2:(bif shBad [dealA,dealB] 4 then 2 else 0:Int)=0:=by decide+kernel
 rw [e1,e2] at h;exact h
theorem zi3 (f:Fr):Ct Tryz.prog 46 [tFr f,tFr f] (tB true):=by
 have h:=jc9 f f;rw [zbg rfl] at h;exact h
theorem yo1 (l:List Deal) (m:Int) (us:List Int) (ws:List (List Int)) (hv:validL l=true) (hd: ∀d∈l,d.share.dig) (hw:us.length<=ws.length) (hT:stepsL l m 0 (List.replicate l.length 0) (List.replicate l.length 0) us ws=true):
  Ct Tryz.prog 47 [tL 7 true tDeal l,tI m,tIs us,tL 1 false (fun x:List Int=>tIs x) ws] (tB true):=by
 have h:=qn9 l m us ws hv hd hw;rw [hT] at h;exact h
theorem qu8:
  Ct Tryz.prog 12 [] (tB true):=by
 refine Ct.intro func12 rfl ntmps12 rfl ?_;intro w F;refine A7 ?_;refine R0 (x3 yz8 fi45 rfl) (R2 (x3 qw2 fi44 rfl) rfl rfl ?_);refine A13 ?_;refine Rg (zbf (by omega)) rfl xa4 rfl qA (Rg (zbf (by omega)) rfl (yh7 zhc) rfl qA (Rg (zbf (by omega)) rfl yb3 rfl qB (R2 (xc8 (zbf (by omega))) rfl rfl ?_)));refine A1 ?_;refine Rg (zbf (by simp)) rfl xa4 rfl qA (Rg (zbf (by simp)) rfl (x8 sl71 0 rfl rfl) rfl qB (Rg (zbf (by simp)) rfl (xi6 ti41) rfl qA (Rg (zbf (by simp)) rfl (x3 (xq5 1 4 (by decide) (by decide) (by decide) (by decide) (by decide)) fi20 rfl) rfl qB (Rg (zbf (by simp)) rfl (x3 (zi3 _) fi46 rfl) rfl qB (Rg (zbf (by simp)) rfl xm4 rfl qA (R2 (xc8 (zbf (by simp))) rfl rfl ?_))))));refine A2 ?_;refine Rg rfl rfl (x8 sl71 1 rfl rfl) rfl qB ?_;refine A1 ?_;refine Rg rfl rfl (x3 (xq5 1 2 (by decide) (by decide) (by decide) (by decide) (by decide)) fi20 rfl) rfl qB (Rg rfl rfl (x3 (zi3 _) fi46 rfl) rfl qB ?_);refine A9 ?_;refine R0 (x3 qg4 fi48 rfl) (Rt (xb6 (n:=4) (f:=fun n:Int=>tI n) [100,100,100, -100] zgt el3 zf3 rfl (fun _=>inferInstance) rfl rfl rfl) qD (R2 (xb6 (n:=2) (f:=fun n:Int=>tI n) [67,33] zgt el3 zf3 rfl (fun _=>inferInstance) rfl rfl rfl) rfl rfl (R2 (xb6 (n:=2) (f:=fun n:Int=>tI n) [67,33] zgt el3 zf3 rfl (fun _=>inferInstance) rfl rfl rfl) rfl rfl (R2 (xb6 (n:=2) (f:=fun n:Int=>tI n) [66,34] zgt el3 zf3 rfl (fun _=>inferInstance) rfl rfl rfl) rfl rfl (R2 (xb6 (n:=2) (f:=fun n:Int=>tI n) [-66, -34] zgt el3 zf3 rfl (fun _=>inferInstance) rfl rfl rfl) rfl rfl (Rt (xb6 (n:=4) (f:=fun x:List Int=>tIs x) [[67,33],[67,33],[66,34],[-66, -34]] zhe el23 zf23 rfl (fun _=>inferInstance) rfl rfl rfl) qD (Rt (x3 (yo1 [deal3] 5 [100,100,100, -100] [[67,33],[67,33],[66,34],[-66, -34]] (by decide+kernel) dig3 (by decide) (by decide+kernel)) fi47 rfl) qD ?_)))))));refine A1 ?_;refine Rg rfl rfl (x3 qg4 fi48 rfl) rfl trivial (Rg rfl rfl (xb6 (n:=1) (f:=fun n:Int=>tI n) [100] zgt el3 zf3 rfl (fun _=>inferInstance) rfl rfl rfl) rfl qA (Rg rfl rfl (xb6 (n:=2) (f:=fun n:Int=>tI n) [100,0] zgt el3 zf3 rfl (fun _=>inferInstance) rfl rfl rfl) rfl qB (Rg rfl rfl (xb6 (n:=1) (f:=fun x:List Int=>tIs x) [[100,0]] zhe el23 zf23 rfl (fun _=>inferInstance) rfl rfl rfl) rfl qA (Rg rfl rfl (x3 (yo1 [deal3] 12 [100] [[100,0]] (by decide+kernel) dig3 (by decide) (by decide+kernel)) fi47 rfl) rfl qD ?_))));refine A2 ?_;refine Rg rfl rfl (x3 yz8 fi45 rfl) rfl trivial (Rg rfl rfl (xb6 (n:=1) (f:=fun n:Int=>tI n) [5] zgt el3 zf3 rfl (fun _=>inferInstance) rfl rfl rfl) rfl qA (Rg rfl rfl (xb6 (n:=3) (f:=fun n:Int=>tI n) [2,2,1] zgt el3 zf3 rfl (fun _=>inferInstance) rfl rfl rfl) rfl qC (Rg rfl rfl (xb6 (n:=1) (f:=fun x:List Int=>tIs x) [[2,2,1]] zhe el23 zf23 rfl (fun _=>inferInstance) rfl rfl rfl) rfl qA (Rg rfl rfl (x3 (yo1 [dealA,dealB] 4 [5] [[2,2,1]] (by decide+kernel) digH (by decide) (by decide+kernel)) fi47 rfl) rfl qD ?_))));refine A2 ?_;refine Rg rfl rfl (x3 yz8 fi45 rfl) rfl trivial (Rg rfl rfl (zz3 (xs:=[dealA,dealB]) (ys:=[dealA]) (l:=0) (u:=1) sl22 (fun _=>rfl) (fun h=>by cases h) (by decide) (by decide) rfl) rfl qB (Rg rfl rfl (xb6 (n:=1) (f:=fun n:Int=>tI n) [-1] zgt el3 zf3 rfl (fun _=>inferInstance) rfl rfl rfl) rfl qA (Rg rfl rfl (xb6 (n:=2) (f:=fun n:Int=>tI n) [0, -1] zgt el3 zf3 rfl (fun _=>inferInstance) rfl rfl rfl) rfl qB (Rg rfl rfl (xb6 (n:=1) (f:=fun x:List Int=>tIs x) [[0, -1]] zhe el23 zf23 rfl (fun _=>inferInstance) rfl rfl rfl) rfl qA (Rg rfl rfl (x3 (yo1 [dealA] 4 [-1] [[0, -1]] (by decide+kernel) digA (by decide) (by decide+kernel)) fi47 rfl) rfl qD ?_)))));refine A5 ?_;exact E1 rfl rfl zao
end An.S
namespace An
open Go
def VP.ent:VP->Ent
 | .ty u=> .val u
 | p=> .own p
theorem VP.ent_sat {F:Dom} {w:World} {η:Env} {v:Value}: ∀{p:VP},p.sat F w η v->p.ent.sat F w η v
 | .ty _,h=>by simp only [VP.sat] at h;exact h
 | .ptr ..,h=>h
 | .sl ..,h=>h
 | .fn ..,h=>h
 | .st ..,h=>h
 | .tup ..,h=>h
theorem VP.ent_supp: ∀{p:VP},∀k∈p.ent.supp,k∈p.supp
 | .ty _,_,h=>by simp only [VP.ent,Ent.supp] at h;cases h
 | .ptr ..,_,h=>h
 | .sl ..,_,h=>h
 | .fn ..,_,h=>h
 | .st ..,_,h=>h
 | .tup ..,_,h=>h
theorem VP.sats_get {F:Dom} {w:World} {η:Env}: ∀{ps:List VP} {vs:List Value} {i:Nat} {p:VP},VP.sats F w η ps vs->ps[i]? =some p-> ∃v,vs[i]? =some v/\p.sat F w η v
 | p::r,v::s,0,q,h,hi=>by
  simp only [VP.sats] at h;cases hi;exact ⟨v,rfl,h.1⟩
 | p::r,v::s,i+1,q,h,hi=>by
  simp only [VP.sats] at h;exact VP.sats_get (i:=i) h.2 hi
 | p::r,[],_,_,h,_=>by simp only [VP.sats] at h
 | [],_,_,_,_,hi=>by cases hi
theorem VP.supps_get: ∀{ps:List VP} {i:Nat} {p:VP},ps[i]? =some p-> ∀k∈p.supp,k∈VP.supps ps
 | p::r,0,q,hi,k,hk=>by
  cases hi;simp only [VP.supps,zbj];exact .inl hk
 | p::r,i+1,q,hi,k,hk=>by
  simp only [VP.supps,zbj];exact .inr (VP.supps_get (i:=i) hi k hk)
 | [],_,_,hi,_,_=>by cases hi
section
variable {P:Program} {c:Base} {g:Slots} {h:Keys} {al:Names} {d ty:Nat} {pos:String} {af:Array Edge} {gd:Option (Nat×Bool)}
theorem zf7 {x:Operand} {fs:List VP} {i:Nat} {p:VP} (hi:fs[i]? =some p):Does P c ⟨some d,.extract x i,ty,pos,af,gd⟩ ⟨[(x,.own (.tup fs))],[],some (d,some p.ent),[],[]⟩:=
 Does.value rfl fun g h al a w η hrd _ s=>by
  obtain ⟨h0,h1⟩:=xa7 s hrd.1;have h0:VP.sat (c.dom h η) w η (.tup fs) (a.eval x):=h0;simp only [VP.sat] at h0;obtain ⟨vs,e1,e2⟩:=h0;obtain ⟨v,h3,h4⟩:=VP.sats_get e2 hi;refine ⟨v,w,by simp only [execOp,e1];simp [Instr.extract,h3,go_sem],Ext.refl w,VP.ent_sat h4,fun k hk=>h1 k ?_⟩;simp only [Ent.supp,VP.supp];exact VP.supps_get hi k (VP.ent_supp k hk)
theorem yu6 {fn:Func} {w0:World} {F:Dom} {η0:Env} {l0:List Nat} {H H':List (Nat×HEnt)} {nn:List Nat} {t u:Nat} {e1 e2 r1 r2:Ent} (hp:LentC c w0 F η0 l0 H) (hr:fn.results= #[.tmp t,.tmp u]) (hx:g t=some e1) (hy:g u=some e2) (i1:Imp e1 r1) (i2:Imp e2 r2) (hk:Kr h H') (hs:subN (Ent.own (.tup [r1.vp,r2.vp])).supp (nn++l0)=true) (hsH:SupHs H' (nn++l0)) (hd:(nn.all fun k=> !memN k l0)=true):
  wk c .ret (PostG P w0 F η0 fn H (.own (.tup [r1.vp,r2.vp])) H' nn) g h al:=
 ze7 (.inl rfl) hp hk hs hsH hd fun c' a w η _ s=>by
  have h1:(([ResultVar.tmp t,.tmp u]).mapM (readR a.tmps)).run P w= .ok [a.tmps.getD t undef,a.tmps.getD u undef] w:=by simp [readR]
  have:=y7 (P:=P) (rs:=[.tmp t,.tmp u]) hr h1;rw [dif_neg (by simp)] at this;refine ⟨_,this,?_⟩;show VP.sat _ _ _ (.tup _) _;simp only [VP.sat];exact ⟨_,rfl,Ent.vp_sat.2 (i1 _ _ _ _ (s.slot t _ hx).2.2),Ent.vp_sat.2 (i2 _ _ _ _ (s.slot u _ hy).2.2),trivial⟩
end
section
variable {P:Program} {c:Base} {d ty:Nat} {pos:String} {af:Array Edge} {gd:Option (Nat×Bool)}
end
def cP (a b:Nat):Nat:=2 ^ a*(2*b+1)
theorem yj9 {a b:Nat}:0 < cP a b:=Nat.mul_pos (zcu (by decide)) (by omega)
theorem yu5 {a b:Nat}:cP (a+1) b=2*cP a b:=by rw [cP,cP,zcc,zbz (2 ^ a) 2,zdf]
theorem yu7 {b:Nat}:cP 0 b=2*b+1:=by simp [cP]
theorem yj3: ∀{a b a' b':Nat},cP a b=cP a' b'->a=a'/\b=b'
 | 0,b,0,b',h=>by rw [yu7,yu7] at h;exact ⟨rfl,by omega⟩
 | a+1,b,a'+1,b',h=>by
  rw [yu5,yu5] at h;have:=yj3 (a:=a) (b:=b) (a':=a') (b':=b') (by omega);exact ⟨by omega,this.2⟩
 | 0,b,a'+1,b',h=>by rw [yu7,yu5] at h;omega
 | a+1,b,0,b',h=>by rw [yu7,yu5] at h;omega
def cLs:List Nat->Nat
 | []=>0
 | x::r=>cP x (cLs r)
theorem zi8: ∀{l m:List Nat},cLs l=cLs m->l=m
 | [],[],_=>rfl
 | [],y::s,h=>by simp only [cLs] at h;have:=yj9 (a:=y) (b:=cLs s);omega
 | x::r,[],h=>by simp only [cLs] at h;have:=yj9 (a:=x) (b:=cLs r);omega
 | x::r,y::s,h=>by
  simp only [cLs] at h;obtain ⟨h1,h2⟩:=yj3 h;rw [h1,zi8 h2]
def cI:Int->Nat
 | .ofNat n=>2*n
 | .negSucc n=>2*n+1
theorem qr8: ∀{x y:Int},cI x=cI y->x=y
 | .ofNat n,.ofNat m,h=>by simp only [cI] at h;rw [show n=m by omega]
 | .negSucc n,.negSucc m,h=>by simp only [cI] at h;rw [show n=m by omega]
 | .ofNat n,.negSucc m,h=>by simp only [cI] at h;omega
 | .negSucc n,.ofNat m,h=>by simp only [cI] at h;omega
theorem zw7 {α β:Type} {f:α->β} (hf: ∀x y,f x=f y->x=y): ∀{l m:List α},l.map f=m.map f->l=m
 | [],[],_=>rfl
 | [],_::_,h=>by cases h
 | _::_,[],h=>by cases h
 | x::r,y::s,h=>by
  simp only [zcx,List.cons.injEq] at h;rw [hf x y h.1,zw7 hf h.2]
structure MK (α β:Type) where
  fk:α->Value
  fv:β->Value
  ca:α->Nat
  cb:β->Nat
  ja: ∀x y,ca x=ca y->x=y
  jb: ∀x y,cb x=cb y->x=y
structure MS (α β:Type) where
  b:Nat
  l:List (α×β)
  it:Option (Nat×List Nat)
variable {α β:Type}
def MK.ents (M:MK α β):Nat->List (α×β)->List MapEntry
 | _,[]=>[]
 | i,p::r=>⟨M.fk p.1,M.fv p.2,i⟩::M.ents (i+1) r
def MK.obj (M:MK α β) (l:List (α×β)):Obj:= .map (M.ents 0 l).toArray l.length
def MK.c2 (M:MK α β) (p:α×β):Nat:=cP (M.ca p.1) (M.cb p.2)
theorem MK.c2_inj (M:MK α β) (x y:α×β) (h:M.c2 x=M.c2 y):x=y:=by
 obtain ⟨h1,h2⟩:=yj3 h;exact Prod.ext (M.ja _ _ h1) (M.jb _ _ h2)
def cIt:Option (Nat×List Nat)->Nat
 | none=>0
 | some (r,q)=>cP r (cLs q)
theorem js0: ∀{x y:Option (Nat×List Nat)},cIt x=cIt y->x=y
 | none,none,_=>rfl
 | none,some (r,q),h=>by simp only [cIt] at h;have:=yj9 (a:=r) (b:=cLs q);omega
 | some (r,q),none,h=>by simp only [cIt] at h;have:=yj9 (a:=r) (b:=cLs q);omega
 | some (r,q),some (r',q'),h=>by
  obtain ⟨h1,h2⟩:=yj3 h;rw [h1,zi8 h2]
def MK.code (M:MK α β):Option (MS α β)->Nat
 | none=>0
 | some s=>cP s.b (cP (cLs (s.l.map M.c2)) (cIt s.it))
theorem MK.code_inj (M:MK α β): ∀{x y:Option (MS α β)},M.code x=M.code y->x=y
 | none,none,_=>rfl
 | none,some s,h=>by simp only [MK.code] at h;have:=yj9 (a:=s.b) (b:=cP (cLs (s.l.map M.c2)) (cIt s.it));omega
 | some s,none,h=>by simp only [MK.code] at h;have:=yj9 (a:=s.b) (b:=cP (cLs (s.l.map M.c2)) (cIt s.it));omega
 | some ⟨b,l,t⟩,some ⟨b',l',t'⟩,h=>by
  obtain ⟨h1,h2⟩:=yj3 h;obtain ⟨h3,h4⟩:=yj3 h2;have h1:b=b':=h1;have h3:l=l':=zw7 M.c2_inj (zi8 h3);have h4:t=t':=js0 h4;rw [h1,h3,h4]
def MK.at (M:MK α β):Option (MS α β)->Dom->Dom->World->Prop
 | none,_,_,_=>True
 | some s,O,V,w=>(w.heap[s.b]? =some (M.obj s.l)/\V s.b/\ ¬O s.b)/\ ∀r q,s.it=some (r,q)->w.heap[r]? =some (.mapIter (some s.b) s.l.length q.toArray s.l.length)/\V r/\ ¬O r/\r≠s.b
def MK.J (M:MK α β) (n:Nat) (O V:Dom) (w:World):Prop:= ∃s,M.code s=n/\M.at s O V w
theorem MK.J_at (M:MK α β) {s:Option (MS α β)} {O V:Dom} {w:World}:M.J (M.code s) O V w↔M.at s O V w:=by
 constructor
 ·rintro ⟨t,h1,h2⟩;rw [<-M.code_inj h1];exact h2
 ·exact fun h=>⟨s,rfl,h⟩
theorem MK.Jc (M:MK α β):JcOf M.J:=by
 rintro n O O' V w w' ⟨s,h1,h2⟩ hs hO;refine ⟨s,h1,?_⟩;cases s with
 | none=>trivial
 | some s=>
  obtain ⟨⟨h3,h4,h5⟩,h6⟩:=h2;have key: ∀b,b < w.heap.size-> ¬O b-> ¬O' b:=fun b hb h h'=>by
   rcases (hO b h').2 with h7 | h7
   ·exact h h7
   ·omega
  refine ⟨⟨(hs.block _ (xb0 h3) h5).trans h3,h4,key _ (xb0 h3) h5⟩,fun r q hr=> ?_⟩;obtain ⟨h7,h8,h9,h10⟩:=h6 r q hr;exact ⟨(hs.block _ (xb0 h7) h9).trans h7,h8,key _ (xb0 h7) h9,h10⟩
structure MB (M:MK α β) (c:Base) (K:Nat):Prop where
  yk:c.yk=some K
  ln:K∈c.ln
  c0:c.lη.c K=0
  ro:c.ro=none
  J:c.J=M.J
def Base.maps (N:Nat) (w:World) (F:Dom) (K:Nat) (M:MK α β):Base:=⟨N,w,F,[K],⟨fun _=>0,fun _=>0,fun _=>False⟩,fun _=>False,none,[],[],fun _=>False,some K,fun _=>False,M.J,M.Jc⟩
theorem MB.mk' {M:MK α β} {N K:Nat} {w:World} {F:Dom}:MB M (Base.maps N w F K M) K:=⟨rfl,by simp [Base.maps],rfl,rfl,rfl⟩
theorem Plain.maps {M:MK α β} {N K:Nat} {w:World} {F:Dom}:Plain (Base.maps N w F K M) w F:=⟨rfl,rfl,fun _ h=>h,fun _ h=>h,trivial⟩
section
variable {P:Program} {c:Base} {g:Slots} {h:Keys} {al:Names} {Q:Exit->Act->World->Prop} {M:MK α β} {K:Nat}
theorem yo3 {A:Array Oper} {rest:List Oper} {o:Oper} {d:Nat} {s:Option (MS α β)} {ι:Type} (p:ι->Prop) (t:ι->Ty) (s':ι->Option (MS α β)) (hB:MB M c K) (hdst:o.dst=some d)
  (hw: ∀a w η,St' c g h al a w η->Region.wanted o (yielded A a.tmps)=true) (hdN:Nat.blt d c.N=true) (hK:h K=some ⟨M.code s,1,false,[]⟩)
  (hrun: ∀a w η,St' c g h al a w η->M.at s (c.chg h η) η.vo w-> ∃i v w' V',(execOp a.eval o).run P w= .ok (.value v) w'/\Kept η.vo V' w w'/\M.at (s' i) (c.chg h η) V' w'/\(∀F,(t i).p F w' v)/\p i)
  (H: ∀i,p i->wl P c A Q rest (upd g d (some (.val (t i)))) (upd h K (some ⟨M.code (s' i),1,false,[]⟩)) al):wl P c A Q (o::rest) g h al:=fun a w ⟨η,st⟩=>by
 unfold wpListIn;rw [if_pos (hw a w η st)];have hj:=st.jj K _ hB.yk hK;rw [hB.J] at hj;obtain ⟨i,v,w',V',h1,h2,h3,h4,h5⟩:=hrun a w η st (M.J_at.1 hj);refine xe1 h1 ?_;have s2:=st.fed hB.yk hB.ln hB.c0 hK h2 (m:=M.code (s' i)) (by rw [hB.J];exact M.J_at.2 h3);rw [hdst];exact H i h5 _ _ ⟨_,s2.put (by simpa using hdN) (e:= .val (t i)) (h4 _) fun k hk=>by cases hk⟩
theorem qs9 {A:Array Oper} {rest:List Oper} {o:Oper} {s:Option (MS α β)} (s':Option (MS α β)) (hB:MB M c K) (hdst:o.dst=none)
  (hw: ∀a w η,St' c g h al a w η->Region.wanted o (yielded A a.tmps)=true) (hK:h K=some ⟨M.code s,1,false,[]⟩)
  (hrun: ∀a w η,St' c g h al a w η->M.at s (c.chg h η) η.vo w-> ∃w' V',(execOp a.eval o).run P w= .ok .skip w'/\Kept η.vo V' w w'/\M.at s' (c.chg h η) V' w')
  (H:wl P c A Q rest g (upd h K (some ⟨M.code s',1,false,[]⟩)) al):wl P c A Q (o::rest) g h al:=fun a w ⟨η,st⟩=>by
 unfold wpListIn;rw [if_pos (hw a w η st)];have hj:=st.jj K _ hB.yk hK;rw [hB.J] at hj;obtain ⟨w',V',h1,h2,h3⟩:=hrun a w η st (M.J_at.1 hj);refine yg8 h1 ?_;have s2:=st.fed hB.yk hB.ln hB.c0 hK h2 (m:=M.code s') (by rw [hB.J];exact M.J_at.2 h3);rw [hdst];exact H _ _ ⟨_,s2⟩
end
variable {α β:Type} {M:MK α β}
theorem MK.ents_len (M:MK α β): ∀(l:List (α×β)) (i:Nat),(M.ents i l).length=l.length
 | [],_=>rfl
 | _::r,i=>by rw [MK.ents,zek,M.ents_len r];rfl
theorem MK.ents_get (M:MK α β): ∀(l:List (α×β)) (i j:Nat),(M.ents i l)[j]? =l[j]?.map fun p=>⟨M.fk p.1,M.fv p.2,i+j⟩
 | [],_,_=>by simp [MK.ents]
 | p::r,i,0=>by simp [MK.ents]
 | p::r,i,j+1=>by
  rw [MK.ents,List.getElem?_cons_succ,List.getElem?_cons_succ,M.ents_get r (i+1) j,show i+1+j=i+(j+1) by omega]
theorem MK.ents_mem {l:List (α×β)} {e:MapEntry} (he:e∈M.ents 0 l): ∃i p,l[i]? =some p/\e=⟨M.fk p.1,M.fv p.2,i⟩:=by
 obtain ⟨i,hi⟩:=zdq he;rw [M.ents_get] at hi;cases hp:l[i]? with
 | none=>rw [hp] at hi;cases hi
 | some p=>rw [hp] at hi;simp at hi;exact ⟨i,p,hp,hi.symm⟩
theorem MK.ents_at {l:List (α×β)} {i:Nat} {p:α×β} (h:l[i]? =some p):(⟨M.fk p.1,M.fv p.2,i⟩:MapEntry)∈M.ents 0 l:=by
 refine zdc (i:=i) ?_;rw [M.ents_get,h];simp
theorem MK.ents_born (M:MK α β): ∀(l:List (α×β)) (i:Nat),(M.ents i l).map (·.born)=List.range' i l.length
 | [],_=>rfl
 | _::r,i=>by rw [MK.ents,zcx,M.ents_born r,zek,List.range'_succ]
theorem MK.ents_nodup {l:List (α×β)}:((M.ents 0 l).map (·.born)).Nodup:=by rw [M.ents_born];exact List.nodup_range'
theorem MK.ents_lt {l:List (α×β)} {e:MapEntry} (he:e∈M.ents 0 l):e.born < l.length:=by
 obtain ⟨i,p,h1,rfl⟩:=MK.ents_mem he;exact (zbi.1 h1).1
section
variable [DecidableEq α]
def getI (a:α):Nat->List (α×β)->Option (Nat×β)
 | _,[]=>none
 | i,p::r=>if a=p.1 then some (i,p.2) else getI a (i+1) r
theorem xq2 {a:α}: ∀{l:List (α×β)} {i j:Nat} {v:β},getI a i l=some (j,v)->i<=j/\l[j - i]? =some (a,v)
 | [],_,_,_,h=>by cases h
 | p::r,i,j,v,h=>by
  rw [getI] at h;split at h
  ·rename_i e;cases h;exact ⟨zbm _,by simp [e]⟩
  ·obtain ⟨h1,h2⟩:=xq2 h;refine ⟨by omega,?_⟩;rw [show j - i=(j - (i+1))+1 by omega,List.getElem?_cons_succ];exact h2
theorem yg1 {a:α}: ∀{l:List (α×β)} {i:Nat},getI a i l=none↔ ∀p∈l,p.1≠a
 | [],_=>by simp [getI]
 | p::r,i=>by
  rw [getI];split
  ·rename_i e;simp [e]
  ·rename_i e;rw [yg1 (l:=r) (i:=i+1)];have e2: ¬p.1=a:=fun h=>e h.symm;simp [e2]
def getM (l:List (α×β)) (a:α):Option β:=(getI a 0 l).map (·.2)
def entV (z:β) (l:List (α×β)) (a:α):β:=((getI a 0 l).map (·.2)).getD z
def putM (l:List (α×β)) (a:α) (v:β):List (α×β):=match getI a 0 l with
 | some (i,_)=>l.set i (a,v)
 | none=>l++[(a,v)]
theorem yq7 {d:TypeDesc} (hs: ∀x y,Instr.sameNow d (M.fk x) (M.fk y)=some (decide (x=y))) (a:α): ∀(l:List (α×β)) (i:Nat),Instr.findNow d (M.fk a) (M.ents i l) i=some ((getI a i l).map fun x=>(x.1,M.fv x.2))
 | [],_=>rfl
 | p::r,i=>by
  rw [MK.ents,Instr.findNow,getI];by_cases h:a=p.1
  ·simp [hs,h]
  ·simp [hs,h,yq7 hs a r (i+1)]
end
structure MapF [DecidableEq α] (P:Program) (t:TypeId) (M:MK α β) (z:β):Prop where
  und: ∃kt e d,P.underlying t=some (.map kt e)/\P.underlying kt=some d/\(∀x y,Instr.sameNow d (M.fk x) (M.fk y)=some (decide (x=y)))/\(∀x,MapKept.IsKey d (M.fk x))/\(∀x,Instr.sameBits 10000 (M.fk x) (M.fk x)=true)/\ ∀w,(zeroValue e).run P w= .ok (M.fv z) w
section
variable {P:Program} {w:World} {b:Nat} {l:List (α×β)} [DecidableEq α] {t:TypeId} {z:β}
theorem qa6 (hf:MapF P t M z) (hb:w.heap[b]? =some (M.obj l)) (a:α):(Instr.lookup t (.map (some b)) (M.fk a) false).run P w= .ok (M.fv ((getM l a).getD z)) w:=by
 obtain ⟨kt,e,d,ht,hd,hs,hk,hy,hz⟩:=hf.und;have h1:=MapKept.run_findKey (w:=w) hd (yq7 hs a l 0);have h2:=fun em=>MapKept.run_checkKey (w:=w) hd (hk a) em 9999;have hb':w.heap[b]? =some (.map (M.ents 0 l).toArray l.length):=hb;cases hg:getI a 0 l with
 | none=>simp [hg] at h1;simp [Instr.lookup,run_underlying ht,MapKept.run_getObj_map hb',h2,h1,hz,Result.andThen,getM,hg]
 | some x=>simp [hg] at h1;simp [Instr.lookup,run_underlying ht,MapKept.run_getObj_map hb',h2,h1,Result.andThen,getM,hg]
omit [DecidableEq α] in
theorem qv8 {p:α×β}:(M.ents 0 l).toArray.push ⟨M.fk p.1,M.fv p.2,l.length⟩=(M.ents 0 (l++[p])).toArray:=by
 apply Array.ext';rw [Array.toList_push];apply zes;intro i;rw [M.ents_get];rcases Nat.lt_trichotomy i l.length with h | h | h
 ·rw [zda (by rw [M.ents_len];exact h),zda h,M.ents_get]
 ·subst h;rw [zds (by rw [M.ents_len];exact zbm _),zds (zbm _),M.ents_len];simp
 ·rw [zds (by rw [M.ents_len];omega),zds (by omega),M.ents_len,zcp (by simp;omega),zcp (by simp;omega)];rfl
omit [DecidableEq α] in
theorem j9 {i:Nat} {p:α×β} {f:MapEntry->MapEntry} (hf: ∀q,l[i]? =some q->f ⟨M.fk q.1,M.fv q.2,i⟩=⟨M.fk p.1,M.fv p.2,i⟩):(M.ents 0 l).modify i f=M.ents 0 (l.set i p):=by
 apply zes;intro j;rw [M.ents_get,List.getElem?_modify,zeo,M.ents_get];by_cases h:i=j
 ·subst h;cases hq:l[i]? with
  | none=>
   have:l.length<=i:=List.getElem?_eq_none_iff.1 hq;simp;omega
  | some q=>
   have:=(zbi.1 hq).1;simp [hf q hq,this]
 ·simp [h]
end
section
variable {P:Program} {w:World} {b:Nat} {l:List (α×β)} {t:TypeId}
end
section
variable {P:Program} {w:World} {b:Nat} {l:List (α×β)} [DecidableEq α] {t:TypeId} {z:β}
theorem qb4 (hf:MapF P t M z) (hb:w.heap[b]? =some (M.obj l)) (a:α) (v:β):(Instr.mapUpdate t (.map (some b)) (M.fk a) (M.fv v)).run P w= .ok () (ChangeMaps.setBlock w b (M.obj (putM l a v))):=by
 obtain ⟨kt,e,d,ht,hd,hs,hk,hy,hz⟩:=hf.und;have h1:=MapKept.run_findKey (w:=w) hd (yq7 hs a l 0);have h2:=fun em=>MapKept.run_checkKey (w:=w) hd (hk a) em 9999;have hb':w.heap[b]? =some (.map (M.ents 0 l).toArray l.length):=hb;have hset:=fun o=>MapKept.run_setObj_map (P:=P) o hb';cases hg:getI a 0 l with
 | none=>
  simp [hg] at h1;have hp:=qv8 (M:=M) (l:=l) (p:=(a,v));simp [Instr.mapUpdate,run_underlying ht,MapKept.run_getObj_map hb',h2,h1,hset,Result.andThen,putM,hg,ChangeMaps.setBlock,MK.obj];rw [<-hp];simp
 | some x=>
  obtain ⟨i,u⟩:=x;have hi:=(xq2 hg).2;simp only [Nat.sub_zero] at hi;simp [hg] at h1;have he:(M.ents 0 l)[i]? =some ⟨M.fk a,M.fv u,i⟩:=by rw [M.ents_get,hi];simp
  have hm:=j9 (M:=M) (l:=l) (i:=i) (p:=(a,v)) (f:=fun e=>{e with key:=M.fk a,val:=M.fv v}) (fun q hq=>by rfl);simp [Instr.mapUpdate,run_underlying ht,MapKept.run_getObj_map hb',h2,h1,he,Instr.keyThatStays,hy,hset,Result.andThen,putM,hg,ChangeMaps.setBlock,MK.obj,hm]
end
theorem qi4 {V:Dom} {w:World} {b:Nat} {o:Obj} (hV:V b):Stp V w (ChangeMaps.setBlock w b o):=⟨rfl,rfl,rfl,by simp [ChangeMaps.setBlock],fun x _ hx=>by
 show (w.heap.setIfInBounds b o)[x]? =_;rw [zdy,if_neg (fun e=>hx (by rw [<-e];exact hV))]⟩
theorem qa1 {w:World} {b:Nat} {o o':Obj} (hb:w.heap[b]? =some o):(ChangeMaps.setBlock w b o').heap[b]? =some o':=(MapKept.heap_set hb).1
theorem set_other {w:World} {b x:Nat} {o':Obj} (hx:x≠b):(ChangeMaps.setBlock w b o').heap[x]? =w.heap[x]? :=by
 show (w.heap.setIfInBounds b o')[x]? =_;rw [zdy,if_neg (fun e=>hx e.symm)]
section
variable {P:Program} {c:Base} {g:Slots} {h:Keys} {al:Names} {Q:Exit->Act->World->Prop} {K:Nat} {A:Array Oper} {rest:List Oper} {d ty:Nat} {pos:String} {af:Array Edge} {gd:Option (Nat×Bool)} {t:TypeId} {b:Nat} {l:List (α×β)}
theorem yg3 {a:Act} {w w':World} {η:Env} (st:St' c g h al a w η) (hs:Stp η.vo w w'):Kept η.vo η.vo w w':=
 ⟨hs,fun _ h=>h,fun b hb=>⟨zby (st.fr.vnew b hb).1 hs.size,.inl hb⟩⟩
theorem zr8 {a:Act} {w:World} {η:Env} (o:Obj) (st:St' c g h al a w η):Kept η.vo (fun x=>η.vo x∨x=w.heap.size) w (w.alloc o):=
 ⟨⟨rfl,rfl,rfl,by simp,fun b hb _=>(MapKept.heap_alloc w o).2 b hb⟩,fun _ h=> .inl h,fun b hb=>by
  rcases hb with hb | rfl
  ·exact ⟨by have:=(st.fr.vnew b hb).1;simp;omega,.inl hb⟩
  ·exact ⟨by simp,.inr (zbm _)⟩⟩
theorem jd7 (hB:MB M c K) (hw: ∀a w η,St' c g h al a w η->Region.wanted ⟨some d,.makeMap t none,ty,pos,af,gd⟩ (yielded A a.tmps)=true) (hdN:Nat.blt d c.N=true) (hK:h K=some ⟨0,1,false,[]⟩)
  (H: ∀b,wl P c A Q rest (upd g d (some (.val (tE (.map (some b)))))) (upd h K (some ⟨M.code (some ⟨b,[],none⟩),1,false,[]⟩)) al):wl P c A Q (⟨some d,.makeMap t none,ty,pos,af,gd⟩::rest) g h al:=
 yo3 (s:=none) (fun _=>True) (fun b=>tE (.map (some b))) (fun b=>some ⟨b,[],none⟩) hB rfl hw hdN hK (fun a w η st _=>⟨w.heap.size,_,_,_,rfl,zr8 _ st,⟨⟨(MapKept.heap_alloc w _).1,.inr rfl,fun hO=>absurd (st.chg_lt hO) (Nat.lt_irrefl _)⟩,fun r q hr=>by cases hr⟩,fun _=>rfl,trivial⟩) fun b _=>H b
theorem js4 [DecidableEq α] {z:β} {x y u:Operand} {a:α} {v:β} (hf:MapF P t M z) (hB:MB M c K) (hw: ∀a w η,St' c g h al a w η->Region.wanted ⟨none,.mapUpdate t x y u,ty,pos,af,gd⟩ (yielded A a.tmps)=true)
  (hx:look g x=some (.val (tE (.map (some b))))) (hy:look g y=some (.val (tE (M.fk a)))) (hu:look g u=some (.val (tE (M.fv v)))) (hK:h K=some ⟨M.code (some ⟨b,l,none⟩),1,false,[]⟩)
  (H:wl P c A Q rest g (upd h K (some ⟨M.code (some ⟨b,putM l a v,none⟩),1,false,[]⟩)) al):wl P c A Q (⟨none,.mapUpdate t x y u,ty,pos,af,gd⟩::rest) g h al:=
 qs9 (s:=some ⟨b,l,none⟩) (some ⟨b,putM l a v,none⟩) hB rfl hw hK (fun a' w η st hm=>by
  have e1:a'.eval x= .map (some b):=(xa7 st hx).1;have e2:a'.eval y=M.fk a:=(xa7 st hy).1;have e3:a'.eval u=M.fv v:=(xa7 st hu).1;obtain ⟨⟨h1,h2,h3⟩,_⟩:=hm;refine ⟨_,η.vo,?_,yg3 st (qi4 (b:=b) (o:=M.obj (putM l a v)) h2),⟨⟨qa1 h1,h2,h3⟩,fun r q hr=>by cases hr⟩⟩;simp only [execOp,e1,e2,e3,zbu,qb4 hf h1,Result.andThen];rfl) H
theorem qt2 [DecidableEq α] {z:β} {x y:Operand} (hf:MapF P t M z) (hB:MB M c K) (b:Nat) (l:List (α×β)) (a:α):
  Does P c ⟨some d,.lookup t x y false,ty,pos,af,gd⟩ ⟨[(x,.val (tE (.map (some b)))),(y,.val (tE (M.fk a)))],[(K,⟨M.code (some ⟨b,l,none⟩),1,false,[]⟩)],some (d,some (.val (tE (M.fv (entV z l a))))),[],[]⟩:=
 Does.value rfl fun g h al a' w η hrd hkr st=>by
  have e1:a'.eval x= .map (some b):=(xa7 st hrd.1).1;have e2:a'.eval y=M.fk a:=(xa7 st hrd.2.1).1;have hj:=st.jj K _ hB.yk hkr.1;rw [hB.J] at hj;have hj:M.J (M.code (some ⟨b,l,none⟩)) (c.chg h η) η.vo w:=hj;obtain ⟨⟨h1,_⟩,_⟩:=M.J_at.1 hj;refine ⟨_,w,?_,Ext.refl w,rfl,fun k hk=>by cases hk⟩;simp only [execOp,e1,e2,zbu,qa6 hf h1,Result.andThen];rfl
theorem qu6 {x:Operand} {kt e:TypeId} (ht:P.underlying t=some (.map kt e)) (hB:MB M c K) (hw: ∀a w η,St' c g h al a w η->Region.wanted ⟨some d,.range t x,ty,pos,af,gd⟩ (yielded A a.tmps)=true) (hdN:Nat.blt d c.N=true)
  (hx:look g x=some (.val (tE (.map (some b))))) (hK:h K=some ⟨M.code (some ⟨b,l,none⟩),1,false,[]⟩)
  (H: ∀r,wl P c A Q rest (upd g d (some (.val (tE (.pointer (some ⟨r,0,none⟩)))))) (upd h K (some ⟨M.code (some ⟨b,l,some (r,[])⟩),1,false,[]⟩)) al):wl P c A Q (⟨some d,.range t x,ty,pos,af,gd⟩::rest) g h al:=
 yo3 (s:=some ⟨b,l,none⟩) (fun _=>True) (fun r=>tE (.pointer (some ⟨r,0,none⟩))) (fun r=>some ⟨b,l,some (r,[])⟩) hB rfl hw hdN hK (fun a w η st hm=>by
  have e1:a.eval x= .map (some b):=(xa7 st hx).1;obtain ⟨⟨h1,h2,h3⟩,_⟩:=hm;refine ⟨w.heap.size,_,_,_,?_,zr8 (.mapIter (some b) l.length #[] l.length) st,⟨⟨((MapKept.heap_alloc w _).2 b (xb0 h1)).trans h1,.inl h2,h3⟩,fun r q hr=> ?_⟩,fun _=>rfl,trivial⟩
  ·simp only [execOp,e1,zbu,run_range_map w t kt e b _ _ ht h1,Result.andThen];rfl
  ·cases hr;exact ⟨(MapKept.heap_alloc w _).1,.inr rfl,fun hO=>absurd (st.chg_lt hO) (Nat.lt_irrefl _),fun e=>by have h9:b < w.heap.size:=xb0 h1;have e:w.heap.size=b:=e;omega⟩) fun r _=>H r
theorem jg6 {x:Operand} {r:Nat} {q:List Nat} (hB:MB M c K) (hw: ∀a w η,St' c g h al a w η->Region.wanted ⟨some d,.next x false,ty,pos,af,gd⟩ (yielded A a.tmps)=true) (hdN:Nat.blt d c.N=true)
  (hx:look g x=some (.val (tE (.pointer (some ⟨r,0,none⟩))))) (hK:h K=some ⟨M.code (some ⟨b,l,some (r,q)⟩),1,false,[]⟩)
  (hN:(∀i,i < l.length->i∈q)->wl P c A Q rest (upd g d (some (.val (tT [tB false])))) (upd h K (some ⟨M.code (some ⟨b,l,some (r,q)⟩),1,false,[]⟩)) al)
  (hS: ∀i k v,l[i]? =some (k,v)->i∉q->wl P c A Q rest (upd g d (some (.val (tT [tB true,tE (M.fk k),tE (M.fv v)])))) (upd h K (some ⟨M.code (some ⟨b,l,some (r,q++[i])⟩),1,false,[]⟩)) al):wl P c A Q (⟨some d,.next x false,ty,pos,af,gd⟩::rest) g h al:=
 yo3 (s:=some ⟨b,l,some (r,q)⟩) (ι:=Option (Nat×α×β)) (fun i=>match i with | none=> ∀i,i < l.length->i∈q | some (i,k,v)=>l[i]? =some (k,v)/\i∉q) (fun i=>match i with | none=>tT [tB false] | some (_,k,v)=>tT [tB true,tE (M.fk k),tE (M.fv v)])
  (fun i=>match i with | none=>some ⟨b,l,some (r,q)⟩ | some (i,_,_)=>some ⟨b,l,some (r,q++[i])⟩) hB rfl hw hdN hK (fun a w η st hm=>by
  have e1:a.eval x= .pointer (some ⟨r,0,none⟩):=(xa7 st hx).1;have hm':=hm;obtain ⟨⟨h1,h2,h3⟩,h4⟩:=hm;obtain ⟨h5,h6,h7,h8⟩:=h4 r q rfl;rcases run_next_at (P:=P) w ty r b l.length l.length q.toArray (M.ents 0 l).toArray l.length h5 h1 (fun x hx=>MK.ents_lt (M:=M) (by simpa using hx)) (zbm _) with ⟨h0,hrun⟩ | ⟨e,he,w1,hal,hrun⟩
  ·refine ⟨none,_,w,η.vo,?_,yg3 st (Stp.refl _ _),hm',fun F=>⟨[_],rfl,rfl,trivial⟩,fun i hi=> ?_⟩
   ·simp only [execOp,e1,zbu,hrun,Result.andThen];rfl
   ·have:=all_seen _ _ h0 ⟨M.fk l[i].1,M.fv l[i].2,i⟩ (by simpa using MK.ents_at (M:=M) (zbk hi));simpa using this
  ·obtain ⟨hem,hes⟩:=mem_left he;obtain ⟨i,⟨k,v⟩,hi,rfl⟩:=MK.ents_mem (M:=M) (by simpa using hem);have hd1:Ext w w1:=by
    rcases hal with rfl | rfl
    ·exact Ext.refl _
    ·exact Ext.drew _
   have hh:w1.heap=w.heap:=by rcases hal with rfl | rfl <;> rfl
   refine ⟨some (i,k,v),_,_,η.vo,?_,yg3 st ((hd1.stp _).trans (qi4 (b:=r) (o:= .mapIter (some b) l.length (q++[i]).toArray l.length) h6) fun _ _ h=>h),⟨⟨?_,h2,h3⟩,fun r' q' hr=> ?_⟩,fun F=>⟨[_,_,_],rfl,rfl,rfl,rfl,trivial⟩,hi,by simpa using hes⟩
   ·have e2:q.toArray.push i=(q++[i]).toArray:=by simp
    simp only [execOp,e1,zbu,hrun,Result.andThen,e2];rfl
   ·rw [set_other (fun e=>h8 e.symm),hh];exact h1
   ·cases hr;exact ⟨qa1 (by rw [hh];exact h5),h6,h7,h8⟩) fun i hi=>by
  cases i with
  | none=>exact hN hi
  | some i=>exact hS _ _ _ hi.1 hi.2
theorem jm1 {x:Operand} {r i:Nat} {q:List Nat} {k:α} {v:β} (hi:l[i]? =some (k,v)) (hB:MB M c K) (hw: ∀a w η,St' c g h al a w η->Region.wanted ⟨some d,.entry x,ty,pos,af,gd⟩ (yielded A a.tmps)=true) (hdN:Nat.blt d c.N=true)
  (hx:look g x=some (.val (tE (.pointer (some ⟨r,0,none⟩))))) (hK:h K=some ⟨M.code (some ⟨b,l,some (r,q++[i])⟩),1,false,[]⟩)
  (H:wl P c A Q rest (upd g d (some (.val (tT [tE (M.fk k),tE (M.fv v)])))) (upd h K (some ⟨M.code (some ⟨b,l,some (r,q++[i])⟩),1,false,[]⟩)) al):wl P c A Q (⟨some d,.entry x,ty,pos,af,gd⟩::rest) g h al:=
 yo3 (s:=some ⟨b,l,some (r,q++[i])⟩) (ι:=Unit) (fun _=>True) (fun _=>tT [tE (M.fk k),tE (M.fv v)]) (fun _=>some ⟨b,l,some (r,q++[i])⟩) hB rfl hw hdN hK (fun a w η st hm=>by
  have e1:a.eval x= .pointer (some ⟨r,0,none⟩):=(xa7 st hx).1;have hm':=hm;obtain ⟨⟨h1,h2,h3⟩,h4⟩:=hm;obtain ⟨h5,h6,h7,h8⟩:=h4 r _ rfl;have hrun:=run_entry_at (P:=P) w r b l.length q.toArray (M.ents 0 l).toArray l.length ⟨M.fk k,M.fv v,i⟩ (by rw [h5];simp) h1 (by simpa using MK.ents_at (M:=M) hi) (by simpa using MK.ents_nodup (M:=M) (l:=l));refine ⟨(),_,w,η.vo,?_,yg3 st (Stp.refl _ _),hm',fun F=>⟨[_,_],rfl,rfl,rfl,trivial⟩,trivial⟩;simp only [execOp,e1,zbu,hrun,Result.andThen];rfl) fun _ _=>H
end
theorem Ct.introM {P:Program} {f:FuncId} {fn:Func} {x:Code} {N:Nat} {ts:List Ty} {r:Ty} (M:MK α β) (K:Nat) (hf:P.funcs[f]? =some fn) (hb:fn.body=some x) (hN:fn.ntmps=N) (hlb:Nat.ble ts.length N=true)
  (H: ∀w F,MB M (Base.maps N w F K M) K->wc P (Base.maps N w F K M) x (Post P w F fn r) (args 0 ts) (upd (fun _=>none) K (some ⟨0,1,false,[]⟩)) (nm [K])):Ct P f ts r:=by
 intro F w vs hvs;have hl:ts.length<=N:=zdm hlb;have hlen:vs.length=ts.length:=by
  clear H hlb hl
  induction ts generalizing vs with
  | nil=>cases vs with
   | nil=>rfl
   | cons=>exact hvs.elim
  | cons t r ih=>cases vs with
   | nil=>exact hvs.elim
   | cons v s=>simp [ih s hvs.2]
 have hkey: ∀k y,upd (fun _=>none) K (some (⟨0,1,false,[]⟩:HEnt)) k=some y->k=K/\y=⟨0,1,false,[]⟩:=fun k y hy=>by
  by_cases hk:k=K
  ·subst hk;rw [x6] at hy;cases hy;exact ⟨rfl,rfl⟩
  ·rw [x4 _ _ _ hk] at hy;cases hy
 have hK:memN K [K]=true:=xb5.2 (by simp);have hown: ∀b,¬Own (upd (fun _=>none) K (some (⟨0,1,false,[]⟩:HEnt))) ⟨fun _=>0,fun _=>0,fun _=>False⟩ b:=by
  rintro b ⟨k,y,_,hc,_⟩;exact absurd hc (Nat.lt_irrefl 0)
 refine xk1 hf hb (H w F MB.mk' _ w ⟨⟨fun _=>0,fun _=>0,fun _=>False⟩,?_⟩);refine ⟨?_,rfl,fun s e hs=> ?_,fun k x hx=> ?_,fun k k' x x' hx _ _ hc=>absurd hc (Nat.lt_irrefl 0),⟨rfl,rfl,rfl,zbm _,fun _ _ _ _=>rfl,fun _ hb=>hb,fun _ hb=>hb.elim⟩,fun k hk=> ?_,fun x hx=>(by cases hx),fun b hb=>hb.elim,fun k hk=> ?_,fun k x hk hx=> ?_,fun b hb=>hb.elim⟩
 ·simp [hlen,hN,Base.maps];omega
 ·obtain ⟨j,t,h1,h2,h3⟩:=yg0 ts 0 s e hs;subst h3;have hj:j < ts.length:=(zbi.1 h2).1;obtain ⟨v,hv,hp⟩:=Tup.get ts vs j t hvs h2;refine ⟨by show s < N;omega,fun k hk=>(by cases hk),?_⟩;have e1:(vs.toArray++Array.replicate (fn.ntmps - vs.toArray.size) undef).getD s undef=v:=by
   rw [zbn,zft,if_pos (by simp;omega)];rw [h1,zcj,zfe,hv];rfl
  show t.p _ w _;simp only [e1];exact t.mono hp fun b o hb hl _=>⟨⟨.inr ⟨hb,fun hv=>hv⟩,hown b,fun hv=>hv,fun hv=>hv⟩,hl⟩
 ·obtain ⟨rfl,rfl⟩:=hkey k x hx;exact ⟨hK,fun j hj=>(by cases hj),⟨by simp,by simp,fun _=>rfl,by simp,fun hc=>absurd hc (Nat.lt_irrefl 0)⟩,fun hc=>absurd hc (Nat.lt_irrefl 0)⟩
 ·have hk:k∈[K]:=hk;rw [zbq.1 hk];exact ⟨hK,rfl,rfl⟩
 ·have hk:some K=some k:=hk;cases hk;exact hK
 ·have hk:some K=some k:=hk;cases hk;rw [x6] at hx;cases hx;exact (M.J_at (s:=none)).2 trivial
abbrev MK.cd (M:MK α β) (b:Nat) (l:List (α×β)):Nat:=M.code (some ⟨b,l,none⟩)
abbrev MK.ci (M:MK α β) (b:Nat) (l:List (α×β)) (r:Nat) (q:List Nat):Nat:=M.code (some ⟨b,l,some (r,q)⟩)
abbrev mkII:MK Int Int:=⟨fun k=> .int .i64 k,fun v=> .int .i64 v,cI,cI,fun _ _ h=>qr8 h,fun _ _ h=>qr8 h⟩
theorem jp7 {P:Program} {t kt e:TypeId} (h1:P.underlying t=some (.map kt e)) (h2:P.underlying kt=some (.int .i64)) (h3: ∀w,(zeroValue e).run P w= .ok (.int .i64 0) w):MapF P t mkII 0:=
 ⟨kt,e,_,h1,h2,fun x y=>by simp only [Instr.sameNow,if_pos];rfl,fun x=>by simp [MapKept.IsKey],fun x=>by simp [Instr.sameBits],h3⟩
end An
