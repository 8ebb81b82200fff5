/- Part 4 of a proof: F2, LibKn, Cal, Sal, Fv, LibSt, F3, LibZh, LibZi, LibMa, LibMb, LibMs, Fv2, LibAp, LibAq, LibAr, LibAs, F4, F5, Ft, LibLk, LibNw, LibOv, LibLw, LibLx, LibN2, LibAt, LibAw, LibRn, F6, Fl, F7, P4, F8, Fx, Fy, F9, V16, V17, V18. -/
import Derived.Laws.Strings2
import Derived.Laws.IdiomStrings
import Derived.Maps.RangeRun
import Derived.MapKept
import Derived.Carry
import Derived.Test.YtobjfhagbkjegaaGreatDoorR3
set_option maxHeartbeats 4000000
set_option maxRecDepth 100000
namespace An.S
open Go Go.Proofs An
instance fi85:FnI Tryz.prog 85:=⟨_,Tryz.func85,by kernel_rfl,rfl⟩
instance fi104:FnI Tryz.prog 104:=⟨_,Tryz.func104,by kernel_rfl,rfl⟩
instance fi105:FnI Tryz.prog 105:=⟨_,Tryz.func105,by kernel_rfl,rfl⟩
instance fi132:FnI Tryz.prog 132:=⟨_,Tryz.func132,by kernel_rfl,rfl⟩
instance un36:UnI Tryz.prog 36 (.slice 30):=⟨Tryz.underlying36⟩
def SymIHF (n:Nat):Prop:= ∀(xs:List Fa) (a m b:Nat) {L:Nat} {x y u:Int},xs.length=L→x=(a:Int)→y=(m:Int)→u=(b:Int)→a < m→m < b→b≤xs.length→xs.length≤1000000→SrtP Fa.kn fa0 a m xs→SrtP Fa.kn fa0 m b xs→b - a < n→CtG Tryz.prog 105 [(20,⟨30,11,true,rV tFa xs⟩)] [.own (.sl 20 11 0 L),.val (tI x),.val (tI y),.val (tI u),.val (tE (.func (.func 57) #[] #[]))] (.val (tT [])) [(20,⟨30,11,true,rV tFa (srtR Fa.kn a b xs)⟩)] []
theorem c_symStepF (n:Nat) (ih:SymIHF n) (xs:List Fa) (a m b:Nat) {L:Nat} {x y u:Int} (eL:xs.length=L) (ex:x=(a:Int)) (ey:y=(m:Int)) (eu:u=(b:Int)) (hab:a < m) (hmb:m < b) (h3:b≤xs.length) (hx:xs.length≤1000000) (hs1:SrtP Fa.kn fa0 a m xs) (hs2:SrtP Fa.kn fa0 m b xs) (hn:b - a≤n):
  CtG Tryz.prog 105 [(20,⟨30,11,true,rV tFa xs⟩)] [.own (.sl 20 11 0 L),.val (tI x),.val (tI y),.val (tI u),.val (tE (.func (.func 57) #[] #[]))] (.val (tT [])) [(20,⟨30,11,true,rV tFa (srtR Fa.kn a b xs)⟩)] []:=by
 subst ex ey eu eL
 refine CtG.intro [20] Tryz.func105 rfl Tryz.ntmps105 rfl rfl ⟨⟨rfl,xa0⟩,trivial⟩ ?_
 intro w F η
 refine A9 ?_
 refine x7 rfl (fun h382=> ?_) (fun h382=> ?_)
 ·
  refine A14 ?_
  refine cL (fun (fm:(Nat)×(Nat))=>(fun (p:Nat) (q:Nat)=>m≤p∧p≤q∧q≤b∧(∀t,m≤t→t < p→Fa.kn (xs.getD t fa0) < Fa.kn (xs.getD a fa0))∧ ∀t,q≤t→t < b→Fa.kn (xs.getD a fa0)≤Fa.kn (xs.getD t fa0)) fm.1 fm.2) (fun (fm:(Nat)×(Nat))=>(fun (p:Nat) (q:Nat)=>upd (upd (upd (upd (upd (upd (upd (fun _=>none) 0 (some (.own (.sl 20 11 0 xs.length)))) 1 (some (.val (tI a)))) 2 (some (.val (tI m)))) 3 (some (.val (tI b)))) 4 (some (.val (tE (.func (.func 57) #[] #[]))))) 10 (some (.val (tI p)))) 11 (some (.val (tI q)))) fm.1 fm.2) (fun (fm:(Nat)×(Nat))=>(fun (p:Nat) (q:Nat)=>upd (fun _=>none) 20 (some (⟨30,11,true,rV tFa xs⟩))) fm.1 fm.2) [20] (fun (fm:(Nat)×(Nat))=>(fun (p:Nat) (q:Nat)=>q - p) fm.1 fm.2) ((m,b)) (by dsimp only;exact ⟨Nat.le_refl _,by omega,Nat.le_refl _,fun t g1 g2=>by omega,fun t g1 g2=>by omega⟩) (hh:=((SubK.consI rfl ImpK.refl) SubK.nil)) ?_
  intro fm hI
  obtain ⟨p,q⟩:=fm
  replace hI:m≤p∧p≤q∧q≤b∧(∀t,m≤t→t < p→Fa.kn (xs.getD t fa0) < Fa.kn (xs.getD a fa0))∧ ∀t,q≤t→t < b→Fa.kn (xs.getD a fa0)≤Fa.kn (xs.getD t fa0):=hI
  show wc _ _ _ _ (upd (upd (upd (upd (upd (upd (upd (fun _=>none) 0 (some (.own (.sl 20 11 0 xs.length)))) 1 (some (.val (tI a)))) 2 (some (.val (tI m)))) 3 (some (.val (tI b)))) 4 (some (.val (tE (.func (.func 57) #[] #[]))))) 10 (some (.val (tI p)))) 11 (some (.val (tI q)))) (upd (fun _=>none) 20 (some (⟨30,11,true,rV tFa xs⟩))) _
  obtain ⟨hlp,hpq,hqh,hf,hg⟩:=hI
  refine A8 ?_
  refine x7 rfl (fun h388=> ?_) (fun h388=> ?_)
  ·
   refine A8 ?_
   refine R1 (x5 Tryz.underlying110 (isS Tryz.underlying3) (by first | exact wu64 (by omega) (by omega) | exact mu64)) rfl (R2 (xf5 (r:=((((p+q) / 2):Nat):Int)) (by decide) ((shrN (s:=1) rfl (by decide)).trans (by simp))) rfl rfl (R1 (x5 Tryz.underlying3 (isS Tryz.underlying110) (wr64 (by omega) (by omega))) rfl ?_))
   refine A8 ?_
   refine R2 (xa3 sl36 (by omega) (by omega) rfl) rfl rfl (RE (xb3 (((p+q) / 2)) ti30 (xc4 (f:=tFa) (xs:=xs) (d:=fa0) (by omega)) (by omega)) ⟨rfl,trivial⟩ ⟨rfl,trivial⟩ trivial ?_)
   refine A2 ?_
   refine R2 (xa3 sl36 (by omega) (by omega) rfl) rfl rfl (RE (xb3 (a) ti30 (xc4 (f:=tFa) (xs:=xs) (d:=fa0) (by omega)) (by omega)) ⟨rfl,trivial⟩ ⟨rfl,trivial⟩ trivial (R3 (xm1 (c_told11 (xs.getD ((p+q) / 2) fa0) (xs.getD a fa0)) fi57 rfl) rfl rfl rfl ?_))
   refine A3 ?_
   refine x7 rfl (fun h390=> ?_) (fun h390=> ?_)
   ·
    refine A6 ?_
    have hc:=xm0.1 h390
    exact kF ((((p+q) / 2)+1,q)) ⟨(by dsimp only;exact ⟨by omega,by omega,hqh,fun t g1 g2=>by have:=hs2.le (i:=t) (j:=((p+q) / 2)) (by omega) (by omega) (by omega);omega,hg⟩),(by dsimp only;omega)⟩ (hg:=(sI ((Sub.consI rfl (Imp.int (by dsimp only;omega))) (sC (sI (sI (sI (sC Sub.nil)))))))) (hh:=((SubK.consI rfl ImpK.refl) SubK.nil))
   ·
    refine A5 ?_
    have hc:=fun hh=>h390 (xm0.2 hh)
    exact kF ((p,((p+q) / 2))) ⟨(by dsimp only;exact ⟨hlp,by omega,by omega,hf,fun t g1 g2=>by have:=hs2.le (i:=((p+q) / 2)) (j:=t) (by omega) (by omega) (by omega);have:=Int.not_lt.1 hc;omega⟩),(by dsimp only;omega)⟩ (hh:=((SubK.consI rfl ImpK.refl) SubK.nil))
  ·
   refine A13 ?_
   refine cL (fun (t:Nat)=>a+1+t≤p) (fun (t:Nat)=>upd (upd (upd (fun _=>none) 0 (some (.own (.sl 20 11 0 xs.length)))) 10 (some (.val (tI p)))) 13 (some (.val (tI ((a:Int)+(t:Int)))))) (fun (t:Nat)=>upd (fun _=>none) 20 (some (⟨30,11,true,rV tFa (rotR a (a+1) (a+1+t) xs)⟩))) [20] (fun (t:Nat)=>p - t) (0) (by omega) (hg:=((Sub.consI rfl (Imp.int (by simp))) (sI (sC Sub.nil)))) (hh:=((SubK.consI rfl (ImpK.of (by rw [rot_none2 fa0 (by omega) (by omega)]))) SubK.nil)) ?_
   intro t hI
   refine A9 ?_
   refine x7 rfl (fun h397=> ?_) (fun h397=> ?_)
   ·
    refine A13 ?_
    refine R2 (xa3 sl36 (by omega) (by omega) rfl) rfl rfl (RE (xb3 (a+t+1) ti30 (xc4 (f:=tFa) (xs:=(rotR a (a+1) (a+1+t) xs)) (d:=fa0) (by rw [xd2 (by omega) (by omega) (by omega)];omega)) (by omega)) ⟨rfl,trivial⟩ ⟨rfl,trivial⟩ trivial ?_)
    refine A2 ?_
    refine R2 (xa3 sl36 (by omega) (by omega) rfl) rfl rfl (RE (xb3 (a+t) ti30 (xc4 (f:=tFa) (xs:=(rotR a (a+1) (a+1+t) xs)) (d:=fa0) (by rw [xd2 (by omega) (by omega) (by omega)];omega)) (by omega)) ⟨rfl,trivial⟩ ⟨rfl,trivial⟩ trivial (R2 (xa3 sl36 (by omega) (by omega) rfl) rfl rfl (RE (xb8 (a+t) ti30 (rV_lt (by rw [xd2 (by omega) (by omega) (by omega)];omega)) (by omega) (xi6 (m:=((rotR a (a+1) (a+1+t) xs).getD (a+t+1) fa0)) rfl)) ⟨rfl,rfl,trivial⟩ ⟨rfl,trivial⟩ trivial (R2 (xa3 sl36 (by omega) (by omega) rfl) rfl rfl (RE (xb8 (a+t+1) ti30 (rV_lt (by rw [List.length_set,xd2 (by omega) (by omega) (by omega)];omega)) (by omega) (xi6 (m:=((rotR a (a+1) (a+1+t) xs).getD (a+t) fa0)) rfl)) ⟨rfl,rfl,trivial⟩ ⟨rfl,trivial⟩ trivial ?_)))))
    refine A8 ?_
    have hup:=rot_up (d:=fa0) (a:=a) (t:=t) (xs:=xs) (by omega)
    exact kF (t+1) ⟨(by omega),(by omega)⟩ (hg:=((Sub.consI rfl (Imp.int (by omega))) (sI (sC Sub.nil)))) (hh:=((SubK.consI rfl (ImpK.of (by rw [show a+1+(t+1)=a+2+t by omega,←hup];rfl))) SubK.nil))
   ·
    refine A7 ?_
    exact xj3 LentC.mk' rfl (.inl rfl) ⟨(congrArg some (show (⟨30,11,true,rV tFa (rotR a (a+1) (a+1+t) xs)⟩:HEnt)=⟨30,11,true,rV tFa (srtR Fa.kn a b xs)⟩ by have hm1:m=a+1:=(by omega);subst hm1;rw [show a+1+t=p by omega,merge_first hs2 h3 (by omega) (by omega) hf (fun t g1 g2=>hg t (by omega) g2)])),trivial⟩ ⟨⟨rfl,xa0⟩,trivial⟩ rfl
 ·
  refine A11 ?_
  refine x7 rfl (fun h406=> ?_) (fun h406=> ?_)
  ·
   refine A14 ?_
   refine cL (fun (fm:(Nat)×(Nat))=>(fun (p:Nat) (q:Nat)=>a≤p∧p≤q∧q≤m∧(∀t,a≤t→t < p→Fa.kn (xs.getD t fa0)≤Fa.kn (xs.getD m fa0))∧ ∀t,q≤t→t < m→Fa.kn (xs.getD m fa0) < Fa.kn (xs.getD t fa0)) fm.1 fm.2) (fun (fm:(Nat)×(Nat))=>(fun (p:Nat) (q:Nat)=>upd (upd (upd (upd (upd (upd (upd (fun _=>none) 0 (some (.own (.sl 20 11 0 xs.length)))) 1 (some (.val (tI a)))) 2 (some (.val (tI m)))) 3 (some (.val (tI b)))) 4 (some (.val (tE (.func (.func 57) #[] #[]))))) 14 (some (.val (tI p)))) 15 (some (.val (tI q)))) fm.1 fm.2) (fun (fm:(Nat)×(Nat))=>(fun (p:Nat) (q:Nat)=>upd (fun _=>none) 20 (some (⟨30,11,true,rV tFa xs⟩))) fm.1 fm.2) [20] (fun (fm:(Nat)×(Nat))=>(fun (p:Nat) (q:Nat)=>q - p) fm.1 fm.2) ((a,m)) (by dsimp only;exact ⟨Nat.le_refl _,by omega,Nat.le_refl _,fun t g1 g2=>by omega,fun t g1 g2=>by omega⟩) (hh:=((SubK.consI rfl ImpK.refl) SubK.nil)) ?_
   intro fm hI
   obtain ⟨p,q⟩:=fm
   replace hI:a≤p∧p≤q∧q≤m∧(∀t,a≤t→t < p→Fa.kn (xs.getD t fa0)≤Fa.kn (xs.getD m fa0))∧ ∀t,q≤t→t < m→Fa.kn (xs.getD m fa0) < Fa.kn (xs.getD t fa0):=hI
   show wc _ _ _ _ (upd (upd (upd (upd (upd (upd (upd (fun _=>none) 0 (some (.own (.sl 20 11 0 xs.length)))) 1 (some (.val (tI a)))) 2 (some (.val (tI m)))) 3 (some (.val (tI b)))) 4 (some (.val (tE (.func (.func 57) #[] #[]))))) 14 (some (.val (tI p)))) 15 (some (.val (tI q)))) (upd (fun _=>none) 20 (some (⟨30,11,true,rV tFa xs⟩))) _
   obtain ⟨hlp,hpq,hqh,hf,hg⟩:=hI
   refine A8 ?_
   refine x7 rfl (fun h412=> ?_) (fun h412=> ?_)
   ·
    refine A8 ?_
    refine R1 (x5 Tryz.underlying110 (isS Tryz.underlying3) (by first | exact wu64 (by omega) (by omega) | exact mu64)) rfl (R2 (xf5 (r:=((((p+q) / 2):Nat):Int)) (by decide) ((shrN (s:=1) rfl (by decide)).trans (by simp))) rfl rfl (R1 (x5 Tryz.underlying3 (isS Tryz.underlying110) (wr64 (by omega) (by omega))) rfl ?_))
    refine A8 ?_
    refine R2 (xa3 sl36 (by omega) (by omega) rfl) rfl rfl (RE (xb3 (m) ti30 (xc4 (f:=tFa) (xs:=xs) (d:=fa0) (by omega)) (by omega)) ⟨rfl,trivial⟩ ⟨rfl,trivial⟩ trivial ?_)
    refine A2 ?_
    refine R2 (xa3 sl36 (by omega) (by omega) rfl) rfl rfl (RE (xb3 (((p+q) / 2)) ti30 (xc4 (f:=tFa) (xs:=xs) (d:=fa0) (by omega)) (by omega)) ⟨rfl,trivial⟩ ⟨rfl,trivial⟩ trivial (R3 (xm1 (c_told11 (xs.getD m fa0) (xs.getD ((p+q) / 2) fa0)) fi57 rfl) rfl rfl rfl ?_))
    refine A4 ?_
    refine C_ifn rfl (fun h414=> ?_) (fun h414=> ?_)
    ·
     refine A6 ?_
     have hc:=fun hh=>h414 (xm0.2 hh)
     exact kF ((((p+q) / 2)+1,q)) ⟨(by dsimp only;exact ⟨by omega,by omega,hqh,fun t g1 g2=>by have:=hs1.le (i:=t) (j:=((p+q) / 2)) (by omega) (by omega) (by omega);have:=Int.not_lt.1 hc;omega,hg⟩),(by dsimp only;omega)⟩ (hg:=(sI ((Sub.consI rfl (Imp.int (by dsimp only;omega))) (sC (sI (sI (sI (sC Sub.nil)))))))) (hh:=((SubK.consI rfl ImpK.refl) SubK.nil))
    ·
     refine A5 ?_
     have hc:=xm0.1 h414
     exact kF ((p,((p+q) / 2))) ⟨(by dsimp only;exact ⟨hlp,by omega,by omega,hf,fun t g1 g2=>by have:=hs1.le (i:=((p+q) / 2)) (j:=t) (by omega) (by omega) (by omega);omega⟩),(by dsimp only;omega)⟩ (hh:=((SubK.consI rfl ImpK.refl) SubK.nil))
   ·
    refine A13 ?_
    refine cL (fun (t:Nat)=>p≤t∧t≤m) (fun (t:Nat)=>upd (upd (upd (fun _=>none) 0 (some (.own (.sl 20 11 0 xs.length)))) 14 (some (.val (tI p)))) 17 (some (.val (tI t)))) (fun (t:Nat)=>upd (fun _=>none) 20 (some (⟨30,11,true,rV tFa (rotR t m (m+1) xs)⟩))) [20] (fun (t:Nat)=>t) (m) ⟨by omega,Nat.le_refl _⟩ (hh:=((SubK.consI rfl (ImpK.of (by rw [rot_none1 fa0 (by omega) (by omega)]))) SubK.nil)) ?_
    intro t hI
    obtain ⟨ht1,ht2⟩:=hI
    refine A8 ?_
    refine x7 rfl (fun h421=> ?_) (fun h421=> ?_)
    ·
     refine A13 ?_
     refine R2 (xa3 sl36 (by omega) (by omega) rfl) rfl rfl (RE (xb3 (t - 1) ti30 (xc4 (f:=tFa) (xs:=(rotR t m (m+1) xs)) (d:=fa0) (by rw [xd2 (by omega) (by omega) (by omega)];omega)) (by omega)) ⟨rfl,trivial⟩ ⟨rfl,trivial⟩ trivial ?_)
     refine A2 ?_
     refine R2 (xa3 sl36 (by omega) (by omega) rfl) rfl rfl (RE (xb3 (t) ti30 (xc4 (f:=tFa) (xs:=(rotR t m (m+1) xs)) (d:=fa0) (by rw [xd2 (by omega) (by omega) (by omega)];omega)) (by omega)) ⟨rfl,trivial⟩ ⟨rfl,trivial⟩ trivial (R2 (xa3 sl36 (by omega) (by omega) rfl) rfl rfl (RE (xb8 (t) ti30 (rV_lt (by rw [xd2 (by omega) (by omega) (by omega)];omega)) (by omega) (xi6 (m:=((rotR t m (m+1) xs).getD (t - 1) fa0)) rfl)) ⟨rfl,rfl,trivial⟩ ⟨rfl,trivial⟩ trivial (R2 (xa3 sl36 (by omega) (by omega) rfl) rfl rfl (RE (xb8 (t - 1) ti30 (rV_lt (by rw [List.length_set,xd2 (by omega) (by omega) (by omega)];omega)) (by omega) (xi6 (m:=((rotR t m (m+1) xs).getD (t) fa0)) rfl)) ⟨rfl,rfl,trivial⟩ ⟨rfl,trivial⟩ trivial ?_)))))
     refine A8 ?_
     obtain ⟨j,rfl⟩: ∃j,t=j+1:=⟨t - 1,by omega⟩
     have hdn:=rot_down (d:=fa0) (j:=j) (m:=m) (xs:=xs) (by omega) (by omega)
     rw [swp1,List.set_comm _ _ (by omega)] at hdn
     exact kF (j) ⟨⟨by omega,by omega⟩,(by omega)⟩ (hg:=((Sub.consI rfl (Imp.int (by omega))) (sI (sC Sub.nil)))) (hh:=((SubK.consI rfl (ImpK.of (by rw [←hdn];rfl))) SubK.nil))
    ·
     refine A7 ?_
     exact xj3 LentC.mk' rfl (.inl rfl) ⟨(congrArg some (show (⟨30,11,true,rV tFa (rotR t m (m+1) xs)⟩:HEnt)=⟨30,11,true,rV tFa (srtR Fa.kn a b xs)⟩ by have hb1:b=m+1:=(by omega);subst hb1;rw [show t=p by omega,merge_last hs1 (by omega) (by omega) (by omega) hf (fun t g1 g2=>hg t (by omega) g2)])),trivial⟩ ⟨⟨rfl,xa0⟩,trivial⟩ rfl
  ·
   refine A7 ?_
   refine R1 (x5 Tryz.underlying110 (isS Tryz.underlying3) (by first | exact wu64 (by omega) (by omega) | exact mu64)) rfl (R2 (xf5 (r:=((((a+b) / 2):Nat):Int)) (by decide) ((shrN (s:=1) rfl (by decide)).trans (by simp))) rfl rfl (R1 (x5 Tryz.underlying3 (isS Tryz.underlying110) (wr64 (by omega) (by omega))) rfl ?_))
   refine A4 ?_
   obtain ⟨mid,hmid⟩: ∃mid,mid=((a+b) / 2):=⟨_,rfl⟩
   rw [←hmid]
   refine A13 ?_
   refine xg1 (fun (fm:(Nat)×(Nat))=>(fun (s0:Nat) (r0:Nat)=>((mid < m∧s0=mid+m - b∧r0=mid)∨(m≤mid∧s0=a∧r0=m))) fm.1 fm.2) (fun (fm:(Nat)×(Nat))=>(fun (s0:Nat) (r0:Nat)=>upd (upd (upd (upd (upd (upd (upd (upd (upd (fun _=>none) 0 (some (.own (.sl 20 11 0 xs.length)))) 1 (some (.val (tI a)))) 2 (some (.val (tI m)))) 3 (some (.val (tI b)))) 4 (some (.val (tE (.func (.func 57) #[] #[]))))) 18 (some (.val (tI mid)))) 19 (some (.val (tI ((mid:Int)+(m:Int)))))) 20 (some (.val (tI s0)))) 21 (some (.val (tI r0)))) fm.1 fm.2) (fun (fm:(Nat)×(Nat))=>(fun (s0:Nat) (r0:Nat)=>upd (fun _=>none) 20 (some (⟨30,11,true,rV tFa xs⟩))) fm.1 fm.2) (nm [20]) ?_ ?_
   ·
    refine A7 ?_
    refine x7 rfl (fun h430=> ?_) (fun h430=> ?_)
    ·
     refine A12 ?_
     exact kF ((mid+m - b,mid)) (by dsimp only;exact (.inl ⟨by omega,rfl,rfl⟩)) (hg:=(sI ((Sub.consI rfl (Imp.int (by dsimp only;omega))) (sI (sI (sC (sI (sI (sI (sC Sub.nil)))))))))) (hh:=((SubK.consI rfl ImpK.refl) SubK.nil))
    ·
     refine A10 ?_
     exact kF ((a,m)) (by dsimp only;exact (.inr ⟨by omega,rfl,rfl⟩)) (hh:=((SubK.consI rfl ImpK.refl) SubK.nil))
   ·
    intro fm hsr
    obtain ⟨s0,r0⟩:=fm
    replace hsr:((mid < m∧s0=mid+m - b∧r0=mid)∨(m≤mid∧s0=a∧r0=m)):=hsr
    show wc _ _ _ _ (upd (upd (upd (upd (upd (upd (upd (upd (upd (fun _=>none) 0 (some (.own (.sl 20 11 0 xs.length)))) 1 (some (.val (tI a)))) 2 (some (.val (tI m)))) 3 (some (.val (tI b)))) 4 (some (.val (tE (.func (.func 57) #[] #[]))))) 18 (some (.val (tI mid)))) 19 (some (.val (tI ((mid:Int)+(m:Int)))))) 20 (some (.val (tI s0)))) 21 (some (.val (tI r0)))) (upd (fun _=>none) 20 (some (⟨30,11,true,rV tFa xs⟩))) _
    refine A9 ?_
    refine cL (fun (fm:(Nat)×(Nat))=>(fun (s:Nat) (r:Nat)=>s0≤s∧s≤r∧r≤r0∧(∀t,s0≤t→t < s→Fa.kn (xs.getD t fa0)≤Fa.kn (xs.getD (mid+m - 1 - t) fa0))∧ ∀t,r≤t→t < r0→Fa.kn (xs.getD (mid+m - 1 - t) fa0) < Fa.kn (xs.getD t fa0)) fm.1 fm.2) (fun (fm:(Nat)×(Nat))=>(fun (s:Nat) (r:Nat)=>upd (upd (upd (upd (upd (upd (upd (upd (upd (upd (fun _=>none) 0 (some (.own (.sl 20 11 0 xs.length)))) 1 (some (.val (tI a)))) 2 (some (.val (tI m)))) 3 (some (.val (tI b)))) 4 (some (.val (tE (.func (.func 57) #[] #[]))))) 18 (some (.val (tI mid)))) 19 (some (.val (tI ((mid:Int)+(m:Int)))))) 20 (some (.val (tI s)))) 21 (some (.val (tI r)))) 22 (some (.val (tI ((mid:Int)+(m:Int) - 1))))) fm.1 fm.2) (fun (fm:(Nat)×(Nat))=>(fun (s:Nat) (r:Nat)=>upd (fun _=>none) 20 (some (⟨30,11,true,rV tFa xs⟩))) fm.1 fm.2) [20] (fun (fm:(Nat)×(Nat))=>(fun (s:Nat) (r:Nat)=>r - s) fm.1 fm.2) ((s0,r0)) (by dsimp only;exact ⟨Nat.le_refl _,by omega,Nat.le_refl _,fun t g1 g2=>by omega,fun t g1 g2=>by omega⟩) (hh:=((SubK.consI rfl ImpK.refl) SubK.nil)) ?_
    intro fm hI
    obtain ⟨s,r⟩:=fm
    replace hI:s0≤s∧s≤r∧r≤r0∧(∀t,s0≤t→t < s→Fa.kn (xs.getD t fa0)≤Fa.kn (xs.getD (mid+m - 1 - t) fa0))∧ ∀t,r≤t→t < r0→Fa.kn (xs.getD (mid+m - 1 - t) fa0) < Fa.kn (xs.getD t fa0):=hI
    show wc _ _ _ _ (upd (upd (upd (upd (upd (upd (upd (upd (upd (upd (fun _=>none) 0 (some (.own (.sl 20 11 0 xs.length)))) 1 (some (.val (tI a)))) 2 (some (.val (tI m)))) 3 (some (.val (tI b)))) 4 (some (.val (tE (.func (.func 57) #[] #[]))))) 18 (some (.val (tI mid)))) 19 (some (.val (tI ((mid:Int)+(m:Int)))))) 20 (some (.val (tI s)))) 21 (some (.val (tI r)))) 22 (some (.val (tI ((mid:Int)+(m:Int) - 1))))) (upd (fun _=>none) 20 (some (⟨30,11,true,rV tFa xs⟩))) _
    obtain ⟨hss,hsr1,hrr,hf,hg⟩:=hI
    refine A8 ?_
    refine x7 rfl (fun h439=> ?_) (fun h439=> ?_)
    ·
     refine A8 ?_
     refine R1 (x5 Tryz.underlying110 (isS Tryz.underlying3) (by first | exact wu64 (by omega) (by omega) | exact mu64)) rfl (R2 (xf5 (r:=((((s+r) / 2):Nat):Int)) (by decide) ((shrN (s:=1) rfl (by decide)).trans (by simp))) rfl rfl (R1 (x5 Tryz.underlying3 (isS Tryz.underlying110) (wr64 (by omega) (by omega))) rfl ?_))
     refine A10 ?_
     refine R2 (xa3 sl36 (by omega) (by omega) rfl) rfl rfl (RE (xb3 (mid+m - 1 - (s+r) / 2) ti30 (xc4 (f:=tFa) (xs:=xs) (d:=fa0) (by omega)) (by omega)) ⟨rfl,trivial⟩ ⟨rfl,trivial⟩ trivial ?_)
     refine A2 ?_
     refine R2 (xa3 sl36 (by omega) (by omega) rfl) rfl rfl (RE (xb3 ((s+r) / 2) ti30 (xc4 (f:=tFa) (xs:=xs) (d:=fa0) (by omega)) (by omega)) ⟨rfl,trivial⟩ ⟨rfl,trivial⟩ trivial (R3 (xm1 (c_told11 (xs.getD (mid+m - 1 - (s+r) / 2) fa0) (xs.getD ((s+r) / 2) fa0)) fi57 rfl) rfl rfl rfl ?_))
     refine A4 ?_
     refine C_ifn rfl (fun h441=> ?_) (fun h441=> ?_)
     ·
      refine A6 ?_
      have hc:=Int.not_lt.1 (fun hh=>h441 (xm0.2 hh))
      exact kF (((s+r) / 2+1,r)) ⟨(by dsimp only;exact ⟨by omega,by omega,hrr,fun t g1 g2=>by have q1:=hs1.le (i:=t) (j:=(s+r) / 2) (by omega) (by omega) (by omega);have q2:=hs2.le (i:=mid+m - 1 - (s+r) / 2) (j:=mid+m - 1 - t) (by omega) (by omega) (by omega);omega,hg⟩),(by dsimp only;omega)⟩ (hg:=(sI (sI ((Sub.consI rfl (Imp.int (by dsimp only;omega))) (sI (sI (sC (sI (sI (sI (sC Sub.nil))))))))))) (hh:=((SubK.consI rfl ImpK.refl) SubK.nil))
     ·
      refine A5 ?_
      have hc:=xm0.1 h441
      exact kF ((s,(s+r) / 2)) ⟨(by dsimp only;exact ⟨hss,by omega,by omega,hf,fun t g1 g2=>by have q1:=hs1.le (i:=(s+r) / 2) (j:=t) (by omega) (by omega) (by omega);have q2:=hs2.le (i:=mid+m - 1 - t) (j:=mid+m - 1 - (s+r) / 2) (by omega) (by omega) (by omega);omega⟩),(by dsimp only;omega)⟩ (hh:=((SubK.consI rfl ImpK.refl) SubK.nil))
    ·
     refine A6 ?_
     have hcut:=cut_of (s:=s) hab hmb hmid hs1 hs2 hsr hss (by omega) hf (fun c g1 g2=>hg c (by omega) g2)
     have hct1:=hcut.sm
     have hct2:=hcut.me
     have hct3:=hcut.eb
     have hct4:=hcut.la
     have hct5:=hcut.hm
     have hpr:=hcut.prt h3
     refine A7 ?_
     refine xg1 (fun (_j:Unit)=>True) (fun (_j:Unit)=>upd (upd (upd (upd (upd (upd (upd (upd (fun _=>none) 0 (some (.own (.sl 20 11 0 xs.length)))) 1 (some (.val (tI a)))) 2 (some (.val (tI m)))) 3 (some (.val (tI b)))) 4 (some (.val (tE (.func (.func 57) #[] #[]))))) 18 (some (.val (tI mid)))) 20 (some (.val (tI s)))) 24 (some (.val (tI ((mid+m - s:Nat):Int))))) (fun (_j:Unit)=>upd (fun _=>none) 20 (some (⟨30,11,true,rV tFa (rotR s m (mid+m - s) xs)⟩))) (nm [20]) ?_ ?_
     ·
      refine A6 ?_
      refine RGcaseD (t:=181) rfl (fun h449=> ?_) (fun h449=> ?_)
      ·
       refine A6 ?_
       refine x7 rfl (fun h449_2=> ?_) (fun h449_2=> ?_)
       ·
        refine A6 ?_
        refine RE (xa9 (fun _=>20) (c_rotateF xs rfl s m (mid+m - s) rfl rfl (by omega) (by omega) (by omega) (by omega) (by omega)) fi132 rfl (krC (ρ:=fun _=>20) (k:=20) xa5 (krN (ρ:=fun _=>20))) (krC (ρ:=fun _=>20) (k:=20) xa5 (krN (ρ:=fun _=>20))) ⟨⟨rfl,xa0⟩,trivial⟩ rfl) ⟨rfl,rfl,rfl,rfl,rfl,trivial⟩ ⟨rfl,trivial⟩ trivial ?_
        refine A1 ?_
        exact kF (()) trivial (hh:=((SubK.consI rfl ImpK.refl) SubK.nil))
       ·
        refine A1 ?_
        exact kF (()) trivial (hh:=((SubK.consI rfl (ImpK.of (by rw [show mid+m - s=m by omega,rot_none2 fa0 (by omega) (by omega)]))) SubK.nil))
      ·
       refine A8 ?_
       exact kF (()) trivial (hh:=((SubK.consI rfl (ImpK.of (by rw [show s=m by omega,rot_none1 fa0 (by omega) (by omega)]))) SubK.nil))
     ·
      intro _j hj449
      refine xg1 (fun (_j:Unit)=>True) (fun (_j:Unit)=>upd (upd (upd (upd (upd (upd (upd (upd (fun _=>none) 0 (some (.own (.sl 20 11 0 xs.length)))) 1 (some (.val (tI a)))) 2 (some (.val (tI m)))) 3 (some (.val (tI b)))) 4 (some (.val (tE (.func (.func 57) #[] #[]))))) 18 (some (.val (tI mid)))) 20 (some (.val (tI s)))) 24 (some (.val (tI ((mid+m - s:Nat):Int))))) (fun (_j:Unit)=>upd (fun _=>none) 20 (some (⟨30,11,true,rV tFa (srtR Fa.kn a mid (rotR s m (mid+m - s) xs))⟩))) (nm [20]) ?_ ?_
      ·
       refine A6 ?_
       refine RGcaseD (t:=195) rfl (fun h452=> ?_) (fun h452=> ?_)
       ·
        refine A6 ?_
        refine x7 rfl (fun h452_2=> ?_) (fun h452_2=> ?_)
        ·
         refine A6 ?_
         refine RE (xa9 (fun _=>20) (ih (rotR s m (mid+m - s) xs) a s mid hpr.len rfl rfl rfl (by omega) (by omega) (by rw [hpr.len];omega) (by rw [hpr.len];omega) (hcut.left1 h3 hs1) (hcut.left2 h3 hs2) (by omega)) fi105 rfl (krC (ρ:=fun _=>20) (k:=20) xa5 (krN (ρ:=fun _=>20))) (krC (ρ:=fun _=>20) (k:=20) xa5 (krN (ρ:=fun _=>20))) ⟨⟨rfl,xa0⟩,trivial⟩ rfl) ⟨rfl,rfl,rfl,rfl,rfl,trivial⟩ ⟨rfl,trivial⟩ trivial ?_
         refine A1 ?_
         exact kF (()) trivial (hh:=((SubK.consI rfl ImpK.refl) SubK.nil))
        ·
         refine A1 ?_
         exact kF (()) trivial (hh:=((SubK.consI rfl (ImpK.of (by rw [hcut.leftId h3 hs1 hs2 (by omega)]))) SubK.nil))
       ·
        refine A8 ?_
        exact kF (()) trivial (hh:=((SubK.consI rfl (ImpK.of (by rw [hcut.leftId h3 hs1 hs2 (by omega)]))) SubK.nil))
      ·
       intro _j hj452
       refine A1 ?_
       have hpr2:Prt Fa.kn fa0 a mid (rotR s m (mid+m - s) xs) (srtR Fa.kn a mid (rotR s m (mid+m - s) xs)):=xj9 (by omega) (by rw [hpr.len];omega)
       refine A5 ?_
       refine RGcaseD (t:=209) rfl (fun h455=> ?_) (fun h455=> ?_)
       ·
        refine A6 ?_
        refine x7 rfl (fun h455_2=> ?_) (fun h455_2=> ?_)
        ·
         refine A6 ?_
         refine RE (xa9 (fun _=>20) (ih (srtR Fa.kn a mid (rotR s m (mid+m - s) xs)) mid (mid+m - s) b (hpr2.len.trans hpr.len) rfl rfl rfl (by omega) (by omega) (by rw [hpr2.len,hpr.len];omega) (by rw [hpr2.len,hpr.len];omega) ((hcut.right1 h3 hs1).out hpr2 (.inr (Nat.le_refl _))) ((hcut.right2 h3 hs2).out hpr2 (.inr (by omega))) (by omega)) fi105 rfl (krC (ρ:=fun _=>20) (k:=20) xa5 (krN (ρ:=fun _=>20))) (krC (ρ:=fun _=>20) (k:=20) xa5 (krN (ρ:=fun _=>20))) ⟨⟨rfl,xa0⟩,trivial⟩ rfl) ⟨rfl,rfl,rfl,rfl,rfl,trivial⟩ ⟨rfl,trivial⟩ trivial ?_
         refine A1 ?_
         exact xj3 LentC.mk' rfl (.inr rfl) ⟨(congrArg some (show (⟨30,11,true,rV tFa (srtR Fa.kn mid b (srtR Fa.kn a mid (rotR s m (mid+m - s) xs)))⟩:HEnt)=⟨30,11,true,rV tFa (srtR Fa.kn a b xs)⟩ by rw [hcut.fin h3 hs1 hs2])),trivial⟩ ⟨⟨rfl,xa0⟩,trivial⟩ rfl
        ·
         refine A1 ?_
         exact xj3 LentC.mk' rfl (.inr rfl) ⟨(congrArg some (show (⟨30,11,true,rV tFa (srtR Fa.kn a mid (rotR s m (mid+m - s) xs))⟩:HEnt)=⟨30,11,true,rV tFa (srtR Fa.kn a b xs)⟩ by rw [←hcut.fin h3 hs1 hs2,hcut.rightId h3 hs1 hs2 (by omega)])),trivial⟩ ⟨⟨rfl,xa0⟩,trivial⟩ rfl
       ·
        refine A8 ?_
        exact xj3 LentC.mk' rfl (.inr rfl) ⟨(congrArg some (show (⟨30,11,true,rV tFa (srtR Fa.kn a mid (rotR s m (mid+m - s) xs))⟩:HEnt)=⟨30,11,true,rV tFa (srtR Fa.kn a b xs)⟩ by rw [←hcut.fin h3 hs1 hs2,hcut.rightId h3 hs1 hs2 (by omega)])),trivial⟩ ⟨⟨rfl,xa0⟩,trivial⟩ rfl
theorem symIH_allF: ∀n,SymIHF n
 | 0=>fun xs a m b L x y u eL ex ey eu h1 h2 h3 h4 h5 h6 h7=>absurd h7 (Nat.not_lt_zero _)
 | n+1=>fun xs a m b L x y u eL ex ey eu h1 h2 h3 h4 h5 h6 h7=>c_symStepF n (symIH_allF n) xs a m b eL ex ey eu h1 h2 h3 h4 h5 h6 (by omega)
theorem c_symF (xs:List Fa) (a m b:Nat) {L:Nat} {x y u:Int} (eL:xs.length=L) (ex:x=(a:Int)) (ey:y=(m:Int)) (eu:u=(b:Int)) (h1:a < m) (h2:m < b) (h3:b≤xs.length) (h4:xs.length≤1000000) (h5:SrtP Fa.kn fa0 a m xs) (h6:SrtP Fa.kn fa0 m b xs):CtG Tryz.prog 105 [(20,⟨30,11,true,rV tFa xs⟩)] [.own (.sl 20 11 0 L),.val (tI x),.val (tI y),.val (tI u),.val (tE (.func (.func 57) #[] #[]))] (.val (tT [])) [(20,⟨30,11,true,rV tFa (srtR Fa.kn a b xs)⟩)] []:=
 symIH_allF (b - a+1) xs a m b eL ex ey eu h1 h2 h3 h4 h5 h6 (Nat.lt_succ_self _)
theorem c_stableF (xs:List Fa) {L:Nat} (eL:xs.length=L) {x:Int} (ex:x=(xs.length:Int)) (hx:xs.length≤1000000):
  CtG Tryz.prog 85 [(20,⟨30,11,true,rV tFa xs⟩)] [.own (.sl 20 11 0 L),.val (tI x),.val (tE (.func (.func 57) #[] #[]))] (.val (tT [])) [(20,⟨30,11,true,rV tFa (ssort Fa.kn xs)⟩)] []:=by
 subst ex eL
 refine CtG.intro [20] Tryz.func85 rfl Tryz.ntmps85 rfl rfl ⟨⟨rfl,xa0⟩,trivial⟩ ?_
 intro w F η
 refine A14 ?_
 refine cL (fun (fm:(List Fa)×(Nat))=>(fun (ys:List Fa) (c:Nat)=>ys.length=xs.length∧c*20≤xs.length∧Prt Fa.kn fa0 0 xs.length xs ys∧BlkA Fa.kn fa0 20 c ys) fm.1 fm.2) (fun (fm:(List Fa)×(Nat))=>(fun (ys:List Fa) (c:Nat)=>upd (upd (upd (upd (upd (upd (fun _=>none) 0 (some (.own (.sl 20 11 0 xs.length)))) 1 (some (.val (tI xs.length)))) 2 (some (.val (tE (.func (.func 57) #[] #[]))))) 6 (some (.val (tI 20)))) 7 (some (.val (tI ((c*20:Nat):Int))))) 8 (some (.val (tI ((c*20+20:Nat):Int))))) fm.1 fm.2) (fun (fm:(List Fa)×(Nat))=>(fun (ys:List Fa) (c:Nat)=>upd (fun _=>none) 20 (some (⟨30,11,true,rV tFa ys⟩))) fm.1 fm.2) [20] (fun (fm:(List Fa)×(Nat))=>(fun (ys:List Fa) (c:Nat)=>xs.length - c*20) fm.1 fm.2) ((xs,0)) (by dsimp only;exact ⟨rfl,by omega,Prt.refl ..,blkA_zero⟩) (hh:=((SubK.consI rfl ImpK.refl) SubK.nil)) ?_
 intro fm hI
 obtain ⟨ys,c⟩:=fm
 replace hI:ys.length=xs.length∧c*20≤xs.length∧Prt Fa.kn fa0 0 xs.length xs ys∧BlkA Fa.kn fa0 20 c ys:=hI
 show wc _ _ _ _ (upd (upd (upd (upd (upd (upd (fun _=>none) 0 (some (.own (.sl 20 11 0 xs.length)))) 1 (some (.val (tI xs.length)))) 2 (some (.val (tE (.func (.func 57) #[] #[]))))) 6 (some (.val (tI 20)))) 7 (some (.val (tI ((c*20:Nat):Int))))) 8 (some (.val (tI ((c*20+20:Nat):Int))))) (upd (fun _=>none) 20 (some (⟨30,11,true,rV tFa ys⟩))) _
 obtain ⟨hl,hc,hp,hb⟩:=hI
 refine A8 ?_
 refine x7 rfl (fun h338=> ?_) (fun h338=> ?_)
 ·
  refine A9 ?_
  refine RE (xa9 (fun _=>20) (c_insSortF ys hl (c*20) (c*20+20) rfl rfl (by omega) (by omega) (by omega)) fi104 rfl (krC (ρ:=fun _=>20) (k:=20) xa5 (krN (ρ:=fun _=>20))) (krC (ρ:=fun _=>20) (k:=20) xa5 (krN (ρ:=fun _=>20))) ⟨⟨rfl,xa0⟩,trivial⟩ rfl) ⟨rfl,rfl,rfl,rfl,trivial⟩ ⟨rfl,trivial⟩ trivial ?_
  refine A15 ?_
  have hq:Prt Fa.kn fa0 (c*20) (c*20+20) ys (srtR Fa.kn (c*20) (c*20+20) ys):=xj9 (by omega) (by omega)
  exact kF (((srtR Fa.kn (c*20) (c*20+20) ys),c+1)) ⟨(by dsimp only;exact ⟨hq.len.trans hl,by omega,hp.trans (hq.mono (by omega) (by omega)),blkA_next hb hq (xo6 (by omega) (by omega))⟩),(by dsimp only;omega)⟩ (hg:=((Sub.consI rfl (Imp.int (by dsimp only;omega))) ((Sub.consI rfl (Imp.int (by dsimp only;omega))) (sI (sC (sI (sC Sub.nil))))))) (hh:=((SubK.consI rfl ImpK.refl) SubK.nil))
 ·
  refine A6 ?_
  have hq:Prt Fa.kn fa0 (c*20) xs.length ys (srtR Fa.kn (c*20) xs.length ys):=xj9 (by omega) (by omega)
  refine A5 ?_
  refine RE (xa9 (fun _=>20) (c_insSortF ys hl (c*20) xs.length rfl rfl (by omega) (by omega) (by omega)) fi104 rfl (krC (ρ:=fun _=>20) (k:=20) xa5 (krN (ρ:=fun _=>20))) (krC (ρ:=fun _=>20) (k:=20) xa5 (krN (ρ:=fun _=>20))) ⟨⟨rfl,xa0⟩,trivial⟩ rfl) ⟨rfl,rfl,rfl,rfl,trivial⟩ ⟨rfl,trivial⟩ trivial ?_
  refine A3 ?_
  refine cL (fun (fm:(List Fa)×(Nat))=>(fun (zs:List Fa) (w:Nat)=>zs.length=xs.length∧20≤w∧w≤2*xs.length+20∧Prt Fa.kn fa0 0 xs.length xs zs∧BlkP Fa.kn fa0 w xs.length zs) fm.1 fm.2) (fun (fm:(List Fa)×(Nat))=>(fun (zs:List Fa) (w:Nat)=>upd (upd (upd (upd (fun _=>none) 0 (some (.own (.sl 20 11 0 xs.length)))) 1 (some (.val (tI xs.length)))) 2 (some (.val (tE (.func (.func 57) #[] #[]))))) 6 (some (.val (tI w)))) fm.1 fm.2) (fun (fm:(List Fa)×(Nat))=>(fun (zs:List Fa) (w:Nat)=>upd (fun _=>none) 20 (some (⟨30,11,true,rV tFa zs⟩))) fm.1 fm.2) [20] (fun (fm:(List Fa)×(Nat))=>(fun (zs:List Fa) (w:Nat)=>xs.length - w) fm.1 fm.2) (((srtR Fa.kn (c*20) xs.length ys),20)) (by dsimp only;exact ⟨hq.len.trans hl,Nat.le_refl _,by omega,hp.trans (hq.mono (by omega) (Nat.le_refl _)),blkP_of hb (by omega) hq (xo6 (by omega) (by omega))⟩) (hh:=((SubK.consI rfl ImpK.refl) SubK.nil)) ?_
  intro fm hI
  obtain ⟨zs,w⟩:=fm
  replace hI:zs.length=xs.length∧20≤w∧w≤2*xs.length+20∧Prt Fa.kn fa0 0 xs.length xs zs∧BlkP Fa.kn fa0 w xs.length zs:=hI
  show wc _ _ _ _ (upd (upd (upd (upd (fun _=>none) 0 (some (.own (.sl 20 11 0 xs.length)))) 1 (some (.val (tI xs.length)))) 2 (some (.val (tE (.func (.func 57) #[] #[]))))) 6 (some (.val (tI w)))) (upd (fun _=>none) 20 (some (⟨30,11,true,rV tFa zs⟩))) _
  obtain ⟨hzl,hw0,hw1,hzp,hzb⟩:=hI
  refine A8 ?_
  refine x7 rfl (fun h345=> ?_) (fun h345=> ?_)
  ·
   refine A6 ?_
   refine R2 (xg5 (wr64 (by omega) (by omega))) rfl rfl ?_
   refine A6 ?_
   refine cL (fun (fm:(List Fa)×(Nat))=>(fun (us:List Fa) (v:Nat)=>us.length=xs.length∧(v*(2*w))≤xs.length∧Prt Fa.kn fa0 0 xs.length xs us∧BlkA Fa.kn fa0 (2*w) v us∧BlkR Fa.kn fa0 w xs.length (v*(2*w)) us) fm.1 fm.2) (fun (fm:(List Fa)×(Nat))=>(fun (us:List Fa) (v:Nat)=>upd (upd (upd (upd (upd (upd (fun _=>none) 0 (some (.own (.sl 20 11 0 xs.length)))) 1 (some (.val (tI xs.length)))) 2 (some (.val (tE (.func (.func 57) #[] #[]))))) 6 (some (.val (tI w)))) 7 (some (.val (tI (((v*(2*w)):Nat):Int))))) 8 (some (.val (tI (((v*(2*w))+2*w:Nat):Int))))) fm.1 fm.2) (fun (fm:(List Fa)×(Nat))=>(fun (us:List Fa) (v:Nat)=>upd (fun _=>none) 20 (some (⟨30,11,true,rV tFa us⟩))) fm.1 fm.2) [20] (fun (fm:(List Fa)×(Nat))=>(fun (us:List Fa) (v:Nat)=>xs.length - (v*(2*w))) fm.1 fm.2) ((zs,0)) (by dsimp only;exact ⟨hzl,by omega,hzp,blkA_zero,by rw [Nat.zero_mul];exact blkP_R hzb⟩) (hg:=((Sub.consI rfl (Imp.int (by dsimp only;omega))) ((Sub.consI rfl (Imp.int (by dsimp only;omega))) (sI (sC (sI (sC Sub.nil))))))) (hh:=((SubK.consI rfl ImpK.refl) SubK.nil)) ?_
   intro fm hI
   obtain ⟨us,v⟩:=fm
   replace hI:us.length=xs.length∧(v*(2*w))≤xs.length∧Prt Fa.kn fa0 0 xs.length xs us∧BlkA Fa.kn fa0 (2*w) v us∧BlkR Fa.kn fa0 w xs.length (v*(2*w)) us:=hI
   show wc _ _ _ _ (upd (upd (upd (upd (upd (upd (fun _=>none) 0 (some (.own (.sl 20 11 0 xs.length)))) 1 (some (.val (tI xs.length)))) 2 (some (.val (tE (.func (.func 57) #[] #[]))))) 6 (some (.val (tI w)))) 7 (some (.val (tI (((v*(2*w)):Nat):Int))))) 8 (some (.val (tI (((v*(2*w))+2*w:Nat):Int))))) (upd (fun _=>none) 20 (some (⟨30,11,true,rV tFa us⟩))) _
   obtain ⟨hul,hvn,hup,huA,huR⟩:=hI
   have hat:=fun hh=>huR.at (u:=v) (Nat.le_refl _) hh
   refine A8 ?_
   refine x7 rfl (fun h347=> ?_) (fun h347=> ?_)
   ·
    refine A12 ?_
    refine RE (xa9 (fun _=>20) (c_symF us (v*(2*w)) ((v*(2*w))+w) ((v*(2*w))+2*w) hul rfl (by omega) (by omega) (by omega) (by omega) (by omega) (by omega) (hat (by omega)).1 ((hat (by omega)).2.sub (Nat.le_refl _) (by omega))) fi105 rfl (krC (ρ:=fun _=>20) (k:=20) xa5 (krN (ρ:=fun _=>20))) (krC (ρ:=fun _=>20) (k:=20) xa5 (krN (ρ:=fun _=>20))) ⟨⟨rfl,xa0⟩,trivial⟩ rfl) ⟨rfl,rfl,rfl,rfl,rfl,trivial⟩ ⟨rfl,trivial⟩ trivial ?_
    refine A11 ?_
    refine R2 (xg5 (wr64 (by omega) (by omega))) rfl rfl ?_
    refine A4 ?_
    have hq3:Prt Fa.kn fa0 (v*(2*w)) ((v*(2*w))+2*w) us (srtR Fa.kn (v*(2*w)) ((v*(2*w))+2*w) us):=xj9 (by omega) (by omega)
    have hsm:(v+1)*(2*w)=(v*(2*w))+2*w:=Nat.succ_mul v (2*w)
    exact kF (((srtR Fa.kn (v*(2*w)) ((v*(2*w))+2*w) us),v+1)) ⟨(by dsimp only;exact ⟨hq3.len.trans hul,by omega,hup.trans (hq3.mono (by omega) (by omega)),blkA_next huA hq3 (xo6 (by omega) (by omega)),huR.next hq3 (by omega) (by omega)⟩),(by dsimp only;omega)⟩ (hg:=((Sub.consI rfl (Imp.int (by dsimp only;omega))) ((Sub.consI rfl (Imp.int (by dsimp only;omega))) (sI (sC (sI (sC Sub.nil))))))) (hh:=((SubK.consI rfl ImpK.refl) SubK.nil))
   ·
    refine A18 ?_
    refine A3 ?_
    refine x7 rfl (fun h352=> ?_) (fun h352=> ?_)
    ·
     refine A6 ?_
     refine RE (xa9 (fun _=>20) (c_symF us (v*(2*w)) ((v*(2*w))+w) xs.length hul rfl (by omega) rfl (by omega) (by omega) (by omega) (by omega) (hat (by omega)).1 ((hat (by omega)).2.sub (Nat.le_refl _) (by omega))) fi105 rfl (krC (ρ:=fun _=>20) (k:=20) xa5 (krN (ρ:=fun _=>20))) (krC (ρ:=fun _=>20) (k:=20) xa5 (krN (ρ:=fun _=>20))) ⟨⟨rfl,xa0⟩,trivial⟩ rfl) ⟨rfl,rfl,rfl,rfl,rfl,trivial⟩ ⟨rfl,trivial⟩ trivial ?_
     refine A4 ?_
     refine R2 (xg5 (wr64 (by omega) (by omega))) rfl rfl ?_
     refine A3 ?_
     have hq5:Prt Fa.kn fa0 (v*(2*w)) xs.length us (srtR Fa.kn (v*(2*w)) xs.length us):=xj9 (by omega) (by omega)
     exact kF (((srtR Fa.kn (v*(2*w)) xs.length us),2*w)) ⟨(by dsimp only;exact ⟨hq5.len.trans hul,by omega,by omega,hup.trans (hq5.mono (by omega) (Nat.le_refl _)),blkP_of huA (by omega) hq5 (xo6 (by omega) (by omega))⟩),(by dsimp only;omega)⟩ (hg:=((Sub.consI rfl (Imp.int (by dsimp only;omega))) (sC (sI (sC Sub.nil))))) (hh:=((SubK.consI rfl ImpK.refl) SubK.nil))
    ·
     refine A4 ?_
     refine R2 (xg5 (wr64 (by omega) (by omega))) rfl rfl ?_
     refine A3 ?_
     exact kF ((us,2*w)) ⟨(by dsimp only;exact ⟨hul,by omega,by omega,hup,blkP_end huA (by omega) (huR.one (Nat.le_refl _) (by omega))⟩),(by dsimp only;omega)⟩ (hg:=((Sub.consI rfl (Imp.int (by dsimp only;omega))) (sC (sI (sC Sub.nil))))) (hh:=((SubK.consI rfl ImpK.refl) SubK.nil))
  ·
   refine A4 ?_
   exact xj3 LentC.mk' rfl (.inr rfl) ⟨(congrArg some (show (⟨30,11,true,rV tFa zs⟩:HEnt)=⟨30,11,true,rV tFa (ssort Fa.kn xs)⟩ by rw [srtR_of (Nat.zero_le _) (Nat.le_refl _) hzp (blkP_all hzb (by omega)),srtR_all])),trivial⟩ ⟨⟨rfl,xa0⟩,trivial⟩ rfl
theorem c_sortStableF (xs:List Fa) {L:Nat} (eL:xs.length=L) (hx:xs.length≤1000000):
  CtG Tryz.prog 56 [(20,⟨30,11,true,rV tFa xs⟩)] [.own (.sl 20 11 0 L),.val (tE (.func (.func 57) #[] #[]))] (.val (tT [])) [(20,⟨30,11,true,rV tFa (ssort Fa.kn xs)⟩)] []:=by
 subst eL
 refine CtG.intro [20] Tryz.func56 rfl Tryz.ntmps56 rfl rfl ⟨⟨rfl,xa0⟩,trivial⟩ ?_
 intro w F η
 refine A5 ?_
 refine RE (xa9 (fun _=>20) (c_stableF xs rfl rfl hx) fi85 rfl (krC (ρ:=fun _=>20) (k:=20) xa5 (krN (ρ:=fun _=>20))) (krC (ρ:=fun _=>20) (k:=20) xa5 (krN (ρ:=fun _=>20))) ⟨⟨rfl,xa0⟩,trivial⟩ rfl) ⟨rfl,rfl,rfl,trivial⟩ ⟨rfl,trivial⟩ trivial ?_
 refine A1 ?_
 exact xj3 LentC.mk' rfl (.inr rfl) ⟨rfl,trivial⟩ ⟨⟨rfl,xa0⟩,trivial⟩ rfl
end An.S
namespace An
open Go
structure Kw where
  p:Dom→World→Prop
  mono: ∀{F F':Dom} {w w':World},p F w→Keep F F' w w'→p F' w'
def tKG (K:Kw) (t:Ty):Ty:=⟨fun F w v=>t.p F w v∧K.p F w,fun h hk=>⟨t.mono h.1 hk,K.mono h.2 hk⟩⟩
instance {K:Kw} {t:Ty} {n:Nat} {agg:Bool} [h:Shape t n agg]:Shape (tKG K t) n agg:=⟨fun hp=>h.flat hp.1⟩
section
variable {P:Program} {c:Base} {g:Slots} {h:Keys} {al:Names} {d ty:Nat} {pos:String} {af:Array Edge} {gd:Option (Nat×Bool)} {Q:Exit→Act→World→Prop}
end
section
variable {P:Program} {c:Base} {d ty:Nat} {pos:String} {af:Array Edge} {gd:Option (Nat×Bool)}
end
end An
namespace An
def lens:List Int:=[31,28,31,30,31,30,31,31,30,31,30,31]
end An
namespace An.S
open Go
def fstI (n:Nat) (f:Nat→Bool):Nat:=((List.range n).takeWhile fun i=> !f i).length
theorem fst_is {n p:Nat} {f:Nat→Bool} (hp:p≤n) (h1: ∀i,i < p→f i=false) (h2:p < n→f p=true):fstI n f=p:=by
 have e:List.range n=List.range p++(List.range (n - p)).map (p+ ·):=by
  rw [←List.range_add];congr 1;omega
 rw [fstI,e,List.takeWhile_append_of_pos fun i hi=>by rw [h1 i (List.mem_range.1 hi)];rfl]
 cases hm:n - p with
 | zero=>simp
 | succ m=>
  rw [List.range_succ_eq_map,List.map_cons,List.takeWhile_cons,if_neg (by rw [Nat.add_zero,h2 (by omega)];simp)]
  simp
theorem fst_spec (n:Nat) (f:Nat→Bool):fstI n f≤n∧(∀i,i < fstI n f→f i=false)∧(fstI n f < n→f (fstI n f)=true):=by
 have ex: ∃p,p≤n∧(∀i,i < p→f i=false)∧(p < n→f p=true):=by
  induction n with
  | zero=>exact ⟨0,Nat.le_refl _,fun i hi=>by omega,fun h=>by omega⟩
  | succ n ih=>
   obtain ⟨p,h1,h2,h3⟩:=ih
   rcases Nat.lt_or_ge p n with h4 | h4
   ·exact ⟨p,by omega,h2,fun _=>h3 h4⟩
   ·have e:p=n:=by omega
    subst e
    cases hf:f p with
    | true=>exact ⟨p,by omega,h2,fun _=>hf⟩
    | false=>exact ⟨p+1,Nat.le_refl _,fun i hi=>by
      rcases Nat.lt_or_ge i p with h5 | h5
      ·exact h2 i h5
      ·rw [show i=p by omega];exact hf,fun h=>by omega⟩
 obtain ⟨p,h1,h2,h3⟩:=ex
 rw [fst_is h1 h2 h3];exact ⟨h1,h2,h3⟩
def onF (d:Int) (f:Fa):Bool:=decide (f.lo≤d) && decide (d < f.hi)
theorem onF_iff {d:Int} {f:Fa}:onF d f=true↔f.lo≤d∧d < f.hi:=by simp [onF]
def lastF (T:List Fa) (d:Int):Option Fa:=(T.filter (onF d)).getLast?
theorem lastF_app {T:List Fa} {f:Fa} {d:Int}:lastF (T++[f]) d=if onF d f=true then some f else lastF T d:=by
 rw [lastF,List.filter_append,List.filter_cons]
 split
 ·simp
 ·simp [lastF]
theorem xq7 {T:List Fa} {i:Nat} {d:Int} (hi:i < T.length):lastF (T.take (i+1)) d=if onF d (T.getD i fa0)=true then some (T.getD i fa0) else lastF (T.take i) d:=by
 rw [List.take_succ_eq_append_getElem hi,lastF_app,List.getD_eq_getElem?_getD,List.getElem?_eq_getElem hi];rfl
theorem xn5 {T:List Fa} {d:Int} {f:Fa} (h:lastF T d=some f):f∈T∧f.lo≤d∧d < f.hi:=by
 have h1:=List.mem_of_getLast? h
 obtain ⟨h2,h3⟩:=List.mem_filter.1 h1
 exact ⟨h2,onF_iff.1 h3⟩
def valF (o:Option Fa):Option Va:=match o with
 | none=>none
 | some f=>if f.gone=true then none else some f.v
def gF (T:List Fa) (d:Int):Option Va:=valF (lastF T d)
def edF (T:List Fa):List Int:=T.flatMap fun f=>[f.lo,f.hi]
def bdF (T:List Fa):List Int:=brd (edF T)
theorem edF_len {T:List Fa}:(edF T).length=2*T.length:=by
 induction T with
 | nil=>rfl
 | cons s r ih=>rw [edF,List.flatMap_cons,List.length_append,←edF,ih];simp;omega
theorem edF_snoc {T:List Fa} {i:Nat} (hi:i < T.length):edF (T.take (i+1))=edF (T.take i)++[(T.getD i fa0).lo,(T.getD i fa0).hi]:=by
 rw [List.take_succ_eq_append_getElem hi,edF,List.flatMap_append,List.getD_eq_getElem?_getD,List.getElem?_eq_getElem hi];simp [edF]
theorem xi7 {T:List Fa}:(bdF T).Pairwise (· < ·):=(xp2 _).1
theorem bdF_len {T:List Fa}:(bdF T).length≤2*T.length:=by rw [←edF_len];exact brd_len _
theorem bdF_mem {T:List Fa} {x:Int}:x∈bdF T↔ ∃f∈T,x=f.lo∨x=f.hi:=by
 rw [bdF,(xp2 _).2,edF,List.mem_flatMap];simp
def ixD (ds:List Int) (x:Int):Nat:=fstI ds.length fun i=>decide (x≤ds.getD i 0)
theorem ixD_le {ds:List Int} {x:Int}:ixD ds x≤ds.length:=(fst_spec _ _).1
theorem ixD_lt {ds:List Int} {x:Int} (h:ds.Pairwise (· < ·)) {p:Nat} (hp:p < ds.length):p < ixD ds x↔ds.getD p 0 < x:=by
 obtain ⟨h1,h2,h3⟩:=fst_spec ds.length fun i=>decide (x≤ds.getD i 0)
 constructor
 ·intro hlt
  have:=of_decide_eq_false (h2 p hlt)
  omega
 ·intro hlt
  rcases Nat.lt_or_ge p (ixD ds x) with h4 | h4
  ·exact h4
  ·have h5:=of_decide_eq_true (h3 (by rw [ixD] at h4;omega))
   rw [←ixD] at h5
   rcases Nat.lt_or_ge (ixD ds x) p with h6 | h6
   ·have:=pw_lt h h6 hp;omega
   ·have e:p=ixD ds x:=by omega
    rw [←e] at h5;omega
theorem ixD_on {ds:List Int} (h:ds.Pairwise (· < ·)) {f:Fa} {p:Nat} (hp:p < ds.length):onF (ds.getD p 0) f=true↔ixD ds f.lo≤p∧p < ixD ds f.hi:=by
 have h1:=ixD_lt (x:=f.lo) h hp
 have h2:=ixD_lt (x:=f.hi) h hp
 rw [onF_iff]
 constructor
 ·intro hh;exact ⟨Nat.not_lt.1 fun hc=>by have:=h1.1 hc;omega,h2.2 hh.2⟩
 ·intro hh;exact ⟨Int.not_lt.1 fun hc=>by have:=h1.2 hc;omega,h2.1 hh.2⟩
def rowL (T:List Fa) (ds:List Int) (i p:Nat):List (Option Fa):=(ds.take p).map (lastF (T.take (i+1)))++(ds.drop p).map (lastF (T.take i))
def rowA (T:List Fa) (ds:List Int) (i:Nat):List (Option Fa):=ds.map (lastF (T.take i))
theorem rowA_len {T:List Fa} {ds:List Int} {i:Nat}:(rowA T ds i).length=ds.length:=by simp [rowA]
theorem xh5 {T:List Fa} {ds:List Int} {i p:Nat}:(rowL T ds i p).length=ds.length:=by
 rw [rowL,List.length_append,List.length_map,List.length_map,←List.length_append,List.take_append_drop]
theorem rowA_get {T:List Fa} {ds:List Int} {i p:Nat} (hp:p < ds.length):(rowA T ds i).getD p none=lastF (T.take i) (ds.getD p 0):=by
 rw [rowA,List.getD_eq_getElem?_getD,List.getElem?_map,List.getElem?_eq_getElem hp,List.getD_eq_getElem?_getD,List.getElem?_eq_getElem hp];rfl
theorem rowA_zero {T:List Fa} {ds:List Int}:rowA T ds 0=List.replicate ds.length none:=by
 rw [rowA,List.take_zero]
 apply List.ext_getElem (by simp)
 intro i h1 h2
 simp [lastF]
theorem rowL_get {T:List Fa} {ds:List Int} {i p q:Nat} (hq:q < ds.length):(rowL T ds i p).getD q none=if q < p then lastF (T.take (i+1)) (ds.getD q 0) else lastF (T.take i) (ds.getD q 0):=by
 rw [rowL,List.getD_eq_getElem?_getD,List.getElem?_append,List.length_map,List.length_take,List.getElem?_map,List.getElem?_map,List.getElem?_take,List.getElem?_drop]
 have e:ds.getD q 0=ds[q]:=by rw [List.getD_eq_getElem?_getD,List.getElem?_eq_getElem hq];rfl
 rw [e]
 by_cases h:q < p
 ·rw [if_pos (by omega),if_pos h,if_pos h,List.getElem?_eq_getElem hq];rfl
 ·rw [if_neg (by omega),if_neg h,show p+(q - min p ds.length)=q by omega,List.getElem?_eq_getElem hq];rfl
theorem row_ext {xs ys:List (Option Fa)} (hl:xs.length=ys.length) (h: ∀q,q < xs.length→xs.getD q none=ys.getD q none):xs=ys:=xf0 hl h
theorem rowL_begin {T:List Fa} {ds:List Int} (h:ds.Pairwise (· < ·)) {i:Nat} (hi:i < T.length):rowL T ds i (ixD ds (T.getD i fa0).lo)=rowA T ds i:=by
 refine row_ext (by rw [xh5,rowA_len]) fun q hq=> ?_
 rw [xh5] at hq
 rw [rowL_get hq,rowA_get hq]
 split
 ·next hp=>rw [xq7 hi,if_neg (fun hh=>by have:=(ixD_on h hq).1 hh;omega)]
 ·rfl
theorem rowL_end {T:List Fa} {ds:List Int} (h:ds.Pairwise (· < ·)) {i p:Nat} (hi:i < T.length) (_h1:ixD ds (T.getD i fa0).lo≤p) (h2:ixD ds (T.getD i fa0).hi≤p):rowL T ds i p=rowA T ds (i+1):=by
 refine row_ext (by rw [xh5,rowA_len]) fun q hq=> ?_
 rw [xh5] at hq
 rw [rowL_get hq,rowA_get hq]
 split
 ·rfl
 ·next hp=>rw [xq7 hi,if_neg (fun hh=>by have:=(ixD_on h hq).1 hh;omega)]
theorem rowL_set {T:List Fa} {ds:List Int} (h:ds.Pairwise (· < ·)) {i p:Nat} (hi:i < T.length) (hp:p < ds.length) (h1:ixD ds (T.getD i fa0).lo≤p) (h2:p < ixD ds (T.getD i fa0).hi):(rowL T ds i p).set p (some (T.getD i fa0))=rowL T ds i (p+1):=by
 refine row_ext (by rw [List.length_set,xh5,xh5]) fun q hq=> ?_
 rw [List.length_set,xh5] at hq
 rw [getD_set (by rw [xh5];exact hp),rowL_get hq,rowL_get hq]
 by_cases hqp:q=p
 ·subst hqp
  rw [if_pos rfl,if_pos (by omega),xq7 hi,if_pos ((ixD_on h hq).2 ⟨h1,h2⟩)]
 ·rw [if_neg hqp]
  by_cases hlt:q < p
  ·rw [if_pos hlt,if_pos (by omega)]
  ·rw [if_neg hlt,if_neg (by omega)]
def vwK (T:List Fa) (k:Nat):List Tst:=pst [] (segN (gF T) (bdF T) k)
def vwT (T:List Fa):List Tst:=pst [] (segL (gF T) (bdF T))
theorem lastF_end {T:List Fa} {p:Nat} {f:Fa} (h:lastF T ((bdF T).getD p 0)=some f) (hp:p < (bdF T).length):p+1 < (bdF T).length:=by
 obtain ⟨h1,h2,h3⟩:=xn5 h
 rcases Nat.lt_or_ge (p+1) (bdF T).length with h4 | h4
 ·exact h4
 ·obtain ⟨j,hj,e⟩:=List.mem_iff_getElem.1 (bdF_mem.2 ⟨f,h1,.inr rfl⟩)
  have e2:(bdF T).getD j 0=f.hi:=by rw [List.getD_eq_getElem?_getD,List.getElem?_eq_getElem hj];exact e
  rcases Nat.lt_or_ge j p with h5 | h5
  ·have:=pw_lt xi7 h5 hp;omega
  ·have e3:j=p:=by omega
   rw [e3] at e2;omega
theorem vwK_all {T:List Fa}:vwK T ((bdF T).length)=vwT T:=by
 rw [vwK,vwT,segL_N]
 rcases Nat.eq_zero_or_pos (bdF T).length with h | h
 ·rw [h]
 ·obtain ⟨m,hm⟩: ∃m,(bdF T).length=m+1:=⟨(bdF T).length - 1,by omega⟩
  have e:segI (gF T) (bdF T) m=[]:=by
   rw [segI]
   cases hl:lastF T ((bdF T).getD m 0) with
   | none=>rw [gF,hl];rfl
   | some f=>have:=lastF_end hl (by omega);omega
  rw [hm,xq0,e,List.append_nil];rfl
theorem vwK_none {T:List Fa} {k:Nat} (h:gF T ((bdF T).getD k 0)=none):vwK T (k+1)=vwK T k:=by
 rw [vwK,xq0,segI,h,List.append_nil];rfl
theorem vwK_some {T:List Fa} {k:Nat} {v:Va} (h:gF T ((bdF T).getD k 0)=some v):vwK T (k+1)=pst1 (vwK T k) ⟨(bdF T).getD k 0,(bdF T).getD (k+1) 0,v⟩:=by
 rw [vwK,xq0,segI,h,pst_app];rfl
theorem vwK_len {T:List Fa} {k:Nat}:(vwK T k).length≤k:=by
 have h:=pst_len (segN (gF T) (bdF T) k) []
 have:=segN_len (g:=gF T) (ds:=bdF T) k
 have h2:(vwK T k).length≤([]:List Tst).length+(segN (gF T) (bdF T) k).length:=h
 simp at h2;omega
end An.S
namespace An
open Go
def bts (s:ByteArray):List UInt8:=s.data.toList
theorem bts_len {s:ByteArray}:(bts s).length=s.size:=by rw [bts,Array.length_toList];rfl
def strOf (l:List UInt8):ByteArray:=⟨l.toArray⟩
theorem bts_mk {l:List UInt8}:bts (strOf l)=l:=rfl
theorem xh4 {l:List UInt8}:(strOf l).size=l.length:=rfl
abbrev tU8 (b:UInt8):Ty:=tE (.int .u8 ((b.toNat:Nat):Int))
abbrev tSt (s:ByteArray):Ty:=tE (.string s)
section
variable {P:Program}
def Srcs (P:Program) (sb:ByteArray) (es:Nat) (agg:Bool) {α:Type} (f:α→Ty) (ys:List α):Prop:=
 ∃news:Array Value,news.size=ys.length*es∧(∀w':World,(Builtin.firstCells es ys.length (.string sb)).run P w'= .ok news w')∧(∀u∈news.toList,one u=true)∧
  ∀{F:Dom} {w:World} (i:Nat) (y:α),ys[i]? =some y→(f y).p F w (pick agg es news (i*es))
theorem src_str (P:Program) (sb:ByteArray):Srcs P sb 1 false tU8 (bts sb):=by
 refine ⟨sb.data.map fun b=> .int .u8 (b.toNat:Int),by simp [bts],fun w'=> ?_,fun u hu=> ?_,fun {F w} i y hi=> ?_⟩
 ·have e:sb.extract 0 (bts sb).length=sb:=by rw [bts_len];exact ByteArray.extract_zero_size
  simp only [Builtin.firstCells,e,Sem.run_pure]
 ·simp only [Array.toList_map,List.mem_map] at hu
  obtain ⟨b,_,rfl⟩:=hu
  rfl
 ·simp only [bts] at hi
  show pick false 1 _ _=_
  simp only [pick,cond_false,Nat.mul_one]
  rw [Array.getD_eq_getD_getElem?,Array.getElem?_map,←Array.getElem?_toList,hi];rfl
theorem run_appendS {t t2 ty E es by_ n cap m:Nat} {i:TypeInfo} {z:Value} {A:Option Addr} {sb:ByteArray} {w:World} (ht2:P.underlying t2=some .string) (hm0:sb.size=m) (ht:P.underlying t=some (.slice E)) (hi:P.info? E=some i) (hs:i.size=es) (hby:i.bytes=by_) (hz:i.zero=some z) (hzs:z.cells.size=es) (h0:0 < es)
  (hn:n≤cap) (cs:Array Value) {b:Nat} (hrow:0 < cap→A=some ⟨b,0,none⟩∧w.heap[b]? =some (.cells cs E (0,0))∧cs.size=cap*es)
  (news:Array Value) (hnews:news.size=m*es) (hsrc: ∀w':World,w'.heap=w.heap→(Builtin.firstCells es m (.string sb)).run P w'= .ok news w') (hone: ∀v∈news.toList,one v=true)
  (h63:n+m≤9223372036854775807) (hbytes:(n+m)*by_≤140737488355328):
  (n+m≤cap∧ ∃w',(Builtin.append_ #[t,t2] ty #[.slice A n cap,.string sb]).run P w= .ok (.slice A (n+m) cap) w'∧
   (0 < cap→w'.heap[b]? =some (.cells (putAt cs (n*es) news.toList) E (0,0))∧w'.heap.size=w.heap.size∧w'.os=w.os∧w'.tape=w.tape∧w'.output=w.output∧ ∀b',b'≠b→w'.heap[b']? =w.heap[b']?)∧(cap=0→w'=w))∨
  (cap < n+m∧ ∃w' cap' rest,(Builtin.append_ #[t,t2] ty #[.slice A n cap,.string sb]).run P w= .ok (.slice (some ⟨w.heap.size,0,none⟩) (n+m) cap') w'∧n+m≤cap'∧cap'≤9223372036854775807∧
   rest.size=(cap' - (n+m))*es∧w'.heap=w.heap.push (.cells (cs.extract 0 (n*es)++news++rest) E (0,0))∧w'.os=w.os∧w'.tape=w.tape∧w'.output=w.output∧(cs.extract 0 (n*es)).size=n*es):=by
 subst hs hby
 by_cases hfit:n+m≤cap
 ·left
  refine ⟨hfit,?_⟩
  rcases Nat.eq_zero_or_pos cap with hc | hc
  ·subst hc
   have hm:m=0:=by omega
   have hn0:n=0:=by omega
   subst hm hn0
   have hnil:news= #[]:=Array.eq_empty_of_size_eq_zero (by rw [hnews];simp)
   refine ⟨w,?_,fun h=>by omega,fun _=>rfl⟩
   subst hnil
   cases A with
   | none=>simp [Builtin.append_,run_underlying ht,run_underlying ht2,hm0,Go.sizeOf,typeInfo,hi,Builtin.lenOf,hsrc w rfl]
   | some a=>simp [Builtin.append_,run_underlying ht,run_underlying ht2,hm0,Go.sizeOf,typeInfo,hi,Builtin.lenOf,hsrc w rfl,storeCells]
  ·obtain ⟨hA,hb,hcs⟩:=hrow hc
   subst hA
   have hle:n*i.size+m*i.size≤cs.size:=by rw [hcs,←Nat.add_mul];exact Nat.mul_le_mul_right _ hfit
   obtain ⟨w',r1,r2,r3,r4,r5,r6,r7⟩:=xk6 (P:=P) (o:=n*i.size) news.toList cs 0 w hb (by simp [hnews];omega) hone
   refine ⟨w',?_,fun _=>⟨by simpa using r2,r3,r4,r5,r6,r7⟩,fun h=>by omega⟩
   simp [Builtin.append_,run_underlying ht,run_underlying ht2,hm0,Go.sizeOf,typeInfo,hi,Builtin.lenOf,hsrc w rfl,hfit,Addr.add_lit,r1]
 ·right
  refine ⟨by omega,?_⟩
  have hold: ∀w':World,w'.heap=w.heap→(Builtin.firstCells i.size n (.slice A n cap)).run P w'= .ok (cs.extract 0 (n*i.size)) w':=by
   intro w' hw'
   rcases Nat.eq_zero_or_pos n with hn0 | hn0
   ·subst hn0
    rw [xm7]
    simp
   ·obtain ⟨hA,hb,hcs⟩:=hrow (by omega)
    subst hA
    have hle:n*i.size≤cs.size:=by rw [hcs];exact Nat.mul_le_mul_right _ hn
    have:=xq5 (P:=P) (w:=w') (es:=i.size) (n:=n) (k:=n) (cap:=cap) (o:=0) (by rw [hw'];exact hb) (by omega)
    simpa using this
  have hsz:(cs.extract 0 (n*i.size)).size=n*i.size:=by
   rcases Nat.eq_zero_or_pos n with hn0 | hn0
   ·subst hn0;simp
   ·obtain ⟨hA,hb,hcs⟩:=hrow (by omega)
    have hle:n*i.size≤cs.size:=by rw [hcs];exact Nat.mul_le_mul_right _ hn
    simp;omega
  have hbig: ¬(281474976710656 < Builtin.nextslicecap (n+m) cap*i.bytes):=by
   have:=growslice_fits (need:=n+m) (old:=cap) (bytes:=i.bytes) (by omega) hbytes
   omega
  have h63':n+m≤maxLen:=h63
  refine ⟨{w.drew with heap:=w.heap.push (.cells (cs.extract 0 (n*i.size)++news++Builtin.zeroCells z.cells (grownCap w (n+m) cap E - (n+m))) E (0,0))},grownCap w (n+m) cap E,Builtin.zeroCells z.cells (grownCap w (n+m) cap E - (n+m)),?_,grownCap_ge _ _ _ _,grownCap_le_maxLen _ _ _ _ h63',by rw [size_zeroCells,hzs],rfl,rfl,rfl,rfl,hsz⟩
  have e1:=hold w.drew rfl
  have e2:=hsrc w.drew rfl
  have hcast: ¬(9223372036854775807:Int) < (n:Int)+(m:Int):=by omega
  simp [Builtin.append_,run_underlying ht,run_underlying ht2,hm0,Go.sizeOf,typeInfo,zeroValue,hi,hz,Builtin.lenOf,hfit,hcast,hbig,Question.forced,e1,e2,newRow,grownCap]
  rfl
end
section
variable {P:Program} {c:Base} {d ty:Nat} {pos:String} {af:Array Edge} {gd:Option (Nat×Bool)}
theorem d_appendX {T T2 E es by_ k k' n:Nat} {agg:Bool} {z:Value} {sb:ByteArray} {α:Type} {f:α→Ty} {ys:List α} {x y:Operand} {ts ts':List Ent} {T0:Nat} (st:P.underlying T2=some .string) (hsb:sb.size=ys.length) (sl:P.underlying T=some (.slice E)) (el:ElI P E es by_ agg z) (hz:Flat es agg z) (hT:T0=E) (h0:Nat.blt 0 es=true)
  (src:Srcs P sb es agg f ys) (hn:ts.length=n) (hb:(n+ys.length)*by_≤140737488355328) (h63:n+ys.length≤9223372036854775807) (hts:ts++ys.map (fun y=> .val (f y))=ts') {n':Nat} (hn':n+ys.length=n'):
  Does P c ⟨some d,.call {callee:= .builtin .append,args:= #[x,y],argTypes:= #[T,T2]},ty,pos,af,gd⟩ ⟨[(x,.own (.sl k es 0 n)),(y,.val (tE (.string sb)))],[(k,⟨T0,es,agg,ts⟩)],some (d,some (.own (.sl k' es 0 n'))),[(k,none),(k',some ⟨T0,es,agg,ts'⟩)],[k']⟩:=by
 intro g h al a w hp ⟨η,s⟩
 subst hts hT hn hn'
 have h0':0 < es:=by simpa using h0
 obtain ⟨hx,hxs⟩:=x8 s hp.rd.1
 obtain ⟨A,hA,hcap,hadr⟩:=hx
 simp only [Nat.sub_zero,Nat.zero_add,Nat.zero_mul] at hA hcap hadr
 obtain ⟨news,hns,hsrc0,hone,hnp⟩:=src
 have hsrc:=fun (w':World) (_:w'.heap=w.heap)=>hsrc0 w'
 have hA:a.eval x= .slice A ts.length (η.c k):=hA
 have hy:a.eval y= .string sb:=(x8 s hp.rd.2.1).1
 obtain ⟨i,hi,hsz,hby,hz'⟩:=el.parts
 obtain ⟨k1,k2,⟨k3,k4,k5,k6,k7⟩,k8⟩:=s.key k _ hp.kr.1
 simp only at k3 k4 k5 k6 k7
 have hexec: ∀v w',(Builtin.append_ #[T,T2] ty #[.slice A ts.length (η.c k),.string sb]).run P w= .ok v w'→
   (execOp a.eval ⟨some d,.call {callee:= .builtin .append,args:= #[x,y],argTypes:= #[T,T2]},ty,pos,af,gd⟩).run P w= .ok (.value v) w':=fun v w' hr=>by
  simp only [execOp,resolve,invoke,builtin,List.map_toArray,List.map_cons,List.map_nil,hA,hy,Sem.run_bind,Sem.run_pure,Result.andThen_ok,hr]
 have hsupp: ∀j∈HEnt.supp ⟨T0,es,agg,ts++ys.map fun y=> .val (f y)⟩,al j=true:=fun j hj=>by
  simp only [HEnt.supp,List.mem_flatMap] at hj
  obtain ⟨e,he,hj⟩:=hj
  rcases List.mem_append.1 he with he | he
  ·exact k2 j (List.mem_flatMap.2 ⟨e,he,hj⟩)
  ·obtain ⟨y,_,rfl⟩:=List.mem_map.1 he
   cases hj
 have hlk: ∀(l:List Ent) (i:Nat) (e:Ent),(ts++ys.map fun y=>Ent.val (f y))[i]? =some e→(ts[i]? =some e∧i < ts.length)∨(∃y,ys[i - ts.length]? =some y∧e= .val (f y)∧ts.length≤i):=fun _ i e he=>by
  rcases Nat.lt_or_ge i ts.length with hlt | hge
  ·rw [List.getElem?_append_left hlt] at he;exact .inl ⟨he,hlt⟩
  ·rw [List.getElem?_append_right hge,List.getElem?_map] at he
   obtain ⟨y,hy,rfl⟩:=Option.map_eq_some_iff.1 he
   exact .inr ⟨y,hy,rfl,hge⟩
 rcases Nat.eq_zero_or_pos (η.c k) with hc | hc
 ·
  have hts:ts=[]:=List.eq_nil_of_length_eq_zero (by omega)
  subst hts
  rcases run_appendS (P:=P) (t2:=T2) (ty:=ty) (A:=A) (n:=0) (cap:=η.c k) (w:=w) (b:=0) st hsb sl hi hsz hby hz' hz.1 h0' (by simp) #[] (fun h=>by omega) news hns hsrc hone h63 hb with ⟨hfit,w',hr,_,hw⟩ | ⟨hgt,w',cap',rest,hr,hle,hmax,hrest,hheap,hos,htape,hout,_⟩
  ·have hys:ys=[]:=List.eq_nil_of_length_eq_zero (by omega)
   subst hys
   have:=hw hc
   subst this
   refine xc6 (hexec _ _ hr) ?_
   have s2:=s.rename hp.kr.1 hp.nk.1
   refine ⟨_,s2.put (hp.d _ rfl) (e:= .own (.sl k' es 0 (0+0))) ⟨A,?_,?_,?_⟩ ?_⟩
   ·simp [Env.set_c]
   ·simp
   ·intro h;rw [Env.set_c] at h;exact absurd h (by simp [hc])
   ·intro j hj
    simp only [Ent.supp,VP.supp,List.mem_singleton] at hj
    subst hj;simp
  ·refine xc6 (hexec _ _ hr) ?_
   have hext:Ext w w':=⟨hos,htape,hout,by rw [hheap];simp,fun b hb=>by rw [hheap,Array.getElem?_push,if_neg (by omega)]⟩
   have s2:=(s.drop k).new' k' hp.nk.1 ⟨T0,es,agg,[]++ys.map fun y=> .val (f y)⟩ cap' w.heap.size (by simpa using hle) h0' k5 hmax hsupp hext (fun _=>⟨Nat.le_refl _,#[]++news++rest,by rw [hheap];simp,by
     simp only [Array.size_append,hns,hrest,Array.size_empty]
     rw [Nat.zero_add,←Nat.add_mul];congr 1;simp at hle;omega,fun j e hj=>by
     simp only [List.nil_append,List.getElem?_map] at hj
     obtain ⟨y,hy',rfl⟩:=Option.map_eq_some_iff.1 hj
     have hjl:j < ys.length:=(List.getElem?_eq_some_iff.1 hy').1
     have hle':j*es+es≤news.size:=by rw [hns,←Nat.succ_mul];exact Nat.mul_le_mul_right _ hjl
     simp only [Array.empty_append]
     rw [xf6 hle' k5]
     exact (f y).mono (hnp j y hy') (Keep.drop k)⟩)
   refine ⟨_,s2.put (hp.d _ rfl) (e:= .own (.sl k' es 0 (0+ys.length))) ⟨some ⟨w.heap.size,0,none⟩,?_,?_,?_⟩ ?_⟩
   ·simp [Env.set_c]
   ·simpa [Env.set_c] using hle
   ·intro _;simp [Env.set_b]
   ·intro j hj
    simp only [Ent.supp,VP.supp,List.mem_singleton] at hj
    subst hj;simp
 ·obtain ⟨cs,m1,m2,m3⟩:=k7 hc
  have hAv:=hadr hc
  rcases run_appendS (P:=P) (t2:=T2) (ty:=ty) (A:=A) (n:=ts.length) (cap:=η.c k) (w:=w) (b:=η.b k) st hsb sl hi hsz hby hz' hz.1 h0' k3 cs (fun _=>⟨hAv,m1,m2⟩) news hns hsrc hone h63 hb with ⟨hfit,w',hr,hw,_⟩ | ⟨hgt,w',cap',rest,hr,hle,hmax,hrest,hheap,hos,htape,hout,hold⟩
  ·obtain ⟨q1,q2,q3,q4,q5,q6⟩:=hw hc
   refine xc6 (hexec _ _ hr) ?_
   have hsz2:ts.length*es+ys.length*es≤cs.size:=by rw [m2,←Nat.add_mul];exact Nat.mul_le_mul_right _ hfit
   have hnl:news.toList.length=ys.length*es:=by simpa using hns
   have s1:=s.write (w':=w') k hp.kr.1 ⟨T0,es,agg,ts++ys.map fun y=> .val (f y)⟩ (putAt cs (ts.length*es) news.toList) (by rw [xc1];exact m2) (by simpa using hfit) h0' k5 hsupp
    (fun j e hj=>by
     rcases hlk [] j e hj with ⟨he,hjl⟩ | ⟨y,hy',rfl,hge⟩
     ·have hle':j*es+es≤ts.length*es:=by rw [←Nat.succ_mul];exact Nat.mul_le_mul_right _ hjl
      simp only []
      rw [xe6 (by omega) k5 (.inl hle')]
      exact m3 j e he
     ·have hjl:j - ts.length < ys.length:=(List.getElem?_eq_some_iff.1 hy').1
      have hle':(j - ts.length)*es+es≤ys.length*es:=by rw [←Nat.succ_mul];exact Nat.mul_le_mul_right _ hjl
      have e1:j*es=ts.length*es+(j - ts.length)*es:=by rw [←Nat.add_mul];congr 1;omega
      have hpk:pick agg es (putAt cs (ts.length*es) news.toList) (j*es)=pick agg es news ((j - ts.length)*es):=by
       have hg: ∀q,q < es→(putAt cs (ts.length*es) news.toList)[j*es+q]? =news[(j - ts.length)*es+q]? :=fun q hq=>by
        rw [xg6 _ _ _ _ (by omega),if_pos (by omega),Array.getElem?_toList]
        congr 1;omega
       cases agg with
       | true=>
        simp only [pick,cond_true,Value.agg.injEq]
        apply Array.ext_getElem?
        intro q
        rw [Array.getElem?_extract,Array.getElem?_extract,xc1]
        by_cases hq:q < es
        ·rw [if_pos (by omega),if_pos (by omega),hg q hq]
        ·rw [if_neg (by omega),if_neg (by omega)]
       | false=>
        simp only [pick,cond_false]
        have:=hg 0 h0'
        rw [Array.getD_eq_getD_getElem?,Array.getD_eq_getD_getElem?]
        simp only [Nat.add_zero] at this
        rw [this]
      simp only []
      rw [hpk]
      exact hnp _ y hy')
    hc q1 q2 q3 q4 q5 q6 rfl
   have s2:=s1.rename (xa7 _ _ _) hp.nk.1
   have hcomm:upd (upd (upd h k (some ⟨T0,es,agg,ts++ys.map fun y=> .val (f y)⟩)) k none) k' (some ⟨T0,es,agg,ts++ys.map fun y=> .val (f y)⟩)=upd (upd h k none) k' (some ⟨T0,es,agg,ts++ys.map fun y=> .val (f y)⟩):=by
    funext j
    by_cases hj:j=k'
    ·subst hj;simp [xa7]
    ·rw [xa4 _ _ _ hj,xa4 _ _ _ hj]
     by_cases hj2:j=k
     ·subst hj2;simp [xa7]
     ·rw [xa4 _ _ _ hj2,xa4 _ _ _ hj2,xa4 _ _ _ hj2]
   rw [hcomm] at s2
   refine ⟨_,s2.put (hp.d _ rfl) (e:= .own (.sl k' es 0 (ts.length+ys.length))) ⟨A,?_,?_,?_⟩ ?_⟩
   ·simp [Env.set_c]
   ·simpa [Env.set_c] using hfit
   ·intro _;rw [hAv];simp [Env.set_b]
   ·intro j hj
    simp only [Ent.supp,VP.supp,List.mem_singleton] at hj
    subst hj;simp
  ·refine xc6 (hexec _ _ hr) ?_
   have hext:Ext w w':=⟨hos,htape,hout,by rw [hheap];simp,fun b hb=>by rw [hheap,Array.getElem?_push,if_neg (by omega)]⟩
   have hdk:Keep (c.dom h η) (c.dom (upd h k none) η) w w:=Keep.drop k
   have s2:=(s.drop k).new' k' hp.nk.1 ⟨T0,es,agg,ts++ys.map fun y=> .val (f y)⟩ cap' w.heap.size (by simpa using hle) h0' k5 hmax hsupp hext (fun _=>⟨Nat.le_refl _,cs.extract 0 (ts.length*es)++news++rest,by rw [hheap];simp,by
     simp only [Array.size_append,hns,hrest,hold]
     rw [←Nat.add_mul,←Nat.add_mul];congr 1;omega,fun j e hj=>by
     rcases hlk [] j e hj with ⟨he,hjl⟩ | ⟨y,hy',rfl,hge⟩
     ·have hle':j*es+es≤ts.length*es:=by rw [←Nat.succ_mul];exact Nat.mul_le_mul_right _ hjl
      simp only []
      rw [Array.append_assoc,xf6 (by rw [hold];exact hle') k5,pick_extract0 hle' (by simp at hold;omega) k5]
      exact Ent.sat_go (m3 j e he) hdk fun _ _=>⟨rfl,rfl⟩
     ·have hjl:j - ts.length < ys.length:=(List.getElem?_eq_some_iff.1 hy').1
      have hle':(j - ts.length)*es+es≤ys.length*es:=by rw [←Nat.succ_mul];exact Nat.mul_le_mul_right _ hjl
      have e1:j*es=(cs.extract 0 (ts.length*es)).size+(j - ts.length)*es:=by rw [hold,←Nat.add_mul];congr 1;omega
      simp only []
      rw [Array.append_assoc,e1,xq6 (by simp only [Array.size_append,hns];omega) k5,xf6 (by rw [hns];exact hle') k5]
      exact (f y).mono (hnp _ y hy') hdk⟩)
   refine ⟨_,s2.put (hp.d _ rfl) (e:= .own (.sl k' es 0 (ts.length+ys.length))) ⟨some ⟨w.heap.size,0,none⟩,?_,?_,?_⟩ ?_⟩
   ·simp [Env.set_c]
   ·simpa [Env.set_c] using hle
   ·intro _;simp [Env.set_b]
   ·intro j hj
    simp only [Ent.supp,VP.supp,List.mem_singleton] at hj
    subst hj;simp
theorem d_appendS {T T2 E by_ k k' n:Nat} {z:Value} {sb:ByteArray} {x y:Operand} {ts ts':List Ent} {T0:Nat} (st:P.underlying T2=some .string) (sl:P.underlying T=some (.slice E)) (el:ElI P E 1 by_ false z) (hz:Flat 1 false z) (hT:T0=E) (hn:ts.length=n) (hb:(n+sb.size)*by_≤140737488355328) (h63:n+sb.size≤9223372036854775807) (hts:ts++(bts sb).map (fun y=> .val (tU8 y))=ts') {n':Nat} (hn':n+sb.size=n'):
  Does P c ⟨some d,.call {callee:= .builtin .append,args:= #[x,y],argTypes:= #[T,T2]},ty,pos,af,gd⟩ ⟨[(x,.own (.sl k 1 0 n)),(y,.val (tE (.string sb)))],[(k,⟨T0,1,false,ts⟩)],some (d,some (.own (.sl k' 1 0 n'))),[(k,none),(k',some ⟨T0,1,false,ts'⟩)],[k']⟩:=
 d_appendX st bts_len.symm sl el hz hT rfl (src_str P sb) hn (by rw [bts_len];exact hb) (by rw [bts_len];exact h63) hts (by rw [bts_len];exact hn')
theorem beqB {p q:ByteArray}:(p.toList==q.toList)=decide (p=q):=by
 rw [ByteArray.toList_eq,ByteArray.toList_eq]
 by_cases h:p=q
 ·subst h;simp
 ·have h2:p.data.toList≠q.data.toList:=fun e=>h (by cases p;cases q;congr 1;exact Array.toList_inj.1 e)
  rw [decide_eq_false h];exact beq_false_of_ne h2
theorem d_eqlS {T yT:TypeId} {x y:Operand} {p q:ByteArray}:Does P c ⟨some d,.binOp .eql T x y yT,ty,pos,af,gd⟩ ⟨[(x,.val (tSt p)),(y,.val (tSt q))],[],some (d,some (.val (tB (decide (p=q))))),[],[]⟩:=
 xh1 fun w=>by simp only [eqGuard_at_string,binOp,Sem.run_bind,Sem.run_pure,Result.andThen_ok,Op.stringOp,beqB]
theorem d_neqS {T yT:TypeId} {x y:Operand} {p q:ByteArray}:Does P c ⟨some d,.binOp .neq T x y yT,ty,pos,af,gd⟩ ⟨[(x,.val (tSt p)),(y,.val (tSt q))],[],some (d,some (.val (tB (decide (p≠q))))),[],[]⟩:=
 xh1 fun w=>by
  simp only [eqGuard_at_string,binOp,Sem.run_bind,Sem.run_pure,Result.andThen_ok,Op.stringOp,beqB]
  rw [show (!decide (p=q))=decide (p≠q) by by_cases h:p=q <;> simp [h]]
theorem d_lenS {T:TypeId} {x:Operand} {s:ByteArray} (hT:P.underlying T=some .string):
  Does P c ⟨some d,.call {callee:= .builtin .len,args:= #[x],argTypes:= #[T]},ty,pos,af,gd⟩ ⟨[(x,.val (tSt s))],[],some (d,some (.val (tI s.size))),[],[]⟩:=
 Does.value rfl fun g h al a w η hrd _ st=>by
  have h1:a.eval x= .string s:=(x8 st hrd.1).1
  exact ⟨_,w,by simp only [execOp,resolve,invoke,builtin,List.map_toArray,List.map_cons,List.map_nil,h1];simp [run_len_string (P:=P) (w:=w) T ty s hT,go_sem],Ext.refl w,rfl,fun k hk=>by cases hk⟩
theorem d_sliceS {T:TypeId} {x y z:Operand} {k k':IntKind} {s r:ByteArray} {i j:Int} (hT:P.underlying T=some .string) (h0:0≤i) (h1:i≤j) (h2:j≤s.size) (hr:s.extract i.toNat j.toNat=r):
  Does P c ⟨some d,.slice T x (some y) (some z) none,ty,pos,af,gd⟩ ⟨[(x,.val (tSt s)),(y,.val (tE (.int k i))),(z,.val (tE (.int k' j)))],[],some (d,some (.val (tSt r))),[],[]⟩:=
 Does.value rfl fun g h al a w η hrd _ st=>by
  subst hr
  have e1:a.eval x= .string s:=(x8 st hrd.1).1
  have e2:a.eval y= .int k i:=(x8 st hrd.2.1).1
  have e3:a.eval z= .int k' j:=(x8 st hrd.2.2.1).1
  refine ⟨_,w,?_,Ext.refl w,rfl,fun k hk=>by cases hk⟩
  simp only [execOp,e1,e2,e3,Option.map_some,Option.map_none,Instr.sliceAt,Sem.run_bind,run_underlying hT,Result.andThen_ok,run_slice_string (P:=P) (w:=w) T s k k' i j hT h0 h1 h2,Sem.run_pure]
theorem d_bytesS {T T2 E k n:Nat} {x:Operand} {bs:List UInt8} {T0:Nat} (hT:P.underlying T=some (.slice E)) (he:P.underlying E=some (.int .u8)) (hd:P.underlying T2=some .string) (hn:bs.length=n) (h0:0 < n):
  Does P c ⟨some d,.convert T T2 x,ty,pos,af,gd⟩ ⟨[(x,.own (.sl k 1 0 n))],[(k,⟨T0,1,false,rV tU8 bs⟩)],some (d,some (.val (tSt (strOf bs)))),[],[]⟩:=
 Does.value rfl fun g h al a w η hrd hkr st=>by
  subst hn
  obtain ⟨A,hA,hcap,hadr⟩:=(x8 st hrd.1).1
  have hA:a.eval x= .slice A bs.length (η.c k - 0):=hA
  have hc:0 < η.c k:=by omega
  have hadr:=hadr hc
  subst hadr
  obtain ⟨k1,k2,⟨k3,k4,k5,k6,k7⟩,k8⟩:=st.key k _ hkr.1
  obtain ⟨cs,m1,m2,m3⟩:=k7 hc
  have m2:cs.size=η.c k*1:=m2
  have m1:w.heap[η.b k]? =some (.cells cs T0 (0,0)):=m1
  have hle:bs.length≤η.c k:=by omega
  refine ⟨_,w,?_,Ext.refl w,rfl,fun k hk=>by cases hk⟩
  have:=run_convert_bytes_back (P:=P) w T T2 E ⟨η.b k,0*1,none⟩ (η.c k - 0) bs hT he hd fun j hj=>by
   have e:=m3 j _ (xc4 (f:=tU8) (xs:=bs) (i:=j) (d:=0) hj)
   have e:pick false 1 cs (j*1)= .int .u8 (((bs.getD j 0).toNat:Nat):Int):=e
   simp only [pick,cond_false,Nat.mul_one] at e
   have hlt:j < cs.size:=by rw [m2];omega
   rw [Addr.add_lit,cell_of m1]
   rw [Array.getD_eq_getD_getElem?,Array.getElem?_eq_getElem hlt] at e
   rw [List.getD_eq_getElem?_getD,List.getElem?_eq_getElem hj] at e
   simp only [Option.getD_some] at e
   simp [hlt,e]
  simp only [execOp,hA,Sem.run_bind,this,Result.andThen_ok,Sem.run_pure]
  rfl
end
end An
namespace An.S
open Go Go.Proofs An
instance ti9:TyI Tryz.prog 9 1 false:=⟨by kernel_rfl,by kernel_rfl⟩
instance ti36:TyI Tryz.prog 36 1 false:=⟨by kernel_rfl,by kernel_rfl⟩
instance ti52:TyI Tryz.prog 52 1 false:=⟨by kernel_rfl,by kernel_rfl⟩
instance fo30_0:FoI Tryz.prog 30 0 0:=⟨by kernel_rfl⟩
instance fo30_1:FoI Tryz.prog 30 1 1:=⟨by kernel_rfl⟩
instance fo30_2:FoI Tryz.prog 30 2 2:=⟨by kernel_rfl⟩
instance fi55:FnI Tryz.prog 55:=⟨_,Tryz.func55,by kernel_rfl,rfl⟩
instance fi56:FnI Tryz.prog 56:=⟨_,Tryz.func56,by kernel_rfl,rfl⟩
instance fi62:FnI Tryz.prog 62:=⟨_,Tryz.func62,by kernel_rfl,rfl⟩
instance fi67:FnI Tryz.prog 67:=⟨_,Tryz.func67,by kernel_rfl,rfl⟩
instance fi92:FnI Tryz.prog 92:=⟨_,Tryz.func92,by kernel_rfl,rfl⟩
instance fi93:FnI Tryz.prog 93:=⟨_,Tryz.func93,by kernel_rfl,rfl⟩
theorem el30:ElI Tryz.prog 30 11 128 true (.agg #[.string ⟨#[]⟩,.int .i64 0,.int .i64 0,.int .i64 0,.bool false,.int .u8 0,.bool false,.slice none 0 0,.bool false,.slice none 0 0,.int .i64 0]):=⟨ti30,by kernel_rfl,by kernel_rfl⟩
theorem zr30:(Tryz.prog.info? 30).bind (·.zero)=some (.agg #[.string ⟨#[]⟩,.int .i64 0,.int .i64 0,.int .i64 0,.bool false,.int .u8 0,.bool false,.slice none 0 0,.bool false,.slice none 0 0,.int .i64 0])∧ ∀F w,(tS [⟨1,false,(tE (.string ⟨#[]⟩))⟩,⟨1,false,(tE (.int .i64 0))⟩,⟨1,false,(tE (.int .i64 0))⟩,⟨1,false,(tE (.int .i64 0))⟩,⟨1,false,(tE (.bool false))⟩,⟨6,true,(tS [⟨1,false,(tE (.int .u8 0))⟩,⟨4,true,(tS [⟨2,true,(tS [⟨1,false,(tE (.bool false))⟩,⟨1,false,(tLm [])⟩])⟩,⟨2,true,(tS [⟨1,false,(tE (.bool false))⟩,⟨1,false,(tLm [])⟩])⟩])⟩,⟨1,false,(tE (.int .i64 0))⟩])⟩]).p F w (.agg #[.string ⟨#[]⟩,.int .i64 0,.int .i64 0,.int .i64 0,.bool false,.int .u8 0,.bool false,.slice none 0 0,.bool false,.slice none 0 0,.int .i64 0]):=⟨by kernel_rfl,fun _ _=>⟨_,rfl,rfl,⟨fun _=>rfl,rfl⟩,⟨fun _=>rfl,rfl⟩,⟨fun _=>rfl,rfl⟩,⟨fun _=>rfl,rfl⟩,⟨fun _=>rfl,rfl⟩,⟨fun h=>Bool.noConfusion h,⟨_,rfl,rfl,⟨fun _=>rfl,rfl⟩,⟨fun h=>Bool.noConfusion h,⟨_,rfl,rfl,⟨fun h=>Bool.noConfusion h,⟨_,rfl,rfl,⟨fun _=>rfl,rfl⟩,⟨fun _=>rfl,⟨none,0,rfl,Nat.le_refl _,by decide,.inl rfl⟩⟩,trivial⟩⟩,⟨fun h=>Bool.noConfusion h,⟨_,rfl,rfl,⟨fun _=>rfl,rfl⟩,⟨fun _=>rfl,⟨none,0,rfl,Nat.le_refl _,by decide,.inl rfl⟩⟩,trivial⟩⟩,trivial⟩⟩,⟨fun _=>rfl,rfl⟩,trivial⟩⟩,trivial⟩⟩
theorem zf30:Flat 11 true (.agg #[.string ⟨#[]⟩,.int .i64 0,.int .i64 0,.int .i64 0,.bool false,.int .u8 0,.bool false,.slice none 0 0,.bool false,.slice none 0 0,.int .i64 0]):=xp3 (by intro u hu;simp at hu;rcases hu with rfl | rfl | rfl | rfl | rfl | rfl | rfl | rfl | rfl | rfl | rfl <;> rfl)
abbrev flt (key:ByteArray) (kn:Int) (f:Fa):Bool:=decide (f.key=key) && decide (f.kn≤kn)
theorem flt_next {key:ByteArray} {kn:Int} {a:List Fa} {i:Nat} (hi:i < a.length):(a.take (i+1)).filter (flt key kn)=(a.take i).filter (flt key kn)++if (a.getD i fa0).key=key∧(a.getD i fa0).kn≤kn then [a.getD i fa0] else []:=by
 rw [List.take_succ_eq_append_getElem hi,List.filter_append,List.getD_eq_getElem?_getD,List.getElem?_eq_getElem hi,List.filter_cons]
 congr 1
 simp only [flt,Bool.and_eq_true,decide_eq_true_eq,List.filter_nil,Option.getD_some]
theorem flt_len {key:ByteArray} {kn:Int} {a:List Fa} {i:Nat}:((a.take i).filter (flt key kn)).length≤i:=by
 have h1:=List.length_filter_le (flt key kn) (a.take i)
 rw [List.length_take] at h1;omega
theorem told_len {a:List Fa} {key:ByteArray} {kn:Int}:(toldT a key kn).length=(a.filter (flt key kn)).length:=xn6 _
theorem told_le {a:List Fa} {key:ByteArray} {kn:Int}:(toldT a key kn).length≤a.length:=by rw [told_len];exact List.length_filter_le ..
def toY (a:List Fa) (key:ByteArray) (kn:Int) (j:Nat):List Ty:=[tFa ((toldT a key kn).getD j fa0)]
theorem c_told (a:List Fa) (key:ByteArray) (kn:Int):
  CtG Tryz.prog 32 [] [.val (tL 11 true tFa a),.val (tSt key),.val (tI kn)] (.own (.fn 55 [.ptr 3 0,.ptr 4 0,.ptr 5 0])) [(3,⟨36,1,false,[.val (tL 11 true tFa a)]⟩),(4,⟨9,1,false,[.val (tSt key)]⟩),(5,⟨3,1,false,[.val (tI kn)]⟩)] [3,4,5]:=by
 refine CtG.intro [] Tryz.func32 rfl Tryz.ntmps32 rfl rfl trivial ?_
 intro w F η
 refine A10 ?_
 refine R3 (xo1 (ps:=[.ptr 3 0,.ptr 4 0,.ptr 5 0]) rfl) rfl rfl rfl ?_
 refine A4 ?_
 exact xd1 LentC.mk' rfl rfl Imp.refl ⟨rfl,rfl,rfl,trivial⟩ rfl ⟨⟨rfl,(SupX.lit rfl)⟩,⟨rfl,(SupX.lit rfl)⟩,⟨rfl,(SupX.lit rfl)⟩,trivial⟩ rfl
theorem i_told (a:List Fa) (key:ByteArray) (kn:Int) (hl:a.length≤1000000):
  ItC Tryz.prog 55 [(3,⟨36,1,false,[.val (tL 11 true tFa a)]⟩),(4,⟨9,1,false,[.val (tSt key)]⟩),(5,⟨3,1,false,[.val (tI kn)]⟩)] [.ptr 3 0,.ptr 4 0,.ptr 5 0] ((toldT a key kn).length) (toY a key kn):=by
 refine ItC.intro (K:=99) [3,4,5] Tryz.func55 rfl Tryz.ntmps55 rfl rfl ⟨⟨rfl,(SupX.lit rfl)⟩,⟨rfl,(SupX.lit rfl)⟩,⟨rfl,(SupX.lit rfl)⟩,trivial⟩ rfl ?_
 intro w F η l V J Jc hB
 refine A2 ?_
 refine RE (xf9 (k:=50) 30 11 true rfl (fun h=>by cases h)) trivial trivial ⟨rfl,trivial⟩ ?_
 refine A11 ?_
 refine cL (fun (i:Nat)=>i≤a.length) (fun (i:Nat)=>upd (upd (upd (upd (upd (upd (upd (upd (fun _=>none) 0 (some (.val (tE (.func (.yield l) #[] #[]))))) 1 (some (.own (.ptr 3 0)))) 2 (some (.own (.ptr 4 0)))) 3 (some (.own (.ptr 5 0)))) 5 (some (.own (.sl 50 11 0 ((a.take i).filter (flt key kn)).length)))) 10 (some (.val (tL 11 true tFa a)))) 11 (some (.val (tI a.length)))) 12 (some (.val (tI i)))) (fun (i:Nat)=>upd (upd (upd (upd (upd (fun _=>none) 3 (some (⟨36,1,false,[.val (tL 11 true tFa a)]⟩))) 4 (some (⟨9,1,false,[.val (tSt key)]⟩))) 5 (some (⟨3,1,false,[.val (tI kn)]⟩))) 99 (some (⟨2*0,1,false,[]⟩))) 50 (some (⟨30,11,true,rV tFa ((a.take i).filter (flt key kn))⟩))) [3,4,5,99,50] (fun (i:Nat)=>a.length - i) (0) (Nat.zero_le _) (hh:=((SubK.consI rfl ImpK.refl) ((SubK.consI rfl ImpK.refl) ((SubK.consI rfl ImpK.refl) ((SubK.consI rfl ImpK.refl) ((SubK.consI rfl ImpK.refl) SubK.nil)))))) ?_
 intro i hI
 have hnx:=fun hh=>flt_next (key:=key) (kn:=kn) (a:=a) (i:=i) hh
 have hxl:=flt_len (key:=key) (kn:=kn) (a:=a) (i:=i)
 refine A6 ?_
 refine x7 rfl (fun h76=> ?_) (fun h76=> ?_)
 ·
  refine A6 ?_
  refine R2 (x6 sl36 (i) (by omega) (gD (l:=a) (n:=i) (d:=fa0) (by omega))) rfl rfl ?_
  refine A1 ?_
  refine RE (xb0 (k:=7) (n:=11) (agg:=true) zr30.1 zr30.2 rfl) trivial trivial ⟨rfl,trivial⟩ ?_
  refine A8 ?_
  refine R2 (d_eqlS) rfl rfl ?_
  refine A1 ?_
  refine RGcaseD (t:=20) rfl (fun h77=> ?_) (fun h77=> ?_)
  ·
   refine A7 ?_
   refine x7 rfl (fun h77_2=> ?_) (fun h77_2=> ?_)
   ·
    refine A3 ?_
    refine R1 (xd4 (n:=1) (f:=tFa) [(a.getD i fa0)] Tryz.underlying36 el30 zf30 rfl (fun _=>inferInstance) rfl rfl rfl) rfl (RE (xb2 (k:=50) (k':=29) (f:=tFa) (ys:=[(a.getD i fa0)]) (ts':=rV tFa (((a.take i).filter (flt key kn))++[(a.getD i fa0)])) Tryz.underlying36 el30 zf30 rfl rfl (fun _=>inferInstance) xc7 (by simp;omega) (by simp;omega) (by simp [rV]) (n':=((a.take i).filter (flt key kn)).length+1) rfl) ⟨rfl,rfl,trivial⟩ ⟨rfl,trivial⟩ ⟨rfl,trivial⟩ ?_)
    refine A8 ?_
    rw [if_pos ⟨h77,h77_2⟩] at hnx
    have hnx:=hnx (by omega)
    exact xf2 (l:=[3,4,5,99,50]) (fun j=>cond (Nat.beq j 50) 29 (j)) (i+1) ⟨(by omega),(by omega)⟩ (SubR.int rfl (by first | omega | rfl | (dsimp only;omega)) (SubR.int rfl (by first | omega | rfl | (dsimp only;omega)) (SubR.cons rfl ((SubR.consI rfl (Imp.of (by rw [hnx,List.length_append];rfl))) (SubR.cons rfl (SubR.cons rfl (SubR.cons rfl (SubR.cons rfl SubR.nil)))))))) ((SubKR.consI rfl (ImpK.of (by rw [hnx];exact xa5.symm))) ((SubKR.consI rfl ImpK.refl) ((SubKR.consI rfl ImpK.refl) ((SubKR.consI rfl ImpK.refl) ((SubKR.consI rfl ImpK.refl) SubKR.nil))))) (SupG.val (SupG.val (SupG.val (SupG.own rfl (SupG.own rfl (SupG.own rfl (SupG.own rfl (SupG.val SupG.nil)))))))) (SupH.cons rfl (supJ xa0) (SupH.cons rfl (supJL rfl) (SupH.cons rfl (supJL rfl) (SupH.cons rfl (supJL rfl) (SupH.cons rfl (supJL rfl) SupH.nil))))) (lkOk rfl) rfl rfl (fun _ h=>by cases h;rfl)
   ·
    refine A7 ?_
    rw [if_neg (fun hh=>h77_2 hh.2),List.append_nil] at hnx
    have hnx:=hnx (by omega)
    exact kF (i+1) ⟨(by omega),(by omega)⟩ (hg:=(sI (sI (sC ((Sub.consI rfl (Imp.of (by rw [hnx]))) (sC (sC (sC (sC Sub.nil))))))))) (hh:=((SubK.consI rfl (ImpK.of (by rw [hnx]))) ((SubK.consI rfl ImpK.refl) ((SubK.consI rfl ImpK.refl) ((SubK.consI rfl ImpK.refl) ((SubK.consI rfl ImpK.refl) SubK.nil))))))
  ·
   refine A15 ?_
   rw [if_neg (fun hh=>h77 hh.1),List.append_nil] at hnx
   have hnx:=hnx (by omega)
   exact kF (i+1) ⟨(by omega),(by omega)⟩ (hg:=(sI (sI (sC ((Sub.consI rfl (Imp.of (by rw [hnx]))) (sC (sC (sC (sC Sub.nil))))))))) (hh:=((SubK.consI rfl (ImpK.of (by rw [hnx]))) ((SubK.consI rfl ImpK.refl) ((SubK.consI rfl ImpK.refl) ((SubK.consI rfl ImpK.refl) ((SubK.consI rfl ImpK.refl) SubK.nil))))))
 ·
  refine A6 ?_
  have hia:i=a.length:=by omega
  have hie:((a.take i).filter (flt key kn)).length=(toldT a key kn).length:=by rw [told_len,hia,List.take_length]
  refine A2 ?_
  refine RE (xa9 (fun _=>50) (c_sortStableF ((a.take i).filter (flt key kn)) rfl (by omega)) fi56 rfl (krC (ρ:=fun _=>50) (k:=20) xa5 (krN (ρ:=fun _=>50))) (krC (ρ:=fun _=>50) (k:=20) xa5 (krN (ρ:=fun _=>50))) ⟨⟨rfl,xa0⟩,trivial⟩ rfl) ⟨rfl,rfl,trivial⟩ ⟨rfl,trivial⟩ trivial ?_
  refine A3 ?_
  refine C_key (k:=50) (e':=⟨30,11,true,rV tFa (toldT a key kn)⟩) rfl (by rw [hia,List.take_length];rfl) ?_
  refine A7 ?_
  refine cL (fun (j:Nat)=>j≤(toldT a key kn).length) (fun (j:Nat)=>upd (upd (upd (upd (upd (upd (upd (fun _=>none) 0 (some (.val (tE (.func (.yield l) #[] #[]))))) 1 (some (.own (.ptr 3 0)))) 2 (some (.own (.ptr 4 0)))) 3 (some (.own (.ptr 5 0)))) 33 (some (.own (.sl 50 11 0 (toldT a key kn).length)))) 34 (some (.val (tI (toldT a key kn).length)))) 35 (some (.val (tI j)))) (fun (j:Nat)=>upd (upd (upd (upd (upd (fun _=>none) 3 (some (⟨36,1,false,[.val (tL 11 true tFa a)]⟩))) 4 (some (⟨9,1,false,[.val (tSt key)]⟩))) 5 (some (⟨3,1,false,[.val (tI kn)]⟩))) 99 (some (⟨2*j,1,false,[]⟩))) 50 (some (⟨30,11,true,rV tFa (toldT a key kn)⟩))) [3,4,5,99,50] (fun (j:Nat)=>(toldT a key kn).length - j) (0) (Nat.zero_le _) (hg:=(sI ((Sub.consI rfl (Imp.int (by rw [hie]))) ((Sub.consI rfl (Imp.of (by rw [hie]))) (sC (sC (sC (sC Sub.nil)))))))) (hh:=((SubK.consI rfl ImpK.refl) ((SubK.consI rfl ImpK.refl) ((SubK.consI rfl ImpK.refl) ((SubK.consI rfl ImpK.refl) ((SubK.consI rfl ImpK.refl) SubK.nil)))))) ?_
  intro j hI
  have htl:=told_le (a:=a) (key:=key) (kn:=kn)
  refine A6 ?_
  refine x7 rfl (fun h82=> ?_) (fun h82=> ?_)
  ·
   refine A6 ?_
   refine R2 (xa3 sl36 (by omega) (by omega) rfl) rfl rfl (RE (xb3 (j) ti30 (xc4 (f:=tFa) (xs:=(toldT a key kn)) (d:=fa0) (by omega)) (by omega)) ⟨rfl,trivial⟩ ⟨rfl,trivial⟩ trivial (RE (xb0 (k:=9) (n:=11) (agg:=true) zr30.1 zr30.2 rfl) trivial trivial ⟨rfl,trivial⟩ ?_))
   refine A4 ?_
   refine C_regY ?_
   refine xc8 xb5 ⟨rfl,trivial⟩ trivial trivial rfl (xc8 (xb3 (0) ti30 rfl rfl) ⟨rfl,trivial⟩ ⟨rfl,trivial⟩ trivial rfl ?_)
   refine wl_yield (ts:=[tFa ((toldT a key kn).getD j fa0)]) hB (xh6 rfl) rfl rfl ⟨rfl,trivial⟩ rfl rfl (by omega) ⟨Le.refl,trivial⟩ ?_ ?_
   ·
    refine xc8 d_not ⟨rfl,trivial⟩ trivial trivial rfl (xm4 ?_)
    refine A9 ?_
    exact kF (j+1) ⟨(by omega),(by omega)⟩ (hh:=((SubK.consI rfl ImpK.refl) ((SubK.consI rfl ImpK.refl) ((SubK.consI rfl ImpK.refl) ((SubK.consI rfl ImpK.refl) ((SubK.consI rfl ImpK.refl) SubK.nil))))))
   ·
    refine xc8 d_not ⟨rfl,trivial⟩ trivial trivial rfl (xm4 ?_)
    refine A7 ?_
    exact E_it hB rfl trivial rfl (.inl rfl) rfl (.inr ⟨j,by omega,rfl⟩)
  ·
   refine A4 ?_
   exact E_it hB rfl trivial rfl (.inr rfl) rfl (.inl (by rw [show j=(toldT a key kn).length by omega]))
theorem take_nextF {ks:List Fa} {k:Nat} (h:k < ks.length):ks.take (k+1)=ks.take k++[ks.getD k fa0]:=by
 rw [List.take_succ_eq_append_getElem h,List.getD_eq_getElem?_getD,List.getElem?_eq_getElem h];rfl
theorem c_AppSeqF (a:List Fa) (key:ByteArray) (kn:Int) (hl:a.length≤1000000):
  CtG Tryz.prog 62 [(104,⟨36,1,false,[.val (tL 11 true tFa a)]⟩),(105,⟨9,1,false,[.val (tSt key)]⟩),(106,⟨3,1,false,[.val (tI kn)]⟩)] [.val (tE (.slice none 0 0)),.own (.fn 55 [.ptr 104 0,.ptr 105 0,.ptr 106 0])] (.own (.sl 60 11 0 (toldT a key kn).length)) [(60,⟨30,11,true,rV tFa (toldT a key kn)⟩)] [60]:=by
 refine CtG.intro [104,105,106] Tryz.func62 rfl Tryz.ntmps62 rfl rfl ⟨⟨rfl,(SupX.lit rfl)⟩,⟨rfl,(SupX.lit rfl)⟩,⟨rfl,(SupX.lit rfl)⟩,trivial⟩ ?_
 intro w F η
 refine A8 ?_
 refine C_nilC (q:=2) 60 30 11 true 0 rfl rfl rfl rfl (fun h=>by cases h) rfl rfl ?_
 refine A5 ?_
 refine C_range (caps:=[.ptr 3 0,.ptr 4 0,.ptr 5 0]) (κ:=Empty) (fun j=>cond (Nat.beq j 5) 106 (cond (Nat.beq j 4) 105 (cond (Nat.beq j 3) 104 (j)))) rfl (fun _ h=>h) trivial (i_told a key kn hl) fi55 rfl ⟨rfl,rfl,rfl,trivial⟩ rfl rfl (fun _ _=>rfl) (upd (fun _=>none) 2 (some (.own (.ptr 2 0)))) [2,60,104,105,106] [2] (Sub.cons rfl Sub.nil) (SupG.own rfl SupG.nil) rfl (lkOk rfl) (fun (k:Nat) (xs:List Fa)=>xs=((toldT a key kn).take k)) (fun (k:Nat) (xs:List Fa)=>upd (upd (fun _=>none) 2 (some (⟨36,1,false,[.own (.sl 60 11 0 xs.length)]⟩))) 60 (some (⟨30,11,true,rV tFa xs⟩))) (fun k x=>(SupH.cons rfl (supJ xa0) (SupH.cons rfl (supJL rfl) SupH.nil))) (fun k x y hy=>by simp only [List.mem_cons,List.not_mem_nil,or_false] at hy;rcases hy with rfl | rfl | rfl <;> rfl) (fun _ _=>False) (fun i=>i.elim) (fun _ _ h=>h.elim) ([]) rfl ((SubK.consI rfl ImpK.refl) ((SubK.consI rfl ImpK.refl) SubK.nil)) ?_ ?_ ?_
 ·
  intro D lp o1 o2 O W lη lb V0 k xs hk hI
  have htl:=told_le (a:=a) (key:=key) (kn:=kn)
  have hxl:xs.length≤1000000:=by rw [hI,List.length_take];omega
  apply rnd_mk
  ·
   refine A1 ?_
   refine RE (xb0 (k:=5) (n:=11) (agg:=true) zr30.1 zr30.2 rfl) trivial trivial ⟨rfl,trivial⟩ ?_
   refine A2 ?_
   exact K_thenF fun _ _ h=>h
  ·
   refine A2 ?_
   refine RE (xb3 (ts:=[.own (.sl 60 11 0 xs.length)]) (0) ti36 rfl rfl) ⟨rfl,trivial⟩ ⟨rfl,trivial⟩ trivial ?_
   refine A1 ?_
   refine R1 (xd4 (n:=1) (f:=tFa) [((toldT a key kn).getD k fa0)] Tryz.underlying36 el30 zf30 rfl (fun _=>inferInstance) rfl rfl rfl) rfl (RE (xb2 (k:=60) (k':=11) (f:=tFa) (ys:=[((toldT a key kn).getD k fa0)]) (ts':=rV tFa (xs++[((toldT a key kn).getD k fa0)])) Tryz.underlying36 el30 zf30 rfl rfl (fun _=>inferInstance) xc7 (by simp;omega) (by simp;omega) (by simp [rV]) (n':=xs.length+1) rfl) ⟨rfl,rfl,trivial⟩ ⟨rfl,trivial⟩ ⟨rfl,trivial⟩ (RE (xb8 (es:=1) (agg:=false) (e:= .own (.sl 11 11 0 (xs.length+1))) (0) ti36 rfl rfl rfl) ⟨rfl,rfl,trivial⟩ ⟨rfl,trivial⟩ trivial ?_))
   refine A2 ?_
   exact K_ren (g':=fun _=>none) [2,60,104,105,106] (fun j=>cond (Nat.beq j 60) 11 (j)) SubR.nil ((SubKR.consI rfl (ImpK.of xa5.symm)) ((SubKR.consI rfl (ImpK.of (by rw [List.length_append];rfl))) SubKR.nil)) SupG.nil (SupH.cons rfl (supJ xa0) (SupH.cons rfl (supJL rfl) SupH.nil)) (lkOk rfl) rfl rfl (fun _ h=>by cases h) (K_rnd ((xs++[(toldT a key kn).getD k fa0])) (by rw [take_nextF hk,hI]) SubK.refl (SupH.cons rfl (supJ xa0) (SupH.cons rfl (supJL rfl) SupH.nil)) (lkOk rfl))
 ·
  intro D hD xs hI
  rw [List.take_length] at hI
  subst hI
  refine A4 ?_
  refine RE (xb3 (ts:=[.own (.sl 60 11 0 (toldT a key kn).length)]) (0) ti36 rfl rfl) ⟨rfl,trivial⟩ ⟨rfl,trivial⟩ trivial ?_
  refine A4 ?_
  exact xd1 (LentC.loop LentC.mk' hD) rfl rfl Imp.refl ⟨rfl,trivial⟩ rfl ⟨⟨rfl,xa0⟩,trivial⟩ rfl
 ·
  intro D hD e i;exact i.elim
theorem c_CollectF (a:List Fa) (key:ByteArray) (kn:Int) (hl:a.length≤1000000):
  CtG Tryz.prog 36 [(104,⟨36,1,false,[.val (tL 11 true tFa a)]⟩),(105,⟨9,1,false,[.val (tSt key)]⟩),(106,⟨3,1,false,[.val (tI kn)]⟩)] [.own (.fn 55 [.ptr 104 0,.ptr 105 0,.ptr 106 0])] (.own (.sl 4 11 0 (toldT a key kn).length)) [(4,⟨30,11,true,rV tFa (toldT a key kn)⟩)] [4]:=by
 refine CtG.intro [104,105,106] Tryz.func36 rfl Tryz.ntmps36 rfl rfl ⟨⟨rfl,(SupX.lit rfl)⟩,⟨rfl,(SupX.lit rfl)⟩,⟨rfl,(SupX.lit rfl)⟩,trivial⟩ ?_
 intro w F η
 refine A8 ?_
 refine RE (xa9 (fun j=>cond (Nat.beq j 105) 105 (cond (Nat.beq j 104) 104 (cond (Nat.beq j 60) 4 (106)))) (c_AppSeqF a key kn hl) fi62 rfl (krC (ρ:=fun j=>cond (Nat.beq j 105) 105 (cond (Nat.beq j 104) 104 (cond (Nat.beq j 60) 4 (106)))) (k:=104) rfl (krC (ρ:=fun j=>cond (Nat.beq j 105) 105 (cond (Nat.beq j 104) 104 (cond (Nat.beq j 60) 4 (106)))) (k:=105) rfl (krC (ρ:=fun j=>cond (Nat.beq j 105) 105 (cond (Nat.beq j 104) 104 (cond (Nat.beq j 60) 4 (106)))) (k:=106) rfl (krN (ρ:=fun j=>cond (Nat.beq j 105) 105 (cond (Nat.beq j 104) 104 (cond (Nat.beq j 60) 4 (106)))))))) (krC (ρ:=fun j=>cond (Nat.beq j 105) 105 (cond (Nat.beq j 104) 104 (cond (Nat.beq j 60) 4 (106)))) (k:=60) xa5 (krN (ρ:=fun j=>cond (Nat.beq j 105) 105 (cond (Nat.beq j 104) 104 (cond (Nat.beq j 60) 4 (106)))))) ⟨⟨rfl,xa0⟩,trivial⟩ rfl) ⟨rfl,rfl,trivial⟩ ⟨rfl,rfl,rfl,trivial⟩ ⟨rfl,trivial⟩ ?_
 refine A4 ?_
 exact xd1 LentC.mk' rfl rfl Imp.refl ⟨rfl,trivial⟩ rfl ⟨⟨rfl,xa0⟩,trivial⟩ rfl
theorem c_Fborders (T:List Fa) (hl:T.length≤1000000):
  Ct Tryz.prog 37 [tL 11 true tFa T] (tL 1 false tI (bdF T)):=by
 refine Ct.intro Tryz.func37 rfl Tryz.ntmps37 rfl ?_
 intro w F
 refine xf1 (s:=0) rfl (fun hl0=> ?_)
 refine A7 ?_
 refine RE (xf9 (k:=3) 3 1 false rfl (fun _=>rfl)) trivial trivial ⟨rfl,trivial⟩ ?_
 refine A11 ?_
 refine cL (fun (i:Nat)=>i≤T.length) (fun (i:Nat)=>upd (upd (upd (upd (fun _=>none) 3 (some (.own (.sl 3 1 0 (edF (T.take i)).length)))) 6 (some (.val (tL 11 true tFa T)))) 7 (some (.val (tI T.length)))) 8 (some (.val (tI i)))) (fun (i:Nat)=>upd (fun _=>none) 3 (some (⟨3,1,false,rV tI (edF (T.take i))⟩))) [3] (fun (i:Nat)=>T.length - i) (0) (Nat.zero_le _) (hh:=((SubK.consI rfl ImpK.refl) SubK.nil)) ?_
 intro i hI
 have hnx:=fun hh=>edF_snoc (T:=T) (i:=i) hh
 have hxl:(edF (T.take i)).length≤2*i:=by rw [edF_len,List.length_take];omega
 refine A6 ?_
 refine x7 rfl (fun h93=> ?_) (fun h93=> ?_)
 ·
  refine A6 ?_
  refine R2 (x6 sl36 (i) (by omega) (gD (l:=T) (n:=i) (d:=fa0) (by omega))) rfl rfl ?_
  refine A1 ?_
  refine RE (xb0 (k:=5) (n:=11) (agg:=true) zr30.1 zr30.2 rfl) trivial trivial ⟨rfl,trivial⟩ ?_
  refine A9 ?_
  refine R2 (xd4 (n:=2) (f:=fun n:Int=>tI n) [(T.getD i fa0).lo,(T.getD i fa0).hi] Tryz.underlying52 el3 zf3 rfl (fun _=>inferInstance) rfl rfl rfl) rfl rfl (RE (xb2 (k:=3) (k':=18) (f:=fun n:Int=>tI n) (ys:=[(T.getD i fa0).lo,(T.getD i fa0).hi]) (ts':=rV tI ((edF (T.take i))++[(T.getD i fa0).lo,(T.getD i fa0).hi])) Tryz.underlying52 el3 zf3 rfl rfl (fun _=>inferInstance) xc7 (by simp;omega) (by simp;omega) (by simp [rV]) (n':=(edF (T.take i)).length+2) rfl) ⟨rfl,rfl,trivial⟩ ⟨rfl,trivial⟩ ⟨rfl,trivial⟩ ?_)
  refine A8 ?_
  have hnx:=hnx (by omega)
  exact xf2 (l:=[3]) (fun j=>cond (Nat.beq j 3) 18 (j)) (i+1) ⟨(by omega),(by omega)⟩ (SubR.int rfl (by first | omega | rfl | (dsimp only;omega)) (SubR.int rfl (by first | omega | rfl | (dsimp only;omega)) (SubR.cons rfl ((SubR.consI rfl (Imp.of (by rw [hnx,List.length_append];rfl))) SubR.nil)))) ((SubKR.consI rfl (ImpK.of (by rw [hnx];exact xa5.symm))) SubKR.nil) (SupG.val (SupG.val (SupG.val (SupG.own rfl SupG.nil)))) (SupH.cons rfl (supJ xa0) SupH.nil) (lkOk rfl) rfl rfl (fun _ h=>by cases h)
 ·
  refine A8 ?_
  refine RE (xa9 (fun _=>3) (c_SortI (edF (T.take i)) (by omega)) fi63 rfl (krC (ρ:=fun _=>3) (k:=1) xa5 (krN (ρ:=fun _=>3))) (krC (ρ:=fun _=>3) (k:=1) xa5 (krN (ρ:=fun _=>3))) ⟨⟨rfl,xa0⟩,trivial⟩ rfl) ⟨rfl,trivial⟩ ⟨rfl,trivial⟩ trivial ?_
  refine A3 ?_
  have hsl:=srtI_len (edF (T.take i))
  refine A2 ?_
  refine RE (xa9 (fun _=>3) (c_CompactS (edF (T.take i))) fi64 rfl (krC (ρ:=fun _=>3) (k:=1) xa5 (krN (ρ:=fun _=>3))) (krC (ρ:=fun _=>3) (k:=1) xa5 (krN (ρ:=fun _=>3))) ⟨⟨rfl,xa0⟩,trivial⟩ rfl) ⟨rfl,trivial⟩ ⟨rfl,trivial⟩ trivial (RE (xi1 (f:=tI) (xs:=brd (edF (T.take i))) (fun _ h=>h) (xj0 rfl) rfl) ⟨rfl,trivial⟩ ⟨rfl,trivial⟩ trivial ?_)
  refine A3 ?_
  exact x3 Plain.mk' rfl rfl (Le.of (by rw [show i=T.length by omega,List.take_length];rfl))
theorem c_SI1 (ds:List Int) (x:Int) (i:Nat) (hi:i < ds.length):
  CtG Tryz.prog 93 [(2,⟨52,1,false,[.val (tL 1 false tI ds)]⟩),(3,⟨3,1,false,[.val (tI x)]⟩)] [.val (tI i),.own (.ptr 2 0),.own (.ptr 3 0)] (.val (tB (decide (x≤ds.getD i 0)))) [(2,⟨52,1,false,[.val (tL 1 false tI ds)]⟩),(3,⟨3,1,false,[.val (tI x)]⟩)] []:=by
 refine CtG.intro [2,3] Tryz.func93 rfl Tryz.ntmps93 rfl rfl ⟨⟨rfl,(SupX.lit rfl)⟩,⟨rfl,(SupX.lit rfl)⟩,trivial⟩ ?_
 intro w F η
 refine A9 ?_
 refine R2 (x6 sl52 (i) (by omega) (gD (l:=ds) (n:=i) (d:=0) (by omega))) rfl rfl ?_
 refine A7 ?_
 exact xd1 LentC.mk' rfl rfl Imp.refl ⟨rfl,rfl,trivial⟩ rfl ⟨⟨rfl,(SupX.lit rfl)⟩,⟨rfl,(SupX.lit rfl)⟩,trivial⟩ rfl
theorem pw_le {ds:List Int} (h:ds.Pairwise (· < ·)) {i j:Nat} (hij:i≤j) (hj:j < ds.length):ds.getD i 0≤ds.getD j 0:=by
 rcases Nat.lt_or_ge i j with h1 | h1
 ·exact Int.le_of_lt (pw_lt h h1 hj)
 ·rw [show i=j by omega];exact Int.le_refl _
theorem c_SearchI (ds:List Int) (x:Int) (hpw:ds.Pairwise (· < ·)) (hdl:ds.length≤2000000):
  CtG Tryz.prog 92 [(2,⟨52,1,false,[.val (tL 1 false tI ds)]⟩),(3,⟨3,1,false,[.val (tI x)]⟩)] [.val (tI ds.length),.own (.fn 93 [.ptr 2 0,.ptr 3 0])] (.val (tI (ixD ds x))) [(2,⟨52,1,false,[.val (tL 1 false tI ds)]⟩),(3,⟨3,1,false,[.val (tI x)]⟩)] []:=by
 refine CtG.intro [2,3] Tryz.func92 rfl Tryz.ntmps92 rfl rfl ⟨⟨rfl,(SupX.lit rfl)⟩,⟨rfl,(SupX.lit rfl)⟩,trivial⟩ ?_
 intro w F η
 refine A14 ?_
 refine cL (fun (fm:(Nat)×(Nat))=>(fun (p:Nat) (q:Nat)=>p≤q∧q≤ds.length∧(∀i,i < p→ds.getD i 0 < x)∧ ∀i,q≤i→i < ds.length→x≤ds.getD i 0) fm.1 fm.2) (fun (fm:(Nat)×(Nat))=>(fun (p:Nat) (q:Nat)=>upd (upd (upd (fun _=>none) 1 (some (.own (.fn 93 [.ptr 2 0,.ptr 3 0])))) 5 (some (.val (tI p)))) 6 (some (.val (tI q)))) fm.1 fm.2) (fun (fm:(Nat)×(Nat))=>(fun (p:Nat) (q:Nat)=>upd (upd (fun _=>none) 2 (some (⟨52,1,false,[.val (tL 1 false tI ds)]⟩))) 3 (some (⟨3,1,false,[.val (tI x)]⟩))) fm.1 fm.2) [2,3] (fun (fm:(Nat)×(Nat))=>(fun (p:Nat) (q:Nat)=>q - p) fm.1 fm.2) ((0,ds.length)) (by dsimp only;exact ⟨Nat.zero_le _,Nat.le_refl _,fun i hi=>by omega,fun i hi hi2=>by omega⟩) (hh:=((SubK.consI rfl ImpK.refl) ((SubK.consI rfl ImpK.refl) SubK.nil))) ?_
 intro fm hI
 obtain ⟨p,q⟩:=fm
 replace hI:p≤q∧q≤ds.length∧(∀i,i < p→ds.getD i 0 < x)∧ ∀i,q≤i→i < ds.length→x≤ds.getD i 0:=hI
 show wc _ _ _ _ (upd (upd (upd (fun _=>none) 1 (some (.own (.fn 93 [.ptr 2 0,.ptr 3 0])))) 5 (some (.val (tI p)))) 6 (some (.val (tI q)))) (upd (upd (fun _=>none) 2 (some (⟨52,1,false,[.val (tL 1 false tI ds)]⟩))) 3 (some (⟨3,1,false,[.val (tI x)]⟩))) _
 obtain ⟨hp,hq,h1,h2⟩:=hI
 refine A8 ?_
 refine x7 rfl (fun h62=> ?_) (fun h62=> ?_)
 ·
  refine A8 ?_
  refine R1 (x5 Tryz.underlying110 (isS Tryz.underlying3) (by first | exact wu64 (by omega) (by omega) | exact mu64)) rfl (R2 (xf5 (r:=((((p+q) / 2):Nat):Int)) (by decide) ((shrN (s:=1) rfl (by decide)).trans (by simp))) rfl rfl (R1 (x5 Tryz.underlying3 (isS Tryz.underlying110) (wr64 (by omega) (by omega))) rfl ?_))
  refine A7 ?_
  refine RE (d_callCX (ps:=[.val (tI _)]) (caps:=[.ptr 2 0,.ptr 3 0]) (fun j=>cond (Nat.beq j 2) 2 (3)) (c_SI1 ds x ((p+q) / 2) (by omega)) fi93 rfl (krC (ρ:=fun j=>cond (Nat.beq j 2) 2 (3)) (k:=2) rfl (krC (ρ:=fun j=>cond (Nat.beq j 2) 2 (3)) (k:=3) rfl (krN (ρ:=fun j=>cond (Nat.beq j 2) 2 (3))))) (krC (ρ:=fun j=>cond (Nat.beq j 2) 2 (3)) (k:=2) rfl (krC (ρ:=fun j=>cond (Nat.beq j 2) 2 (3)) (k:=3) rfl (krN (ρ:=fun j=>cond (Nat.beq j 2) 2 (3))))) ⟨⟨rfl,(SupX.lit rfl)⟩,⟨rfl,(SupX.lit rfl)⟩,trivial⟩ rfl) ⟨rfl,rfl,trivial⟩ ⟨rfl,rfl,trivial⟩ trivial ?_
  refine A3 ?_
  refine C_ifn rfl (fun h65=> ?_) (fun h65=> ?_)
  ·
   refine A6 ?_
   exact kF ((((p+q) / 2)+1,q)) ⟨(by dsimp only;exact ⟨by omega,hq,fun i hi=>by have:=pw_le hpw (show i≤((p+q) / 2) by omega) (by omega);omega,h2⟩),(by dsimp only;omega)⟩ (hh:=((SubK.consI rfl ImpK.refl) ((SubK.consI rfl ImpK.refl) SubK.nil)))
  ·
   refine A5 ?_
   exact kF ((p,((p+q) / 2))) ⟨(by dsimp only;exact ⟨by omega,by omega,h1,fun i hi hi2=>by have:=pw_le hpw hi hi2;omega⟩),(by dsimp only;omega)⟩ (hh:=((SubK.consI rfl ImpK.refl) ((SubK.consI rfl ImpK.refl) SubK.nil)))
 ·
  refine A12 ?_
  exact xd1 LentC.mk' rfl rfl (Imp.int (congrArg Int.ofNat (fst_is (n:=ds.length) (f:=fun i=>decide (x≤ds.getD i 0)) (by omega) (fun i hi=>decide_eq_false (by have:=h1 i hi;omega)) (fun hp2=>decide_eq_true (h2 p (by omega) hp2))).symm)) ⟨rfl,rfl,trivial⟩ rfl ⟨⟨rfl,(SupX.lit rfl)⟩,⟨rfl,(SupX.lit rfl)⟩,trivial⟩ rfl
theorem c_SearchInts (ds:List Int) (x:Int) (hpw:ds.Pairwise (· < ·)) (hdl:ds.length≤2000000):
  Ct Tryz.prog 67 [tL 1 false tI ds,tI x] (tI (ixD ds x)):=by
 refine Ct.intro Tryz.func67 rfl Tryz.ntmps67 rfl ?_
 intro w F
 refine A11 ?_
 refine R2 (xo1 (ps:=[.ptr 2 0,.ptr 3 0]) rfl) rfl rfl (RE (xa9 (fun j=>cond (Nat.beq j 2) 2 (3)) (c_SearchI ds x hpw hdl) fi92 rfl (krC (ρ:=fun j=>cond (Nat.beq j 2) 2 (3)) (k:=2) rfl (krC (ρ:=fun j=>cond (Nat.beq j 2) 2 (3)) (k:=3) rfl (krN (ρ:=fun j=>cond (Nat.beq j 2) 2 (3))))) (krC (ρ:=fun j=>cond (Nat.beq j 2) 2 (3)) (k:=2) rfl (krC (ρ:=fun j=>cond (Nat.beq j 2) 2 (3)) (k:=3) rfl (krN (ρ:=fun j=>cond (Nat.beq j 2) 2 (3))))) ⟨⟨rfl,(SupX.lit rfl)⟩,⟨rfl,(SupX.lit rfl)⟩,trivial⟩ rfl) ⟨rfl,rfl,trivial⟩ ⟨rfl,rfl,trivial⟩ trivial ?_)
 refine A4 ?_
 exact x3 Plain.mk' rfl rfl Le.refl
theorem c_parts (ds:List Int) (f:Fa) (hpw:ds.Pairwise (· < ·)) (hdl:ds.length≤2000000):
  Ct Tryz.prog 40 [tL 1 false tI ds,tFa f] (tT [tI (ixD ds f.lo),tI (ixD ds f.hi)]):=by
 refine Ct.intro Tryz.func40 rfl Tryz.ntmps40 rfl ?_
 intro w F
 refine A12 ?_
 refine R2 (x4 (c_SearchInts ds f.lo hpw hdl) fi67 rfl) rfl rfl ?_
 refine A3 ?_
 refine R2 (x4 (c_SearchInts ds f.hi hpw hdl) fi67 rfl) rfl rfl ?_
 refine A5 ?_
 exact xc9 Plain.mk' rfl rfl rfl Le.refl Le.refl
end An.S
namespace An
open Go
section
variable {P:Program} {c:Base} {g:Slots} {h:Keys} {al:Names} {d ty:Nat} {pos:String} {af:Array Edge} {gd:Option (Nat×Bool)}
end
section
variable {P:Program} {c:Base} {d ty:Nat} {pos:String} {af:Array Edge} {gd:Option (Nat×Bool)}
def ArgsR (k es len:Nat) (t0:Ty):List Ent→List Ty→Prop
 | [],[]=>True
 | e::r,t::s=>(e= .val t∨(e= .own (.sl k es 0 len)∧t=t0))∧ArgsR k es len t0 r s
 | _,_=>False
theorem ArgsR.all {g:Slots} {h:Keys} {al:Names} {a:Act} {w:World} {η:Env} {k T es len:Nat} {agg:Bool} {ts:List Ent} {α:Type} {f:α→Ty} {zs:List α} (st:St' c g h al a w η) (hk:h k=some ⟨T,es,agg,ts⟩) (hlb:NoLb c) (hts:(ts.drop 0).take len=zs.map fun x=> .val (f x)) (hl:zs.length=len):
  ∀{xs:List Operand} {es':List Ent} {us:List Ty},Rd g (xs.zip es')→xs.length=us.length→ArgsR k es len (tL es agg f zs) es' us→Tup.all (c.dom (upd h k none) η) w us (xs.map a.eval)
 | [],_,[],_,_,_=>trivial
 | x::xs,e::es',u::us,hr,hn,ha=>by
  refine ⟨?_,ArgsR.all st hk hlb hts hl hr.2 (by simpa using hn) ha.2⟩
  rcases ha.1 with e1 | ⟨e1,e2⟩
  ·subst e1
   exact (x8 (st.drop k) hr.1).1
  ·subst e1;subst e2
   exact st.give hk hlb hts hl (x8 st hr.1).1
 | [],_,_::_,_,hn,_=>by simp at hn
 | _::_,_,[],_,hn,_=>by simp at hn
 | _::_,[],_::_,_,_,ha=>ha.elim
theorem d_callR {f:FuncId} {xs:List Operand} {aT:Array TypeId} {us:List Ty} {r:Ty} {α:Type} {ft:α→Ty} {zs:List α} {ts:List Ent} {agg:Bool} (k T es len:Nat) (ents:List Ent) (hsc: ∀F F' w v,r.p F w v→r.p F' w v) (hc:Ct P f us r) (hf:FnI P f) (hlb:NoLb c)
  (hts:(ts.drop 0).take len=zs.map fun x=> .val (ft x)) (hzl:zs.length=len) (ha:ArgsR k es len (tL es agg ft zs) ents us) (hl:xs.length=us.length):
  Does P c ⟨some d,.call {callee:= .value (.func f),args:=xs.toArray,argTypes:=aT},ty,pos,af,gd⟩ ⟨xs.zip ents,[(k,⟨T,es,agg,ts⟩)],some (d,some (.val r)),[],[]⟩:=by
 intro g h al a w hp ⟨η,st⟩
 obtain ⟨fn,h1,h2,h3⟩:=hf
 have hargs:=ArgsR.all st hp.kr.1 hlb hts hzl hp.rd hl ha
 have hrun:(execOp a.eval ⟨some d,.call {callee:= .value (.func f),args:=xs.toArray,argTypes:=aT},ty,pos,af,gd⟩).run P w= .ok (.enter f (xs.map a.eval).toArray) w:=by
  simp only [execOp,resolve,Act.eval,Deferred.ofValue,Sem.run_bind,Sem.run_pure,Result.andThen_ok,invoke]
  simp only [Array.append_empty,Array.empty_append,List.map_toArray]
  exact xg7 h1 h2 h3 _ w
 refine xo2 hrun (Calls.mono (hc _ w (xs.map a.eval) hargs) ?_)
 rintro e w' ⟨v,rfl,hext,hr⟩
 exact ⟨v,rfl,η,(st.ext hext).put (hp.d _ rfl) (e:= .val r) (hsc _ _ _ _ hr) (fun k hk=>by cases hk)⟩
end
def cP (a b:Nat):Nat:=2 ^ a*(2*b+1)
theorem cP_pos {a b:Nat}:0 < cP a b:=Nat.mul_pos (Nat.pow_pos (by decide)) (by omega)
theorem cP_succ {a b:Nat}:cP (a+1) b=2*cP a b:=by rw [cP,cP,Nat.pow_succ,Nat.mul_comm (2 ^ a) 2,Nat.mul_assoc]
theorem cP_zero {b:Nat}:cP 0 b=2*b+1:=by simp [cP]
theorem cP_inj: ∀{a b a' b':Nat},cP a b=cP a' b'→a=a'∧b=b'
 | 0,b,0,b',h=>by rw [cP_zero,cP_zero] at h;exact ⟨rfl,by omega⟩
 | a+1,b,a'+1,b',h=>by
  rw [cP_succ,cP_succ] at h
  have:=cP_inj (a:=a) (b:=b) (a':=a') (b':=b') (by omega)
  exact ⟨by omega,this.2⟩
 | 0,b,a'+1,b',h=>by rw [cP_zero,cP_succ] at h;omega
 | a+1,b,0,b',h=>by rw [cP_zero,cP_succ] at h;omega
def cLs:List Nat→Nat
 | []=>0
 | x::r=>cP x (cLs r)
theorem cLs_inj: ∀{l m:List Nat},cLs l=cLs m→l=m
 | [],[],_=>rfl
 | [],y::s,h=>by simp only [cLs] at h;have:=cP_pos (a:=y) (b:=cLs s);omega
 | x::r,[],h=>by simp only [cLs] at h;have:=cP_pos (a:=x) (b:=cLs r);omega
 | x::r,y::s,h=>by
  simp only [cLs] at h
  obtain ⟨h1,h2⟩:=cP_inj h
  rw [h1,cLs_inj h2]
theorem map_injL {α β:Type} {f:α→β} (hf: ∀x y,f x=f y→x=y): ∀{l m:List α},l.map f=m.map f→l=m
 | [],[],_=>rfl
 | [],_::_,h=>by cases h
 | _::_,[],h=>by cases h
 | x::r,y::s,h=>by
  simp only [List.map_cons,List.cons.injEq] at h
  rw [hf x y h.1,map_injL hf h.2]
structure MK (α β:Type) where
  fk:α→Value
  fv:β→Value
  ca:α→Nat
  cb:β→Nat
  ja: ∀x y,ca x=ca y→x=y
  jb: ∀x y,cb x=cb y→x=y
structure MS (α β:Type) where
  b:Nat
  l:List (α×β)
  it:Option (Nat×List Nat)
variable {α β:Type}
def MK.ents (M:MK α β):Nat→List (α×β)→List MapEntry
 | _,[]=>[]
 | i,p::r=>⟨M.fk p.1,M.fv p.2,i⟩::M.ents (i+1) r
def MK.obj (M:MK α β) (l:List (α×β)):Obj:= .map (M.ents 0 l).toArray l.length
def MK.c2 (M:MK α β) (p:α×β):Nat:=cP (M.ca p.1) (M.cb p.2)
theorem MK.c2_inj (M:MK α β) (x y:α×β) (h:M.c2 x=M.c2 y):x=y:=by
 obtain ⟨h1,h2⟩:=cP_inj h
 exact Prod.ext (M.ja _ _ h1) (M.jb _ _ h2)
def cIt:Option (Nat×List Nat)→Nat
 | none=>0
 | some (r,q)=>cP r (cLs q)
theorem cIt_inj: ∀{x y:Option (Nat×List Nat)},cIt x=cIt y→x=y
 | none,none,_=>rfl
 | none,some (r,q),h=>by simp only [cIt] at h;have:=cP_pos (a:=r) (b:=cLs q);omega
 | some (r,q),none,h=>by simp only [cIt] at h;have:=cP_pos (a:=r) (b:=cLs q);omega
 | some (r,q),some (r',q'),h=>by
  obtain ⟨h1,h2⟩:=cP_inj h
  rw [h1,cLs_inj h2]
def MK.code (M:MK α β):Option (MS α β)→Nat
 | none=>0
 | some s=>cP s.b (cP (cLs (s.l.map M.c2)) (cIt s.it))
theorem MK.code_inj (M:MK α β): ∀{x y:Option (MS α β)},M.code x=M.code y→x=y
 | none,none,_=>rfl
 | none,some s,h=>by simp only [MK.code] at h;have:=cP_pos (a:=s.b) (b:=cP (cLs (s.l.map M.c2)) (cIt s.it));omega
 | some s,none,h=>by simp only [MK.code] at h;have:=cP_pos (a:=s.b) (b:=cP (cLs (s.l.map M.c2)) (cIt s.it));omega
 | some ⟨b,l,t⟩,some ⟨b',l',t'⟩,h=>by
  obtain ⟨h1,h2⟩:=cP_inj h
  obtain ⟨h3,h4⟩:=cP_inj h2
  have h1:b=b':=h1
  have h3:l=l':=map_injL M.c2_inj (cLs_inj h3)
  have h4:t=t':=cIt_inj h4
  rw [h1,h3,h4]
def MK.at (M:MK α β):Option (MS α β)→Dom→Dom→World→Prop
 | none,_,_,_=>True
 | some s,O,V,w=>(w.heap[s.b]? =some (M.obj s.l)∧V s.b∧ ¬O s.b)∧ ∀r q,s.it=some (r,q)→w.heap[r]? =some (.mapIter (some s.b) s.l.length q.toArray s.l.length)∧V r∧ ¬O r∧r≠s.b
def MK.J (M:MK α β) (n:Nat) (O V:Dom) (w:World):Prop:= ∃s,M.code s=n∧M.at s O V w
theorem MK.J_at (M:MK α β) {s:Option (MS α β)} {O V:Dom} {w:World}:M.J (M.code s) O V w↔M.at s O V w:=by
 constructor
 ·rintro ⟨t,h1,h2⟩
  rw [←M.code_inj h1];exact h2
 ·exact fun h=>⟨s,rfl,h⟩
theorem MK.Jc (M:MK α β):JcOf M.J:=by
 rintro n O O' V w w' ⟨s,h1,h2⟩ hs hO
 refine ⟨s,h1,?_⟩
 cases s with
 | none=>trivial
 | some s=>
  obtain ⟨⟨h3,h4,h5⟩,h6⟩:=h2
  have key: ∀b,b < w.heap.size→ ¬O b→ ¬O' b:=fun b hb h h'=>by
   rcases (hO b h').2 with h7 | h7
   ·exact h h7
   ·omega
  refine ⟨⟨(hs.block _ (xa6 h3) h5).trans h3,h4,key _ (xa6 h3) h5⟩,fun r q hr=> ?_⟩
  obtain ⟨h7,h8,h9,h10⟩:=h6 r q hr
  exact ⟨(hs.block _ (xa6 h7) h9).trans h7,h8,key _ (xa6 h7) h9,h10⟩
structure MB (M:MK α β) (c:Base) (K:Nat):Prop where
  yk:c.yk=some K
  ln:K∈c.ln
  c0:c.lη.c K=0
  ro:c.ro=none
  J:c.J=M.J
def Base.maps (N:Nat) (w:World) (F:Dom) (K:Nat) (M:MK α β):Base:=⟨N,w,F,[K],⟨fun _=>0,fun _=>0,fun _=>False⟩,fun _=>False,none,[],[],fun _=>False,some K,fun _=>False,M.J,M.Jc⟩
theorem MB.mk' {M:MK α β} {N K:Nat} {w:World} {F:Dom}:MB M (Base.maps N w F K M) K:=⟨rfl,by simp [Base.maps],rfl,rfl,rfl⟩
theorem Plain.maps {M:MK α β} {N K:Nat} {w:World} {F:Dom}:Plain (Base.maps N w F K M) w F:=⟨rfl,rfl,fun _ h=>h,fun _ h=>h,trivial⟩
section
variable {P:Program} {c:Base} {g:Slots} {h:Keys} {al:Names} {Q:Exit→Act→World→Prop} {M:MK α β} {K:Nat}
theorem wl_ghost {A:Array Oper} {rest:List Oper} {o:Oper} {d:Nat} {s:Option (MS α β)} {ι:Type} (p:ι→Prop) (t:ι→Ty) (s':ι→Option (MS α β)) (hB:MB M c K) (hdst:o.dst=some d)
  (hw: ∀a w η,St' c g h al a w η→Region.wanted o (yielded A a.tmps)=true) (hdN:Nat.blt d c.N=true) (hK:h K=some ⟨M.code s,1,false,[]⟩)
  (hrun: ∀a w η,St' c g h al a w η→M.at s (c.chg h η) η.vo w→ ∃i v w' V',(execOp a.eval o).run P w= .ok (.value v) w'∧Kept η.vo V' w w'∧M.at (s' i) (c.chg h η) V' w'∧(∀F,(t i).p F w' v)∧p i)
  (H: ∀i,p i→wl P c A Q rest (upd g d (some (.val (t i)))) (upd h K (some ⟨M.code (s' i),1,false,[]⟩)) al):wl P c A Q (o::rest) g h al:=fun a w ⟨η,st⟩=>by
 unfold wpListIn
 rw [if_pos (hw a w η st)]
 have hj:=st.jj K _ hB.yk hK
 rw [hB.J] at hj
 obtain ⟨i,v,w',V',h1,h2,h3,h4,h5⟩:=hrun a w η st (M.J_at.1 hj)
 refine xc6 h1 ?_
 have s2:=st.fed hB.yk hB.ln hB.c0 hK h2 (m:=M.code (s' i)) (by rw [hB.J];exact M.J_at.2 h3)
 rw [hdst]
 exact H i h5 _ _ ⟨_,s2.put (by simpa using hdN) (e:= .val (t i)) (h4 _) fun k hk=>by cases hk⟩
theorem wl_ghost0 {A:Array Oper} {rest:List Oper} {o:Oper} {s:Option (MS α β)} (s':Option (MS α β)) (hB:MB M c K) (hdst:o.dst=none)
  (hw: ∀a w η,St' c g h al a w η→Region.wanted o (yielded A a.tmps)=true) (hK:h K=some ⟨M.code s,1,false,[]⟩)
  (hrun: ∀a w η,St' c g h al a w η→M.at s (c.chg h η) η.vo w→ ∃w' V',(execOp a.eval o).run P w= .ok .skip w'∧Kept η.vo V' w w'∧M.at s' (c.chg h η) V' w')
  (H:wl P c A Q rest g (upd h K (some ⟨M.code s',1,false,[]⟩)) al):wl P c A Q (o::rest) g h al:=fun a w ⟨η,st⟩=>by
 unfold wpListIn
 rw [if_pos (hw a w η st)]
 have hj:=st.jj K _ hB.yk hK
 rw [hB.J] at hj
 obtain ⟨w',V',h1,h2,h3⟩:=hrun a w η st (M.J_at.1 hj)
 refine upon_skip h1 ?_
 have s2:=st.fed hB.yk hB.ln hB.c0 hK h2 (m:=M.code s') (by rw [hB.J];exact M.J_at.2 h3)
 rw [hdst]
 exact H _ _ ⟨_,s2⟩
end
variable {α β:Type} {M:MK α β}
theorem MK.ents_len (M:MK α β): ∀(l:List (α×β)) (i:Nat),(M.ents i l).length=l.length
 | [],_=>rfl
 | _::r,i=>by rw [MK.ents,List.length_cons,M.ents_len r];rfl
theorem MK.ents_get (M:MK α β): ∀(l:List (α×β)) (i j:Nat),(M.ents i l)[j]? =l[j]?.map fun p=>⟨M.fk p.1,M.fv p.2,i+j⟩
 | [],_,_=>by simp [MK.ents]
 | p::r,i,0=>by simp [MK.ents]
 | p::r,i,j+1=>by
  rw [MK.ents,List.getElem?_cons_succ,List.getElem?_cons_succ,M.ents_get r (i+1) j,show i+1+j=i+(j+1) by omega]
section
variable [DecidableEq α]
def getI (a:α):Nat→List (α×β)→Option (Nat×β)
 | _,[]=>none
 | i,p::r=>if a=p.1 then some (i,p.2) else getI a (i+1) r
theorem getI_some {a:α}: ∀{l:List (α×β)} {i j:Nat} {v:β},getI a i l=some (j,v)→i≤j∧l[j - i]? =some (a,v)
 | [],_,_,_,h=>by cases h
 | p::r,i,j,v,h=>by
  rw [getI] at h
  split at h
  ·rename_i e
   cases h
   exact ⟨Nat.le_refl _,by simp [e]⟩
  ·obtain ⟨h1,h2⟩:=getI_some h
   refine ⟨by omega,?_⟩
   rw [show j - i=(j - (i+1))+1 by omega,List.getElem?_cons_succ];exact h2
def getM (l:List (α×β)) (a:α):Option β:=(getI a 0 l).map (·.2)
def entV (z:β) (l:List (α×β)) (a:α):β:=((getI a 0 l).map (·.2)).getD z
def putM (l:List (α×β)) (a:α) (v:β):List (α×β):=match getI a 0 l with
 | some (i,_)=>l.set i (a,v)
 | none=>l++[(a,v)]
theorem find_ents {d:TypeDesc} (hs: ∀x y,Instr.sameNow d (M.fk x) (M.fk y)=some (decide (x=y))) (a:α): ∀(l:List (α×β)) (i:Nat),Instr.findNow d (M.fk a) (M.ents i l) i=some ((getI a i l).map fun x=>(x.1,M.fv x.2))
 | [],_=>rfl
 | p::r,i=>by
  rw [MK.ents,Instr.findNow,getI]
  by_cases h:a=p.1
  ·simp [hs,h]
  ·simp [hs,h,find_ents hs a r (i+1)]
end
structure MapF [DecidableEq α] (P:Program) (t:TypeId) (M:MK α β) (z:β):Prop where
  und: ∃kt e d,P.underlying t=some (.map kt e)∧P.underlying kt=some d∧(∀x y,Instr.sameNow d (M.fk x) (M.fk y)=some (decide (x=y)))∧(∀x,MapKept.IsKey d (M.fk x))∧(∀x,Instr.sameBits 10000 (M.fk x) (M.fk x)=true)∧ ∀w,(zeroValue e).run P w= .ok (M.fv z) w
section
variable {P:Program} {w:World} {b:Nat} {l:List (α×β)} [DecidableEq α] {t:TypeId} {z:β}
theorem run_lookupM (hf:MapF P t M z) (hb:w.heap[b]? =some (M.obj l)) (a:α):(Instr.lookup t (.map (some b)) (M.fk a) false).run P w= .ok (M.fv ((getM l a).getD z)) w:=by
 obtain ⟨kt,e,d,ht,hd,hs,hk,hy,hz⟩:=hf.und
 have h1:=MapKept.run_findKey (w:=w) hd (find_ents hs a l 0)
 have h2:=fun em=>MapKept.run_checkKey (w:=w) hd (hk a) em 9999
 have hb':w.heap[b]? =some (.map (M.ents 0 l).toArray l.length):=hb
 cases hg:getI a 0 l with
 | none=>simp [hg] at h1;simp [Instr.lookup,run_underlying ht,MapKept.run_getObj_map hb',h2,h1,hz,Result.andThen,getM,hg]
 | some x=>simp [hg] at h1;simp [Instr.lookup,run_underlying ht,MapKept.run_getObj_map hb',h2,h1,Result.andThen,getM,hg]
omit [DecidableEq α] in
theorem ents_push {p:α×β}:(M.ents 0 l).toArray.push ⟨M.fk p.1,M.fv p.2,l.length⟩=(M.ents 0 (l++[p])).toArray:=by
 apply Array.ext'
 rw [Array.toList_push]
 apply List.ext_getElem?
 intro i
 rw [M.ents_get]
 rcases Nat.lt_trichotomy i l.length with h | h | h
 ·rw [List.getElem?_append_left (by rw [M.ents_len];exact h),List.getElem?_append_left h,M.ents_get]
 ·subst h
  rw [List.getElem?_append_right (by rw [M.ents_len];exact Nat.le_refl _),List.getElem?_append_right (Nat.le_refl _),M.ents_len];simp
 ·rw [List.getElem?_append_right (by rw [M.ents_len];omega),List.getElem?_append_right (by omega),M.ents_len,List.getElem?_eq_none (by simp;omega),List.getElem?_eq_none (by simp;omega)];rfl
omit [DecidableEq α] in
theorem ents_set {i:Nat} {p:α×β} {f:MapEntry→MapEntry} (hf: ∀q,l[i]? =some q→f ⟨M.fk q.1,M.fv q.2,i⟩=⟨M.fk p.1,M.fv p.2,i⟩):(M.ents 0 l).modify i f=M.ents 0 (l.set i p):=by
 apply List.ext_getElem?
 intro j
 rw [M.ents_get,List.getElem?_modify,List.getElem?_set,M.ents_get]
 by_cases h:i=j
 ·subst h
  cases hq:l[i]? with
  | none=>
   have:l.length≤i:=List.getElem?_eq_none_iff.1 hq
   simp;omega
  | some q=>
   have:=(List.getElem?_eq_some_iff.1 hq).1
   simp [hf q hq,this]
 ·simp [h]
end
section
variable {P:Program} {w:World} {b:Nat} {l:List (α×β)} {t:TypeId}
end
section
variable {P:Program} {w:World} {b:Nat} {l:List (α×β)} [DecidableEq α] {t:TypeId} {z:β}
theorem run_updateM (hf:MapF P t M z) (hb:w.heap[b]? =some (M.obj l)) (a:α) (v:β):(Instr.mapUpdate t (.map (some b)) (M.fk a) (M.fv v)).run P w= .ok () (ChangeMaps.setBlock w b (M.obj (putM l a v))):=by
 obtain ⟨kt,e,d,ht,hd,hs,hk,hy,hz⟩:=hf.und
 have h1:=MapKept.run_findKey (w:=w) hd (find_ents hs a l 0)
 have h2:=fun em=>MapKept.run_checkKey (w:=w) hd (hk a) em 9999
 have hb':w.heap[b]? =some (.map (M.ents 0 l).toArray l.length):=hb
 have hset:=fun o=>MapKept.run_setObj_map (P:=P) o hb'
 cases hg:getI a 0 l with
 | none=>
  simp [hg] at h1
  have hp:=ents_push (M:=M) (l:=l) (p:=(a,v))
  simp [Instr.mapUpdate,run_underlying ht,MapKept.run_getObj_map hb',h2,h1,hset,Result.andThen,putM,hg,ChangeMaps.setBlock,MK.obj]
  rw [←hp];simp
 | some x=>
  obtain ⟨i,u⟩:=x
  have hi:=(getI_some hg).2
  simp only [Nat.sub_zero] at hi
  simp [hg] at h1
  have he:(M.ents 0 l)[i]? =some ⟨M.fk a,M.fv u,i⟩:=by rw [M.ents_get,hi];simp
  have hm:=ents_set (M:=M) (l:=l) (i:=i) (p:=(a,v)) (f:=fun e=>{e with key:=M.fk a,val:=M.fv v}) (fun q hq=>by rfl)
  simp [Instr.mapUpdate,run_underlying ht,MapKept.run_getObj_map hb',h2,h1,he,Instr.keyThatStays,hy,hset,Result.andThen,putM,hg,ChangeMaps.setBlock,MK.obj,hm]
end
theorem stp_set {V:Dom} {w:World} {b:Nat} {o:Obj} (hV:V b):Stp V w (ChangeMaps.setBlock w b o):=⟨rfl,rfl,rfl,by simp [ChangeMaps.setBlock],fun x _ hx=>by
 show (w.heap.setIfInBounds b o)[x]? =_
 rw [Array.getElem?_setIfInBounds,if_neg (fun e=>hx (by rw [←e];exact hV))]⟩
theorem set_same {w:World} {b:Nat} {o o':Obj} (hb:w.heap[b]? =some o):(ChangeMaps.setBlock w b o').heap[b]? =some o':=(MapKept.heap_set hb).1
section
variable {P:Program} {c:Base} {g:Slots} {h:Keys} {al:Names} {Q:Exit→Act→World→Prop} {K:Nat} {A:Array Oper} {rest:List Oper} {d ty:Nat} {pos:String} {af:Array Edge} {gd:Option (Nat×Bool)} {t:TypeId} {b:Nat} {l:List (α×β)}
theorem kept_same {a:Act} {w w':World} {η:Env} (st:St' c g h al a w η) (hs:Stp η.vo w w'):Kept η.vo η.vo w w':=
 ⟨hs,fun _ h=>h,fun b hb=>⟨Nat.lt_of_lt_of_le (st.fr.vnew b hb).1 hs.size,.inl hb⟩⟩
theorem kept_new {a:Act} {w:World} {η:Env} (o:Obj) (st:St' c g h al a w η):Kept η.vo (fun x=>η.vo x∨x=w.heap.size) w (w.alloc o):=
 ⟨⟨rfl,rfl,rfl,by simp,fun b hb _=>(MapKept.heap_alloc w o).2 b hb⟩,fun _ h=> .inl h,fun b hb=>by
  rcases hb with hb | rfl
  ·exact ⟨by have:=(st.fr.vnew b hb).1;simp;omega,.inl hb⟩
  ·exact ⟨by simp,.inr (Nat.le_refl _)⟩⟩
theorem wl_makeM (hB:MB M c K) (hw: ∀a w η,St' c g h al a w η→Region.wanted ⟨some d,.makeMap t none,ty,pos,af,gd⟩ (yielded A a.tmps)=true) (hdN:Nat.blt d c.N=true) (hK:h K=some ⟨0,1,false,[]⟩)
  (H: ∀b,wl P c A Q rest (upd g d (some (.val (tE (.map (some b)))))) (upd h K (some ⟨M.code (some ⟨b,[],none⟩),1,false,[]⟩)) al):wl P c A Q (⟨some d,.makeMap t none,ty,pos,af,gd⟩::rest) g h al:=
 wl_ghost (s:=none) (fun _=>True) (fun b=>tE (.map (some b))) (fun b=>some ⟨b,[],none⟩) hB rfl hw hdN hK (fun a w η st _=>⟨w.heap.size,_,_,_,rfl,kept_new _ st,⟨⟨(MapKept.heap_alloc w _).1,.inr rfl,fun hO=>absurd (st.chg_lt hO) (Nat.lt_irrefl _)⟩,fun r q hr=>by cases hr⟩,fun _=>rfl,trivial⟩) fun b _=>H b
theorem wl_putM [DecidableEq α] {z:β} {x y u:Operand} {a:α} {v:β} (hf:MapF P t M z) (hB:MB M c K) (hw: ∀a w η,St' c g h al a w η→Region.wanted ⟨none,.mapUpdate t x y u,ty,pos,af,gd⟩ (yielded A a.tmps)=true)
  (hx:look g x=some (.val (tE (.map (some b))))) (hy:look g y=some (.val (tE (M.fk a)))) (hu:look g u=some (.val (tE (M.fv v)))) (hK:h K=some ⟨M.code (some ⟨b,l,none⟩),1,false,[]⟩)
  (H:wl P c A Q rest g (upd h K (some ⟨M.code (some ⟨b,putM l a v,none⟩),1,false,[]⟩)) al):wl P c A Q (⟨none,.mapUpdate t x y u,ty,pos,af,gd⟩::rest) g h al:=
 wl_ghost0 (s:=some ⟨b,l,none⟩) (some ⟨b,putM l a v,none⟩) hB rfl hw hK (fun a' w η st hm=>by
  have e1:a'.eval x= .map (some b):=(x8 st hx).1
  have e2:a'.eval y=M.fk a:=(x8 st hy).1
  have e3:a'.eval u=M.fv v:=(x8 st hu).1
  obtain ⟨⟨h1,h2,h3⟩,_⟩:=hm
  refine ⟨_,η.vo,?_,kept_same st (stp_set (b:=b) (o:=M.obj (putM l a v)) h2),⟨⟨set_same h1,h2,h3⟩,fun r q hr=>by cases hr⟩⟩
  simp only [execOp,e1,e2,e3,Sem.run_bind,run_updateM hf h1,Result.andThen];rfl) H
theorem d_lookupM [DecidableEq α] {z:β} {x y:Operand} (hf:MapF P t M z) (hB:MB M c K) (b:Nat) (l:List (α×β)) (a:α):
  Does P c ⟨some d,.lookup t x y false,ty,pos,af,gd⟩ ⟨[(x,.val (tE (.map (some b)))),(y,.val (tE (M.fk a)))],[(K,⟨M.code (some ⟨b,l,none⟩),1,false,[]⟩)],some (d,some (.val (tE (M.fv (entV z l a))))),[],[]⟩:=
 Does.value rfl fun g h al a' w η hrd hkr st=>by
  have e1:a'.eval x= .map (some b):=(x8 st hrd.1).1
  have e2:a'.eval y=M.fk a:=(x8 st hrd.2.1).1
  have hj:=st.jj K _ hB.yk hkr.1
  rw [hB.J] at hj
  have hj:M.J (M.code (some ⟨b,l,none⟩)) (c.chg h η) η.vo w:=hj
  obtain ⟨⟨h1,_⟩,_⟩:=M.J_at.1 hj
  refine ⟨_,w,?_,Ext.refl w,rfl,fun k hk=>by cases hk⟩
  simp only [execOp,e1,e2,Sem.run_bind,run_lookupM hf h1,Result.andThen];rfl
end
theorem Ct.introM {P:Program} {f:FuncId} {fn:Func} {x:Code} {N:Nat} {ts:List Ty} {r:Ty} (M:MK α β) (K:Nat) (hf:P.funcs[f]? =some fn) (hb:fn.body=some x) (hN:fn.ntmps=N) (hlb:Nat.ble ts.length N=true)
  (H: ∀w F,MB M (Base.maps N w F K M) K→wc P (Base.maps N w F K M) x (Post P w F fn r) (args 0 ts) (upd (fun _=>none) K (some ⟨0,1,false,[]⟩)) (nm [K])):Ct P f ts r:=by
 intro F w vs hvs
 have hl:ts.length≤N:=Nat.le_of_ble_eq_true hlb
 have hlen:vs.length=ts.length:=by
  clear H hlb hl
  induction ts generalizing vs with
  | nil=>cases vs with
   | nil=>rfl
   | cons=>exact hvs.elim
  | cons t r ih=>cases vs with
   | nil=>exact hvs.elim
   | cons v s=>simp [ih s hvs.2]
 have hkey: ∀k y,upd (fun _=>none) K (some (⟨0,1,false,[]⟩:HEnt)) k=some y→k=K∧y=⟨0,1,false,[]⟩:=fun k y hy=>by
  by_cases hk:k=K
  ·subst hk;rw [xa7] at hy;cases hy;exact ⟨rfl,rfl⟩
  ·rw [xa4 _ _ _ hk] at hy;cases hy
 have hK:memN K [K]=true:=xb4.2 (by simp)
 have hown: ∀b,¬Own (upd (fun _=>none) K (some (⟨0,1,false,[]⟩:HEnt))) ⟨fun _=>0,fun _=>0,fun _=>False⟩ b:=by
  rintro b ⟨k,y,_,hc,_⟩
  exact absurd hc (Nat.lt_irrefl 0)
 refine xi9 hf hb (H w F MB.mk' _ w ⟨⟨fun _=>0,fun _=>0,fun _=>False⟩,?_⟩)
 refine ⟨?_,rfl,fun s e hs=> ?_,fun k x hx=> ?_,fun k k' x x' hx _ _ hc=>absurd hc (Nat.lt_irrefl 0),⟨rfl,rfl,rfl,Nat.le_refl _,fun _ _ _ _=>rfl,fun _ hb=>hb,fun _ hb=>hb.elim⟩,fun k hk=> ?_,fun x hx=>(by cases hx),fun b hb=>hb.elim,fun k hk=> ?_,fun k x hk hx=> ?_,fun b hb=>hb.elim⟩
 ·simp [hlen,hN,Base.maps];omega
 ·obtain ⟨j,t,h1,h2,h3⟩:=args_spec ts 0 s e hs
  subst h3
  have hj:j < ts.length:=(List.getElem?_eq_some_iff.1 h2).1
  obtain ⟨v,hv,hp⟩:=Tup.get ts vs j t hvs h2
  refine ⟨by show s < N;omega,fun k hk=>(by cases hk),?_⟩
  have e1:(vs.toArray++Array.replicate (fn.ntmps - vs.toArray.size) undef).getD s undef=v:=by
   rw [Array.getD_eq_getD_getElem?,Array.getElem?_append,if_pos (by simp;omega)]
   rw [h1,Nat.zero_add,List.getElem?_toArray,hv];rfl
  show t.p _ w _
  simp only [e1]
  exact t.mono hp fun b o hb hl _=>⟨⟨.inr ⟨hb,fun hv=>hv⟩,hown b,fun hv=>hv,fun hv=>hv⟩,hl⟩
 ·obtain ⟨rfl,rfl⟩:=hkey k x hx
  exact ⟨hK,fun j hj=>(by cases hj),⟨by simp,by simp,fun _=>rfl,by simp,fun hc=>absurd hc (Nat.lt_irrefl 0)⟩,fun hc=>absurd hc (Nat.lt_irrefl 0)⟩
 ·have hk:k∈[K]:=hk
  rw [List.mem_singleton.1 hk]
  exact ⟨hK,rfl,rfl⟩
 ·have hk:some K=some k:=hk
  cases hk
  exact hK
 ·have hk:some K=some k:=hk
  cases hk
  rw [xa7] at hx
  cases hx
  exact (M.J_at (s:=none)).2 trivial
abbrev MK.cd (M:MK α β) (b:Nat) (l:List (α×β)):Nat:=M.code (some ⟨b,l,none⟩)
variable {α β:Type}
def tMp (M:MK α β):Option (List (α×β))→Ty
 | none=>tE (.map none)
 | some l=>⟨fun F w v=> ∃b,v= .map (some b)∧F b∧w.heap[b]? =some (M.obj l),fun ⟨b,h1,h2,h3⟩ hk=>let h4:=hk b _ h2 h3 rfl;⟨b,h1,h4.1,h4.2⟩⟩
section
variable {P:Program} {c:Base} {d ty:Nat} {pos:String} {af:Array Edge} {gd:Option (Nat×Bool)} {M:MK α β} {g:Slots} {h:Keys} {al:Names}
theorem E_ret2M {N K:Nat} {w0:World} {F:Dom} {fn:Func} {t u b:Nat} {l:List (α×β)} {o:Option (List (α×β))} {r2 r2':Ty} (hr:fn.results= #[.tmp t,.tmp u]) (hx:g t=some (.val (tE (.map (some b))))) (hK:h K=some ⟨M.code (some ⟨b,l,none⟩),1,false,[]⟩) (hy:g u=some (.val r2')) (ho:o=some l) (h2:Le r2' r2):
  wk (Base.maps N w0 F K M) .ret (Post P w0 F fn (tT [tMp M o,r2])) g h al:=by
 subst ho
 refine K_endR (.inl rfl) Plain.maps.df fun df pn a w η s=> ?_
 have h0: ∀b,η.vo b→w0.heap.size≤b:=fun b hb=>(s.fr.vnew b hb).2.2.elim (fun h=>h.elim) id
 have hj:M.J (M.code (some ⟨b,l,none⟩)) _ η.vo w:=s.jj K _ rfl hK
 obtain ⟨⟨m1,m2,m3⟩,_⟩:=(M.J_at (s:=some ⟨b,l,none⟩)).1 hj
 have e1:a.tmps.getD t undef= .map (some b):=slot_ty s hx
 have e2:=slot_ty s hy
 refine ⟨_,results_tmp2 hr a.tmps P w,⟨s.fr.os,s.fr.tape,s.fr.output,s.fr.size,fun b hb=>s.fr.block b hb (fun h=>h.elim) fun hv=>by have:=h0 b hv;omega⟩,[_,_],rfl,⟨b,e1,.inl (h0 b m2),m1⟩,r2.mono (h2 _ _ _ e2) fun b o hb hl _=>⟨hb.1.imp id fun h=>h.1,hl⟩,trivial⟩
end
theorem beqBA (a b:ByteArray):(a==b)=decide (a=b):=by
 by_cases h:a=b
 ·subst h;rw [decide_eq_true rfl];rcases a with ⟨d⟩;show (d==d)=true;simp
 ·rw [decide_eq_false h];rcases a with ⟨d⟩;rcases b with ⟨e⟩;show (d==e)=false;exact beq_false_of_ne fun h2=>h (by rw [h2])
def caS (s:ByteArray):Nat:=cLs (s.data.toList.map UInt8.toNat)
theorem caS_inj (x y:ByteArray) (h:caS x=caS y):x=y:=by
 have h1:=map_injL (f:=UInt8.toNat) (fun a b e=>UInt8.toNat_inj.1 e) (cLs_inj h)
 rcases x with ⟨a⟩;rcases y with ⟨b⟩
 exact congrArg ByteArray.mk (Array.toList_inj.1 h1)
abbrev mkSU:MK ByteArray Nat:=⟨fun s=> .string s,fun n=> .int .u8 (n:Int),caS,id,caS_inj,fun _ _ h=>h⟩
theorem mapF_SU {P:Program} {t kt e:TypeId} (h1:P.underlying t=some (.map kt e)) (h2:P.underlying kt=some .string) (h3: ∀w,(zeroValue e).run P w= .ok (.int .u8 0) w):MapF P t mkSU 0:=
 ⟨kt,e,_,h1,h2,fun x y=>by simp only [Instr.sameNow,beqBA],fun x=>by simp [MapKept.IsKey],fun x=>by simp [Instr.sameBits,beqBA],h3⟩
end An
namespace An.S
open Go
def fRight (f:Fa):Bool:=decide (1≤f.key.size) && decide (f.key.size≤24) && decide (0≤f.lo) && decide (f.lo < f.hi) && decide (f.hi≤65536) && decide (0≤f.kn) && decide (f.kn < 65536) && if f.gone=true then decide (f.v=An.va0) else f.v.valid
def kGet (m:List (ByteArray×Nat)) (k:ByteArray):Nat:=entV 0 m k
def kAdd (m:List (ByteArray×Nat)) (f:Fa):List (ByteArray×Nat):=putM m f.key (max (kGet m f.key) f.v.kind)
def kM (a:List Fa):List (ByteArray×Nat):=a.foldl kAdd []
def kBad (m:List (ByteArray×Nat)) (f:Fa):Bool:=decide (kGet m f.key≠0) && !f.gone && decide (kGet m f.key≠f.v.kind)
def kOk (a:List Fa):Bool:=(List.range a.length).all fun i=> !kBad (kM (a.take i)) (a.getD i fa0)
theorem kM_snoc {a:List Fa} {i:Nat} (hi:i < a.length):kM (a.take (i+1))=kAdd (kM (a.take i)) (a.getD i fa0):=by
 rw [List.take_succ_eq_append_getElem hi,kM,List.foldl_append,List.getD_eq_getElem?_getD,List.getElem?_eq_getElem hi];rfl
theorem kOk_bad {a:List Fa} {i:Nat} (hi:i < a.length) (h:kBad (kM (a.take i)) (a.getD i fa0)=true):kOk a=false:=ranges_stop hi (by rw [h];rfl)
theorem kBad_iff {m:List (ByteArray×Nat)} {f:Fa}:kBad m f=true↔kGet m f.key≠0∧f.gone=false∧kGet m f.key≠f.v.kind:=by
 simp only [kBad,Bool.and_eq_true,decide_eq_true_eq,Bool.not_eq_true',and_assoc]
def recOk (a:List Fa):Bool:=decide (a.length≤2000) && a.all fRight && kOk a
def ixA (p:Fa→Bool) (l:List Fa):Int:=if l.any p then ((l.takeWhile fun s=> !p s).length:Int) else -1
theorem ixA_at {p:Fa→Bool}: ∀{l:List Fa} {i:Nat},i < l.length→(l.take i).any p=false→p (l.getD i fa0)=true→(i:Int)=ixA p l
 | [],i,hi,_,_=>by simp at hi
 | x::xs,0,_,_,h=>by
  have h:p x=true:=h
  simp [ixA,h]
 | x::xs,i+1,hi,ha,h=>by
  simp only [List.take_succ_cons,List.any_cons,Bool.or_eq_false_iff] at ha
  have h2:p (xs.getD i fa0)=true:=by simpa using h
  have hi2:i < xs.length:=by simpa using hi
  have ih:=ixA_at hi2 ha.2 h2
  have hany:xs.any p=true:=List.any_eq_true.2 ⟨xs.getD i fa0,by rw [List.getD_eq_getElem?_getD,List.getElem?_eq_getElem hi2];exact List.getElem_mem hi2,h2⟩
  rw [ixA,if_pos hany] at ih
  simp only [ixA,List.any_cons,ha.1,hany,Bool.or_true,if_true,Bool.not_false,List.takeWhile_cons,List.length_cons]
  omega
theorem ixA_end {p:Fa→Bool} {l:List Fa} (h:l.any p=false): -1=ixA p l:=by simp [ixA,h]
theorem ixA_any {p:Fa→Bool} {l:List Fa}:decide (ixA p l≥0)=l.any p:=by
 rw [ixA]
 cases l.any p with
 | true=>simp
 | false=>simp
theorem anyA_next {p:Fa→Bool} {l:List Fa} {i:Nat} (hi:i < l.length):(l.take (i+1)).any p=((l.take i).any p || p (l.getD i fa0)):=by
 rw [List.take_succ_eq_append_getElem hi,List.any_append,List.getD_eq_getElem?_getD,List.getElem?_eq_getElem hi];simp
theorem anyA_all {l:List Fa}:(l.any fun f=> !fRight f)= !l.all fRight:=by
 rw [List.any_eq_not_all_not];simp
theorem mem_getDF {l:List Fa} {i:Nat} (hi:i < l.length):l.getD i fa0∈l:=by
 rw [List.getD_eq_getElem?_getD,List.getElem?_eq_getElem hi];exact List.getElem_mem hi
end An.S
namespace An
open Go
section
variable {P:Program} {c:Base} {g:Slots} {h:Keys} {al:Names} {d ty:Nat} {pos:String} {af:Array Edge} {Q:Exit→Act→World→Prop}
end
section
variable {α:Type} (L:Nat→List α) (m:Nat→Nat→α) (d:α)
variable {L m d}
end
section
variable {n es k:Nat} {κ len:Nat→Nat} {t0:Nat→Ent}
end
section
variable {P:Program} {c:Base} {g:Slots} {h:Keys} {al:Names} {a:Act} {w:World} {η:Env}
end
section
variable {P:Program} {c:Base} {d ty:Nat} {pos:String} {af:Array Edge} {gd:Option (Nat×Bool)}
end
section
variable {P:Program} {c:Base} {d ty:Nat} {pos:String} {af:Array Edge} {gd:Option (Nat×Bool)}
end
section
variable {P:Program} {c:Base} {g:Slots} {h:Keys} {al:Names} {Q:Exit→Act→World→Prop}
theorem wl_imp {A:Array Oper} {rest:List Oper} {t:Nat} {e e':Ent} (hg:g t=some e) (hi:Imp e e') (hs: ∀k∈e'.supp,k∈e.supp) (H:wl P c A Q rest (upd g t (some e')) h al):wl P c A Q rest g h al:=fun a w ⟨η,s⟩=>
 H a w ⟨η,⟨s.tn,s.df,fun q y hy=>by
  by_cases hq:q=t
  ·subst hq
   rw [xa7] at hy
   cases hy
   obtain ⟨h1,h2,h3⟩:=s.slot q e hg
   exact ⟨h1,fun k hk=>h2 k (hs k hk),hi _ _ _ _ h3⟩
  ·rw [xa4 _ _ _ hq] at hy
   exact s.slot q y hy,s.key,s.inj,s.fr,s.lk,s.pin,s.vol,s.yal,s.jj,s.lbl⟩⟩
end
end An
namespace An.S
open Go Go.Proofs An
instance fo30_4:FoI Tryz.prog 30 4 4:=⟨by kernel_rfl⟩
instance fo30_5:FoI Tryz.prog 30 5 5:=⟨by kernel_rfl⟩
instance fi7:FnI Tryz.prog 7:=⟨_,Tryz.func7,by kernel_rfl,rfl⟩
instance fi22:FnI Tryz.prog 22:=⟨_,Tryz.func22,by kernel_rfl,rfl⟩
instance fi49:FnI Tryz.prog 49:=⟨_,Tryz.func49,by kernel_rfl,rfl⟩
instance fi50:FnI Tryz.prog 50:=⟨_,Tryz.func50,by kernel_rfl,rfl⟩
instance fi51:FnI Tryz.prog 51:=⟨_,Tryz.func51,by kernel_rfl,rfl⟩
instance fi76:FnI Tryz.prog 76:=⟨_,Tryz.func76,by kernel_rfl,rfl⟩
theorem hMS:MapF Tryz.prog 83 mkSU 0:=mapF_SU Tryz.underlying83 Tryz.underlying9 (fun w=>by kernel_rfl)
theorem maxN {a b:Nat}:max (a:Int) (b:Int)=((max a b:Nat):Int):=by omega
theorem c_isKnown (d:Int):
  Ct Tryz.prog 22 [tI d] (tB (decide (0≤d) && decide (d < 65536))):=by
 refine Ct.intro Tryz.func22 rfl Tryz.ntmps22 rfl ?_
 intro w F
 refine A10 ?_
 refine RGcaseD (t:=5) rfl (fun h18=> ?_) (fun h18=> ?_)
 ·
  refine A7 ?_
  exact x3 Plain.mk' rfl rfl (Le.bool (by simp [*]))
 ·
  refine A7 ?_
  exact x3 Plain.mk' rfl rfl (Le.bool (by simp [*]))
theorem c_FRight (f:Fa) (hD:f.v.f.dig):
  Ct Tryz.prog 7 [tFa f] (tB (fRight f)):=by
 refine Ct.intro Tryz.func7 rfl Tryz.ntmps7 rfl ?_
 intro w F
 refine A11 ?_
 refine R1 (d_lenS Tryz.underlying9) rfl ?_
 refine A2 ?_
 refine RGcaseD (t:=7) rfl (fun h23=> ?_) (fun h23=> ?_)
 ·
  refine A18 ?_
  refine A18 ?_
  refine A2 ?_
  exact x3 Plain.mk' rfl rfl (Le.bool (by symm;rw [Bool.eq_false_iff];intro hr;simp only [fRight,Bool.and_eq_true,decide_eq_true_eq] at hr;first | omega | (simp_all;done) | (simp at*;omega)))
 ·
  refine A2 ?_
  refine RGon (decide_eq_false h23) rfl (d_lenS Tryz.underlying9) rfl ⟨rfl,trivial⟩ trivial trivial ?_
  refine A3 ?_
  refine RGcaseD (t:=13) rfl (fun h23_2=> ?_) (fun h23_2=> ?_)
  ·
   refine A18 ?_
   refine A14 ?_
   exact x3 Plain.mk' rfl rfl (Le.bool (by symm;rw [Bool.eq_false_iff];intro hr;simp only [fRight,Bool.and_eq_true,decide_eq_true_eq] at hr;first | omega | (simp_all;done) | (simp at*;omega)))
  ·
   refine A5 ?_
   refine RGcaseD (t:=18) rfl (fun h23_3=> ?_) (fun h23_3=> ?_)
   ·
    refine A18 ?_
    refine A9 ?_
    exact x3 Plain.mk' rfl rfl (Le.bool (by symm;rw [Bool.eq_false_iff];intro hr;simp only [fRight,Bool.and_eq_true,decide_eq_true_eq] at hr;first | omega | (simp_all;done) | (simp at*;omega)))
   ·
    refine A7 ?_
    refine RGcaseD (t:=25) rfl (fun h23_4=> ?_) (fun h23_4=> ?_)
    ·
     refine A18 ?_
     refine A2 ?_
     exact x3 Plain.mk' rfl rfl (Le.bool (by symm;rw [Bool.eq_false_iff];intro hr;simp only [fRight,Bool.and_eq_true,decide_eq_true_eq] at hr;first | omega | (simp_all;done) | (simp at*;omega)))
    ·
     refine A5 ?_
     refine RGcaseD (t:=30) rfl (fun h23_5=> ?_) (fun h23_5=> ?_)
     ·
      refine A15 ?_
      exact x3 Plain.mk' rfl rfl (Le.bool (by symm;rw [Bool.eq_false_iff];intro hr;simp only [fRight,Bool.and_eq_true,decide_eq_true_eq] at hr;first | omega | (simp_all;done) | (simp at*;omega)))
     ·
      refine A2 ?_
      refine RGon (decide_eq_false h23_5) rfl (x4 (c_isKnown f.kn) fi22 rfl) rfl ⟨rfl,trivial⟩ trivial trivial ?_
      refine A4 ?_
      refine xd3 rfl (fun h23_6=> ?_) (fun h23_6=> ?_)
      ·
       refine A7 ?_
       exact x3 Plain.mk' rfl rfl (Le.bool (by symm;rw [Bool.eq_false_iff];intro hr;simp only [fRight,Bool.and_eq_true,decide_eq_true_eq] at hr;first | omega | (simp_all;done) | (simp at*;omega)))
      ·
       refine A9 ?_
       refine xd3 rfl (fun h26=> ?_) (fun h26=> ?_)
       ·
        refine A4 ?_
        refine R0 (xd7 (r:=tS [⟨1,false,(tE (.int .u8 0))⟩,⟨4,true,(tS [⟨2,true,(tS [⟨1,false,(tE (.bool false))⟩,⟨1,false,(tLm [])⟩])⟩,⟨2,true,(tS [⟨1,false,(tE (.bool false))⟩,⟨1,false,(tLm [])⟩])⟩])⟩,⟨1,false,(tE (.int .i64 0))⟩]) (ts:=[]) bu28 zr28.2 Le.refl) (R2 (x4 (c_TSame f.v An.va0) fi23 rfl) rfl rfl ?_)
        refine A5 ?_
        exact x3 Plain.mk' rfl rfl (Le.bool (by rw [fRight];simp only [Bool.not_eq_false',Bool.and_eq_true,decide_eq_true_eq, *] at*;simp;omega))
       ·
        refine A6 ?_
        refine R1 (x4 (c_TValid f.v hD) fi24 rfl) rfl ?_
        refine A4 ?_
        exact x3 Plain.mk' rfl rfl (Le.bool (by rw [fRight];simp only [Bool.not_eq_false',Bool.and_eq_true,decide_eq_true_eq, *] at*;simp;omega))
theorem c_FValid1 (f:Fa) (hD:f.v.f.dig):
  Ct Tryz.prog 50 [tFa f] (tB (!fRight f)):=by
 refine Ct.intro Tryz.func50 rfl Tryz.ntmps50 rfl ?_
 intro w F
 refine A9 ?_
 refine R1 (x4 (c_FRight f hD) fi7 rfl) rfl ?_
 refine A5 ?_
 exact x3 Plain.mk' rfl rfl Le.refl
theorem c_FaIndex (a:List Fa) (hD: ∀f∈a,f.v.f.dig):
  Ct Tryz.prog 76 [tL 11 true tFa a,tE (.func (.func 50) #[] #[])] (tI (ixA (fun f:Fa=> !fRight f) a)):=by
 refine Ct.intro Tryz.func76 rfl Tryz.ntmps76 rfl ?_
 intro w F
 refine xf1 (s:=0) rfl (fun hl0=> ?_)
 refine A14 ?_
 refine cL (fun (i:Nat)=>i≤a.length∧(a.take i).any (fun f:Fa=> !fRight f)=false) (fun (i:Nat)=>upd (upd (upd (upd (fun _=>none) 0 (some (.val (tL 11 true tFa a)))) 1 (some (.val (tE (.func (.func 50) #[] #[]))))) 7 (some (.val (tI a.length)))) 8 (some (.val (tI i)))) (fun (i:Nat)=>fun _=>none) [] (fun (i:Nat)=>a.length - i) (0) ⟨Nat.zero_le _,rfl⟩ ?_
 intro i hI
 obtain ⟨hi,ha⟩:=hI
 refine A6 ?_
 refine x7 rfl (fun h108=> ?_) (fun h108=> ?_)
 ·
  refine A15 ?_
  refine R2 (x6 sl36 (i) (by omega) (gD (l:=a) (n:=i) (d:=fa0) (by omega))) rfl rfl ?_
  refine A1 ?_
  refine R2 (xm1 (c_FValid1 (a.getD i fa0) (hD _ (mem_getDF (by omega)))) fi50 rfl) rfl rfl ?_
  refine A2 ?_
  refine xd3 rfl (fun h109=> ?_) (fun h109=> ?_)
  ·
   refine A12 ?_
   exact x3 Plain.mk' rfl rfl (Le.int (ixA_at (by omega) ha h109))
  ·
   refine A7 ?_
   exact kF (i+1) ⟨⟨by omega,by rw [anyA_next (by omega),ha,h109];rfl⟩,(by omega)⟩
 ·
  refine A11 ?_
  exact x3 Plain.mk' rfl rfl (Le.int (ixA_end (by rw [←ha,show i=a.length by omega,List.take_length])))
theorem c_FaContains (a:List Fa) (hD: ∀f∈a,f.v.f.dig):
  Ct Tryz.prog 49 [tL 11 true tFa a,tE (.func (.func 50) #[] #[])] (tB (a.any (fun f:Fa=> !fRight f))):=by
 refine Ct.intro Tryz.func49 rfl Tryz.ntmps49 rfl ?_
 intro w F
 refine A9 ?_
 refine R2 (x4 (c_FaIndex a hD) fi76 rfl) rfl rfl ?_
 refine A5 ?_
 exact x3 Plain.mk' rfl rfl (Le.bool ixA_any)
theorem c_kinds (a:List Fa):
  Ct Tryz.prog 51 [tL 11 true tFa a] (tT [tMp mkSU (if kOk a=true then some (kM a) else none),tB (kOk a)]):=by
 refine Ct.introM mkSU 90 Tryz.func51 rfl Tryz.ntmps51 rfl ?_
 intro w F hM
 refine xf1 (s:=0) rfl (fun hl0=> ?_)
 refine A7 ?_
 refine C_regY ?_
 refine wl_makeM hM (xh6 rfl) rfl rfl (fun bm=> ?_)
 refine xc8 xd9 ⟨rfl,trivial⟩ trivial trivial rfl (xm4 ?_)
 refine A10 ?_
 refine cL (fun (i:Nat)=>i≤a.length∧ ∀j,j < i→kBad (kM (a.take j)) (a.getD j fa0)=false) (fun (i:Nat)=>upd (upd (upd (upd (upd (fun _=>none) 0 (some (.val (tL 11 true tFa a)))) 4 (some (.val (tE (.map (some bm)))))) 9 (some (.val (tL 11 true tFa a)))) 10 (some (.val (tI a.length)))) 11 (some (.val (tI i)))) (fun (i:Nat)=>upd (fun _=>none) 90 (some (⟨mkSU.cd bm (kM (a.take i)),1,false,[]⟩))) [90] (fun (i:Nat)=>a.length - i) (0) ⟨Nat.zero_le _,fun j hj=>by omega⟩ (hh:=((SubK.consI rfl ImpK.refl) SubK.nil)) ?_
 intro i hI
 obtain ⟨hi,hok⟩:=hI
 have hnx:=fun hh=>kM_snoc (a:=a) (i:=i) hh
 have hbi:=kBad_iff (m:=kM (a.take i)) (f:=(a.getD i fa0))
 refine A6 ?_
 refine x7 rfl (fun h35=> ?_) (fun h35=> ?_)
 ·
  refine A6 ?_
  refine R2 (x6 sl36 (i) (by omega) (gD (l:=a) (n:=i) (d:=fa0) (by omega))) rfl rfl ?_
  refine A1 ?_
  refine RE (xb0 (k:=6) (n:=11) (agg:=true) zr30.1 zr30.2 rfl) trivial trivial ⟨rfl,trivial⟩ ?_
  refine A8 ?_
  refine RE (d_lookupM hMS hM bm (kM (a.take i)) (a.getD i fa0).key) ⟨rfl,rfl,trivial⟩ ⟨rfl,trivial⟩ trivial ?_
  refine A9 ?_
  refine RGcaseD (t:=21) rfl (fun h37=> ?_) (fun h37=> ?_)
  ·
   refine A5 ?_
   refine RGcase (t:=26) rfl (fun h37_2=> ?_) (fun h37_2=> ?_)
   ·
    refine A3 ?_
    refine xb7 h37_2 rfl rfl (0) ti5 rfl rfl rfl (At.t (At.g 5 rfl rfl) (At.g 0 rfl rfl)) rfl ?_
    refine A4 ?_
    refine x7 rfl (fun h37_3=> ?_) (fun h37_3=> ?_)
    ·
     refine A1 ?_
     have hko:kOk a=false:=kOk_bad (a:=a) (i:=i) (by omega) (hbi.2 ⟨by simp only [kGet];omega,by simpa using h37_2,by simp only [kGet];omega⟩)
     refine A12 ?_
     exact xc9 Plain.maps rfl rfl rfl (Le.of (by rw [if_neg (by rw [hko];decide)];rfl)) (Le.bool hko.symm)
    ·
     refine A2 ?_
     refine C_regY ?_
     refine xc8 xb5 ⟨rfl,trivial⟩ trivial trivial rfl (xc8 (xd0 fo30_0.h rfl) ⟨rfl,trivial⟩ trivial trivial rfl (xp0 (0) ti9 rfl rfl rfl (At.g 0 rfl rfl) rfl rfl (xc8 xb5 ⟨rfl,trivial⟩ trivial trivial rfl (xc8 (xd0 fo30_5.h rfl) ⟨rfl,trivial⟩ trivial trivial rfl (xc8 (xd0 fo28_0.h rfl) ⟨rfl,trivial⟩ trivial trivial rfl (xp0 (0) ti5 rfl rfl rfl (At.t (At.g 5 rfl rfl) (At.g 0 rfl rfl)) rfl rfl (xc8 (d_max2) ⟨rfl,rfl,trivial⟩ trivial trivial rfl ?_)))))))
     refine wl_imp (t:=40) rfl (Imp.int maxN) (fun k hk=>by cases hk) (wl_putM (b:=bm) (l:=(kM (a.take i))) (a:=(a.getD i fa0).key) (v:=(max (kGet (kM (a.take i)) (a.getD i fa0).key) (a.getD i fa0).v.kind)) hMS hM (xh6 rfl) rfl rfl rfl rfl (xm4 ?_))
     refine A6 ?_
     have hnx:=hnx (by omega)
     have hnb:kBad (kM (a.take i)) (a.getD i fa0)=false:=Bool.eq_false_iff.2 fun hh=>by
      obtain ⟨b1,b2,b3⟩:=hbi.1 hh
      simp only [kGet] at b1 b3
      first | omega | (exact absurd b2 (by simpa using h37_2))
     exact K_fam (i+1) ⟨⟨by omega,fun j hj=>by
  by_cases hji:j=i
  ·subst hji;exact hnb
  ·exact hok j (by omega)⟩,(by omega)⟩ (Sub.int rfl (by first | omega | rfl | (dsimp only;omega)) (Sub.int rfl (by first | omega | rfl | (dsimp only;omega)) (Sub.cons rfl (Sub.cons rfl (Sub.cons rfl Sub.nil))))) ((SubK.consI (hT:=by rw [hnx];rfl) rfl (ImpK.of (by rw [hnx];rfl))) SubK.nil) (SupG.val (SupG.val (SupG.val (SupG.val (SupG.val SupG.nil))))) (SupH.cons rfl (supJL rfl) SupH.nil) (lkOk rfl)
   ·
    refine A11 ?_
    refine C_regY ?_
    refine xc8 xb5 ⟨rfl,trivial⟩ trivial trivial rfl (xc8 (xd0 fo30_0.h rfl) ⟨rfl,trivial⟩ trivial trivial rfl (xp0 (0) ti9 rfl rfl rfl (At.g 0 rfl rfl) rfl rfl (xc8 xb5 ⟨rfl,trivial⟩ trivial trivial rfl (xc8 (xd0 fo30_5.h rfl) ⟨rfl,trivial⟩ trivial trivial rfl (xc8 (xd0 fo28_0.h rfl) ⟨rfl,trivial⟩ trivial trivial rfl (xp0 (0) ti5 rfl rfl rfl (At.t (At.g 5 rfl rfl) (At.g 0 rfl rfl)) rfl rfl (xc8 (d_max2) ⟨rfl,rfl,trivial⟩ trivial trivial rfl ?_)))))))
    refine wl_imp (t:=40) rfl (Imp.int maxN) (fun k hk=>by cases hk) (wl_putM (b:=bm) (l:=(kM (a.take i))) (a:=(a.getD i fa0).key) (v:=(max (kGet (kM (a.take i)) (a.getD i fa0).key) (a.getD i fa0).v.kind)) hMS hM (xh6 rfl) rfl rfl rfl rfl (xm4 ?_))
    refine A6 ?_
    have hnx:=hnx (by omega)
    have hnb:kBad (kM (a.take i)) (a.getD i fa0)=false:=Bool.eq_false_iff.2 fun hh=>by
     obtain ⟨b1,b2,b3⟩:=hbi.1 hh
     simp only [kGet] at b1 b3
     first | omega | (exact absurd b2 (by simpa using h37_2))
    exact K_fam (i+1) ⟨⟨by omega,fun j hj=>by
  by_cases hji:j=i
  ·subst hji;exact hnb
  ·exact hok j (by omega)⟩,(by omega)⟩ (Sub.int rfl (by first | omega | rfl | (dsimp only;omega)) (Sub.int rfl (by first | omega | rfl | (dsimp only;omega)) (Sub.cons rfl (Sub.cons rfl (Sub.cons rfl Sub.nil))))) ((SubK.consI (hT:=by rw [hnx];rfl) rfl (ImpK.of (by rw [hnx];rfl))) SubK.nil) (SupG.val (SupG.val (SupG.val (SupG.val (SupG.val SupG.nil))))) (SupH.cons rfl (supJL rfl) SupH.nil) (lkOk rfl)
  ·
   refine A16 ?_
   refine C_regY ?_
   refine xc8 xb5 ⟨rfl,trivial⟩ trivial trivial rfl (xc8 (xd0 fo30_0.h rfl) ⟨rfl,trivial⟩ trivial trivial rfl (xp0 (0) ti9 rfl rfl rfl (At.g 0 rfl rfl) rfl rfl (xc8 xb5 ⟨rfl,trivial⟩ trivial trivial rfl (xc8 (xd0 fo30_5.h rfl) ⟨rfl,trivial⟩ trivial trivial rfl (xc8 (xd0 fo28_0.h rfl) ⟨rfl,trivial⟩ trivial trivial rfl (xp0 (0) ti5 rfl rfl rfl (At.t (At.g 5 rfl rfl) (At.g 0 rfl rfl)) rfl rfl (xc8 (d_max2) ⟨rfl,rfl,trivial⟩ trivial trivial rfl ?_)))))))
   refine wl_imp (t:=40) rfl (Imp.int maxN) (fun k hk=>by cases hk) (wl_putM (b:=bm) (l:=(kM (a.take i))) (a:=(a.getD i fa0).key) (v:=(max (kGet (kM (a.take i)) (a.getD i fa0).key) (a.getD i fa0).v.kind)) hMS hM (xh6 rfl) rfl rfl rfl rfl (xm4 ?_))
   refine A6 ?_
   have hnx:=hnx (by omega)
   have hnb:kBad (kM (a.take i)) (a.getD i fa0)=false:=Bool.eq_false_iff.2 fun hh=>by
    obtain ⟨b1,b2,b3⟩:=hbi.1 hh
    simp only [kGet] at b1 b3
    first | omega | (exact absurd b2 (by simpa using h37_2))
   exact K_fam (i+1) ⟨⟨by omega,fun j hj=>by
  by_cases hji:j=i
  ·subst hji;exact hnb
  ·exact hok j (by omega)⟩,(by omega)⟩ (Sub.int rfl (by first | omega | rfl | (dsimp only;omega)) (Sub.int rfl (by first | omega | rfl | (dsimp only;omega)) (Sub.cons rfl (Sub.cons rfl (Sub.cons rfl Sub.nil))))) ((SubK.consI (hT:=by rw [hnx];rfl) rfl (ImpK.of (by rw [hnx];rfl))) SubK.nil) (SupG.val (SupG.val (SupG.val (SupG.val (SupG.val SupG.nil))))) (SupH.cons rfl (supJL rfl) SupH.nil) (lkOk rfl)
 ·
  refine A6 ?_
  have hko:kOk a=true:=List.all_eq_true.2 fun j hj=>by rw [hok j (by have:=List.mem_range.1 hj;omega)];rfl
  refine A7 ?_
  exact E_ret2M rfl rfl rfl rfl (by rw [if_pos hko,show i=a.length by omega,List.take_length]) (Le.bool hko.symm)
theorem c_FcValid (a:List Fa) (hD: ∀f∈a,f.v.f.dig):
  Ct Tryz.prog 29 [tL 11 true tFa a] (tB (recOk a)):=by
 refine Ct.intro Tryz.func29 rfl Tryz.ntmps29 rfl ?_
 intro w F
 refine xf1 (s:=0) rfl (fun hl0=> ?_)
 refine A12 ?_
 refine RGcaseD (t:=8) rfl (fun h47=> ?_) (fun h47=> ?_)
 ·
  refine A13 ?_
  exact x3 Plain.mk' rfl rfl (Le.bool (by symm;rw [Bool.eq_false_iff];intro hr;simp only [recOk,Bool.and_eq_true,decide_eq_true_eq] at hr;first | omega | (rw [anyA_all,hr.1.2] at h47_2;cases h47_2)))
 ·
  refine A1 ?_
  refine RGon (decide_eq_false h47) rfl (x4 (c_FaContains a hD) fi49 rfl) rfl ⟨rfl,rfl,trivial⟩ trivial trivial ?_
  refine A3 ?_
  refine xd3 rfl (fun h47_2=> ?_) (fun h47_2=> ?_)
  ·
   refine A7 ?_
   exact x3 Plain.mk' rfl rfl (Le.bool (by symm;rw [Bool.eq_false_iff];intro hr;simp only [recOk,Bool.and_eq_true,decide_eq_true_eq] at hr;first | omega | (rw [anyA_all,hr.1.2] at h47_2;cases h47_2)))
  ·
   refine A5 ?_
   refine R1 (x4 (c_kinds a) fi51 rfl) rfl ?_
   refine A14 ?_
   exact x3 Plain.mk' rfl rfl (Le.bool (by rw [recOk];rw [anyA_all] at*;rw [decide_eq_true (by omega)];simp_all))
instance ti87:TyI Tryz.prog 87 1 false:=⟨by kernel_rfl,by kernel_rfl⟩
instance sl86:SlI Tryz.prog 86 87 1 false:=⟨Tryz.underlying86,ti87⟩
instance fi29:FnI Tryz.prog 29:=⟨_,Tryz.func29,by kernel_rfl,rfl⟩
instance fi30:FnI Tryz.prog 30:=⟨_,Tryz.func30,by kernel_rfl,rfl⟩
instance fi32:FnI Tryz.prog 32:=⟨_,Tryz.func32,by kernel_rfl,rfl⟩
instance fi33:FnI Tryz.prog 33:=⟨_,Tryz.func33,by kernel_rfl,rfl⟩
instance fi36:FnI Tryz.prog 36:=⟨_,Tryz.func36,by kernel_rfl,rfl⟩
instance fi37:FnI Tryz.prog 37:=⟨_,Tryz.func37,by kernel_rfl,rfl⟩
instance fi40:FnI Tryz.prog 40:=⟨_,Tryz.func40,by kernel_rfl,rfl⟩
instance fi59:FnI Tryz.prog 59:=⟨_,Tryz.func59,by kernel_rfl,rfl⟩
theorem el56:ElI Tryz.prog 56 8 96 true (.agg #[.int .i64 0,.int .i64 0,.int .u8 0,.bool false,.slice none 0 0,.bool false,.slice none 0 0,.int .i64 0]):=⟨ti56,by kernel_rfl,by kernel_rfl⟩
theorem el87:ElI Tryz.prog 87 1 8 false (.pointer none):=⟨ti87,by kernel_rfl,by kernel_rfl⟩
theorem bu30:BuI Tryz.prog 30 (fun i=>[(0,1),(1,1),(2,1),(3,1),(4,1),(5,6)][i]?) (.agg #[.string ⟨#[]⟩,.int .i64 0,.int .i64 0,.int .i64 0,.bool false,.int .u8 0,.bool false,.slice none 0 0,.bool false,.slice none 0 0,.int .i64 0]):=BuI.struct Tryz.underlying30 (by kernel_rfl) (by kernel_rfl)
theorem bu56:BuI Tryz.prog 56 (fun i=>[(0,1),(1,1),(2,6)][i]?) (.agg #[.int .i64 0,.int .i64 0,.int .u8 0,.bool false,.slice none 0 0,.bool false,.slice none 0 0,.int .i64 0]):=BuI.struct Tryz.underlying56 (by kernel_rfl) (by kernel_rfl)
theorem zf56:Flat 8 true (.agg #[.int .i64 0,.int .i64 0,.int .u8 0,.bool false,.slice none 0 0,.bool false,.slice none 0 0,.int .i64 0]):=xp3 (by intro u hu;simp at hu;rcases hu with rfl | rfl | rfl | rfl | rfl | rfl | rfl | rfl <;> rfl)
instance un86:UnI Tryz.prog 86 (.slice 87):=⟨Tryz.underlying86⟩
theorem c_fcopied (v:Va) (h1:v.f.n.l.length≤1000000) (h2:v.f.d.l.length≤1000000):
  Ct Tryz.prog 33 [tVa v] (tVa v):=by
 refine Ct.intro Tryz.func33 rfl Tryz.ntmps33 rfl ?_
 intro w F
 refine A3 ?_
 refine RE (xb0 (k:=2) (n:=6) (agg:=true) zr28.1 zr28.2 rfl) trivial trivial ⟨rfl,trivial⟩ ?_
 refine A7 ?_
 refine xf7 (0) ti22 rfl rfl rfl (At.t (At.g 1 rfl rfl) (At.t (At.g 0 rfl rfl) (At.g 1 rfl rfl))) rfl (R1 (x4 (c_clone16V _ h1) fi59 rfl) rfl ?_)
 refine A3 ?_
 refine RE (d_storeF (k:=1) (T0:=28) (es:=6) (ts:=[.val (tVa v)]) (0) ti22 rfl (upN v) rfl rfl) ⟨rfl,rfl,trivial⟩ ⟨rfl,trivial⟩ trivial ?_
 refine A7 ?_
 refine xf7 (0) ti22 rfl rfl rfl (At.t (At.g 1 rfl rfl) (At.t (At.g 1 rfl rfl) (At.g 1 rfl rfl))) rfl (R1 (x4 (c_clone16V _ h2) fi59 rfl) rfl ?_)
 refine A3 ?_
 refine RE (d_storeF (k:=1) (T0:=28) (es:=6) (ts:=[.val (tVa v)]) (0) ti22 rfl (upD v) rfl rfl) ⟨rfl,rfl,trivial⟩ ⟨rfl,trivial⟩ trivial ?_
 refine A9 ?_
 exact xg0 Plain.mk' rfl ⟨_,_,_,_,_,rfl,rfl,ti28,Le.refl⟩
def smF (a:List Fa):Prop:= ∀f∈a,f.v.f.n.l.length≤1000000∧f.v.f.d.l.length≤1000000
theorem told_sub {a:List Fa} {key:ByteArray} {kn:Int} {f:Fa} (h:f∈toldT a key kn):f∈a∧f.key=key∧f.kn≤kn:=by
 have h1:=List.mem_filter.1 (ssort_mem.1 h)
 have h2:=h1.2
 simp only [Bool.and_eq_true,decide_eq_true_eq] at h2
 exact ⟨h1.1,h2.1,h2.2⟩
def faG:Fa:=⟨⟨#[]⟩,0,0,0,true,An.va0⟩
def atF (a:List Fa) (key:ByteArray) (d kn:Int):Option Va:=if recOk a=true then gF (toldT a key kn) d else none
theorem rec_gone {a:List Fa} (h:recOk a=true) {f:Fa} (hf:f∈a) (hg:f.gone=true):f.v=An.va0:=by
 simp only [recOk,Bool.and_eq_true,List.all_eq_true] at h
 have h1:=h.1.2 f hf
 rw [fRight,if_pos hg] at h1
 simp only [Bool.and_eq_true,decide_eq_true_eq] at h1
 exact h1.2
theorem at_end {a:List Fa} {key:ByteArray} {d kn:Int} {o:Option Fa} (h:recOk a=true) (ho:o=lastF (toldT a key kn) d):(o.getD faG).v=(atF a key d kn).getD An.va0∧(!(o.getD faG).gone)=(atF a key d kn).isSome:=by
 rw [atF,if_pos h,gF,←ho]
 cases o with
 | none=>exact ⟨rfl,rfl⟩
 | some f=>
  have hm:=(told_sub (xn5 ho.symm).1).1
  simp only [Option.getD_some,valF]
  by_cases hg:f.gone=true
  ·rw [if_pos hg,hg,rec_gone h hm hg];exact ⟨rfl,rfl⟩
  ·rw [if_neg hg];simp at hg;rw [hg];exact ⟨rfl,rfl⟩
theorem c_view (a:List Fa) (key:ByteArray) (kn:Int) (hl:a.length≤100000) (hS:smF a):
  Ct Tryz.prog 30 [tL 11 true tFa a,tSt key,tI kn] (tL 8 true tTs (vwT (toldT a key kn))):=by
 refine Ct.intro Tryz.func30 rfl Tryz.ntmps30 rfl ?_
 intro w F
 refine A10 ?_
 refine RE (xa9 (fun j=>cond (Nat.beq j 4) 1021 (cond (Nat.beq j 3) 21 (2021))) (c_told a key kn) fi32 rfl (krN (ρ:=fun j=>cond (Nat.beq j 4) 1021 (cond (Nat.beq j 3) 21 (2021)))) (krC (ρ:=fun j=>cond (Nat.beq j 4) 1021 (cond (Nat.beq j 3) 21 (2021))) (k:=3) rfl (krC (ρ:=fun j=>cond (Nat.beq j 4) 1021 (cond (Nat.beq j 3) 21 (2021))) (k:=4) rfl (krC (ρ:=fun j=>cond (Nat.beq j 4) 1021 (cond (Nat.beq j 3) 21 (2021))) (k:=5) rfl (krN (ρ:=fun j=>cond (Nat.beq j 4) 1021 (cond (Nat.beq j 3) 21 (2021))))))) ⟨⟨rfl,(SupX.lit rfl)⟩,⟨rfl,(SupX.lit rfl)⟩,⟨rfl,(SupX.lit rfl)⟩,trivial⟩ rfl) ⟨rfl,rfl,rfl,trivial⟩ trivial ⟨rfl,rfl,rfl,trivial⟩ (RE (xa9 (fun j=>cond (Nat.beq j 105) 1021 (cond (Nat.beq j 104) 21 (cond (Nat.beq j 4) 22 (2021)))) (c_CollectF a key kn (by omega)) fi36 rfl (krC (ρ:=fun j=>cond (Nat.beq j 105) 1021 (cond (Nat.beq j 104) 21 (cond (Nat.beq j 4) 22 (2021)))) (k:=104) rfl (krC (ρ:=fun j=>cond (Nat.beq j 105) 1021 (cond (Nat.beq j 104) 21 (cond (Nat.beq j 4) 22 (2021)))) (k:=105) rfl (krC (ρ:=fun j=>cond (Nat.beq j 105) 1021 (cond (Nat.beq j 104) 21 (cond (Nat.beq j 4) 22 (2021)))) (k:=106) rfl (krN (ρ:=fun j=>cond (Nat.beq j 105) 1021 (cond (Nat.beq j 104) 21 (cond (Nat.beq j 4) 22 (2021)))))))) (krC (ρ:=fun j=>cond (Nat.beq j 105) 1021 (cond (Nat.beq j 104) 21 (cond (Nat.beq j 4) 22 (2021)))) (k:=4) xa5 (krN (ρ:=fun j=>cond (Nat.beq j 105) 1021 (cond (Nat.beq j 104) 21 (cond (Nat.beq j 4) 22 (2021)))))) ⟨⟨rfl,xa0⟩,trivial⟩ rfl) ⟨rfl,trivial⟩ ⟨rfl,rfl,rfl,trivial⟩ ⟨rfl,trivial⟩ ?_)
 refine A4 ?_
 have hTl0:=told_le (a:=a) (key:=key) (kn:=kn)
 have hST0:smF (toldT a key kn):=fun f hf=>hS f (told_sub hf).1
 generalize toldT a key kn=T at*
 have hbl:=bdF_len (T:=T)
 have hST:=hST0
 refine C_give (t:=7) (k:=22) (f:=tFa) (xs:=T) rfl rfl (fun _ h=>h) (xj0 rfl) rfl ?_
 refine A2 ?_
 refine R1 (x4 (c_Fborders T (by omega)) fi37 rfl) rfl ?_
 refine A7 ?_
 refine RE (xh7 (k:=27) (t:=tE (.pointer none)) (ts:=rV (tO 11 true tFa) (rowA T (bdF T) 0)) (bdF T).length (bdF T).length Tryz.underlying86 el87 (fun _ _=>rfl) rfl rfl rfl (Nat.le_refl _) (by omega) (by omega) (by rw [rowA_zero];exact rV_rep (f:=tO 11 true tFa) _ _ rfl)) ⟨rfl,rfl,trivial⟩ trivial ⟨rfl,trivial⟩ ?_
 refine A12 ?_
 refine cL (fun (i:Nat)=>i≤T.length) (fun (i:Nat)=>upd (upd (upd (upd (upd (fun _=>none) 7 (some (.val (tL 11 true tFa T)))) 8 (some (.val (tL 1 false tI (bdF T))))) 9 (some (.own (.sl 27 1 0 (bdF T).length)))) 29 (some (.val (tI T.length)))) 30 (some (.val (tI i)))) (fun (i:Nat)=>upd (fun _=>none) 27 (some (⟨87,1,false,rV (tO 11 true tFa) (rowA T (bdF T) i)⟩))) [27] (fun (i:Nat)=>T.length - i) (0) (Nat.zero_le _) (hh:=((SubK.consI rfl ImpK.refl) SubK.nil)) ?_
 intro i hI
 have hx1:=ixD_le (ds:=bdF T) (x:=(T.getD i fa0).lo)
 have hx2:=ixD_le (ds:=bdF T) (x:=(T.getD i fa0).hi)
 refine A6 ?_
 refine x7 rfl (fun h117=> ?_) (fun h117=> ?_)
 ·
  refine A15 ?_
  refine R2 (x6 sl36 (i) (by omega) (gD (l:=T) (n:=i) (d:=fa0) (by omega))) rfl rfl ?_
  refine A1 ?_
  refine R2 (x4 (c_parts (bdF T) (T.getD i fa0) xi7 (by omega)) fi40 rfl) rfl rfl ?_
  refine A14 ?_
  refine cL (fun (p:Nat)=>(ixD (bdF T) (T.getD i fa0).lo)≤p∧(p≤(ixD (bdF T) (T.getD i fa0).hi)∨p=(ixD (bdF T) (T.getD i fa0).lo))) (fun (p:Nat)=>upd (upd (upd (upd (upd (upd (upd (upd (fun _=>none) 7 (some (.val (tL 11 true tFa T)))) 8 (some (.val (tL 1 false tI (bdF T))))) 9 (some (.own (.sl 27 1 0 (bdF T).length)))) 10 (some (.val (tI i)))) 12 (some (.val (tI (ixD (bdF T) (T.getD i fa0).hi))))) 13 (some (.val (tI p)))) 29 (some (.val (tI T.length)))) 30 (some (.val (tI i)))) (fun (p:Nat)=>upd (fun _=>none) 27 (some (⟨87,1,false,rV (tO 11 true tFa) (rowL T (bdF T) i p)⟩))) [27] (fun (p:Nat)=>(ixD (bdF T) (T.getD i fa0).hi) - p) ((ixD (bdF T) (T.getD i fa0).lo)) ⟨Nat.le_refl _,.inr rfl⟩ (hh:=((SubK.consI rfl (ImpK.of (by rw [rowL_begin xi7 (by omega)]))) SubK.nil)) ?_
  intro p hI2
  obtain ⟨hp1,hp2⟩:=hI2
  refine A8 ?_
  refine x7 rfl (fun h119=> ?_) (fun h119=> ?_)
  ·
   refine A9 ?_
   refine R2 (x6 sl36 (i) (by omega) (gD (l:=T) (n:=i) (d:=fa0) (by omega))) rfl rfl (R2 (xa3 sl86 (by omega) (by omega) rfl) rfl rfl (RE (xb8 (p) ti87 (rV_lt (by rw [xh5];omega)) (by omega) (xi6 (m:=(some (T.getD i fa0))) rfl)) ⟨rfl,rfl,trivial⟩ ⟨rfl,trivial⟩ trivial ?_))
   refine A8 ?_
   exact kF (p+1) ⟨⟨by omega,.inl (by omega)⟩,(by omega)⟩ (hh:=((SubK.consI rfl (ImpK.of (by rw [rowL_set xi7 (by omega) (by omega) hp1 (by omega)]))) SubK.nil))
  ·
   refine A10 ?_
   exact kF (i+1) ⟨(by omega),(by omega)⟩ (hh:=((SubK.consI rfl (ImpK.of (by rw [rowL_end xi7 (by omega) hp1 (by omega)]))) SubK.nil))
 ·
  refine A7 ?_
  refine RE (xf9 (k:=14) 56 8 true rfl (fun h=>by cases h)) trivial trivial ⟨rfl,trivial⟩ ?_
  refine A11 ?_
  refine cL (fun (fm:(Nat)×(List Tst))=>(fun (k:Nat) (xs:List Tst)=>k≤(bdF T).length∧xs=vwK T k) fm.1 fm.2) (fun (fm:(Nat)×(List Tst))=>(fun (k:Nat) (xs:List Tst)=>upd (upd (upd (upd (upd (fun _=>none) 8 (some (.val (tL 1 false tI (bdF T))))) 14 (some (.own (.sl 14 8 0 xs.length)))) 55 (some (.own (.sl 27 1 0 (bdF T).length)))) 56 (some (.val (tI (bdF T).length)))) 57 (some (.val (tI k)))) fm.1 fm.2) (fun (fm:(Nat)×(List Tst))=>(fun (k:Nat) (xs:List Tst)=>upd (upd (fun _=>none) 27 (some (⟨87,1,false,rV (tO 11 true tFa) (rowA T (bdF T) T.length)⟩))) 14 (some (⟨56,8,true,rV tTs xs⟩))) fm.1 fm.2) [27,14] (fun (fm:(Nat)×(List Tst))=>(fun (k:Nat) (xs:List Tst)=>(bdF T).length - k) fm.1 fm.2) ((0,[])) (by dsimp only;exact ⟨Nat.zero_le _,rfl⟩) (hh:=((SubK.consI rfl ImpK.refl) ((SubK.consI rfl (ImpK.of (by rw [show i=T.length by omega]))) SubK.nil))) ?_
  intro fm hI
  obtain ⟨k,xs⟩:=fm
  replace hI:k≤(bdF T).length∧xs=vwK T k:=hI
  show wc _ _ _ _ (upd (upd (upd (upd (upd (fun _=>none) 8 (some (.val (tL 1 false tI (bdF T))))) 14 (some (.own (.sl 14 8 0 xs.length)))) 55 (some (.own (.sl 27 1 0 (bdF T).length)))) 56 (some (.val (tI (bdF T).length)))) 57 (some (.val (tI k)))) (upd (upd (fun _=>none) 27 (some (⟨87,1,false,rV (tO 11 true tFa) (rowA T (bdF T) T.length)⟩))) 14 (some (⟨56,8,true,rV tTs xs⟩))) _
  obtain ⟨hk,hx⟩:=hI
  have hxl:xs.length≤k:=by rw [hx];exact vwK_len
  refine A6 ?_
  refine x7 rfl (fun h124=> ?_) (fun h124=> ?_)
  ·
   refine A7 ?_
   refine R2 (xa3 sl86 (by omega) (by omega) rfl) rfl rfl (RE (xb3 (k) ti87 (xc4 (f:=tO 11 true tFa) (xs:=rowA T (bdF T) T.length) (d:=none) (by rw [rowA_len];omega)) (by omega)) ⟨rfl,trivial⟩ ⟨rfl,trivial⟩ trivial ?_)
   refine A6 ?_
   have hlo:(rowA T (bdF T) T.length).getD k none=lastF T ((bdF T).getD k 0):=by rw [rowA_get (by omega),List.take_length]
   generalize (rowA T (bdF T) T.length).getD k none=o at*
   refine A2 ?_
   refine R1 (d_eqlNil (n:=11) (agg:=true) (f:=tFa) Tryz.underlying87) rfl ?_
   refine A1 ?_
   refine RGcase (t:=64) rfl (fun h125=> ?_) (fun h125=> ?_)
   ·
    have hgn:gF T ((bdF T).getD k 0)=none:=by rw [gF,←hlo,Option.isNone_iff_eq_none.1 h125];rfl
    refine A16 ?_
    exact kF ((k+1,xs)) ⟨(by dsimp only;exact ⟨by omega,by rw [vwK_none hgn];exact hx⟩),(by dsimp only;omega)⟩ (hh:=((SubK.consI rfl ImpK.refl) ((SubK.consI rfl ImpK.refl) SubK.nil)))
   ·
    obtain ⟨f,rfl⟩: ∃f,o=some f:=Option.isSome_iff_exists.1 (by cases o with
     | none=>exact absurd h125 (by decide)
     | some f=>rfl)
    refine A1 ?_
    refine RGon h125 rfl (xn1 (n:=11) (agg:=true) (f:=tFa) (y:=f) rfl) rfl ⟨rfl,trivial⟩ trivial trivial (RGon h125 rfl (xg2 fo30_4.h (At.f 4 rfl rfl) rfl) rfl ⟨rfl,trivial⟩ trivial trivial (RGon h125 rfl (xn3 ti4) rfl ⟨rfl,trivial⟩ trivial trivial ?_))
    refine A3 ?_
    refine xd3 rfl (fun h125_2=> ?_) (fun h125_2=> ?_)
    ·
     have hgn:gF T ((bdF T).getD k 0)=none:=by rw [gF,←hlo,valF,if_pos h125_2]
     refine A8 ?_
     exact kF ((k+1,xs)) ⟨(by dsimp only;exact ⟨by omega,by rw [vwK_none hgn];exact hx⟩),(by dsimp only;omega)⟩ (hh:=((SubK.consI rfl ImpK.refl) ((SubK.consI rfl ImpK.refl) SubK.nil)))
    ·
     rw [←Bool.not_eq_true] at h125_2
     refine A3 ?_
     have hgs:gF T ((bdF T).getD k 0)=some f.v:=by rw [gF,←hlo,valF,if_neg h125_2]
     have hk1:=lastF_end hlo.symm (by omega)
     have hfm:=(xn5 hlo.symm).1
     have hpd:=pw_lt (xi7 (T:=T)) (show k < k+1 by omega) hk1
     refine A7 ?_
     have hgs:gF T ((bdF T).getD k 0)=some f.v:=by rw [gF,←hlo,valF,if_neg h125_2]
     have hk1:=lastF_end hlo.symm (by omega)
     have hfm:=(xn5 hlo.symm).1
     have hpd:=pw_lt (xi7 (T:=T)) (show k < k+1 by omega) hk1
     refine A4 ?_
     refine RGcaseD (t:=74) rfl (fun h128=> ?_) (fun h128=> ?_)
     ·
      refine A2 ?_
      refine RGon (decide_eq_true h128) rfl (xe1 (wr64 (by omega) (by omega))) rfl ⟨rfl,rfl,trivial⟩ trivial trivial (RGon (decide_eq_true h128) rfl (xa3 sl38 (by omega) (by omega) rfl) rfl ⟨rfl,rfl,trivial⟩ trivial trivial ?_)
      refine A1 ?_
      refine RGon (decide_eq_true h128) rfl (xo9 (es:=8) (o:=1) (xs.length - 1) ti3 (xc4 (d:=tst0) (by omega)) (At.g 1 rfl rfl) (by omega)) rfl ⟨rfl,trivial⟩ ⟨rfl,trivial⟩ trivial ?_
      refine A2 ?_
      refine RGon (decide_eq_true h128) rfl (x6 sl52 (k) (by omega) (gD (l:=bdF T) (n:=k) (d:=0) (by omega))) rfl ⟨rfl,rfl,trivial⟩ trivial trivial ?_
      refine A4 ?_
      refine RGcaseD (t:=87) rfl (fun h128_2=> ?_) (fun h128_2=> ?_)
      ·
       refine A2 ?_
       refine RGon (decide_eq_true h128_2) rfl (xe1 (wr64 (by omega) (by omega))) rfl ⟨rfl,rfl,trivial⟩ trivial trivial (RGon (decide_eq_true h128_2) rfl (xa3 sl38 (by omega) (by omega) rfl) rfl ⟨rfl,rfl,trivial⟩ trivial trivial ?_)
       refine A1 ?_
       refine RGon (decide_eq_true h128_2) rfl (xo9 (es:=8) (o:=2) (xs.length - 1) ti28 (xc4 (d:=tst0) (by omega)) (At.g 2 rfl rfl) (by omega)) rfl ⟨rfl,trivial⟩ ⟨rfl,trivial⟩ trivial ?_
       refine A1 ?_
       refine RGon (decide_eq_true h128_2) rfl (xn1 (n:=11) (agg:=true) (f:=tFa) (y:=f) rfl) rfl ⟨rfl,trivial⟩ trivial trivial (RGon (decide_eq_true h128_2) rfl (xg2 fo30_5.h (At.f 5 rfl rfl) rfl) rfl ⟨rfl,trivial⟩ trivial trivial ?_)
       refine A1 ?_
       refine RGon (decide_eq_true h128_2) rfl (x4 (c_TSame _ _) fi23 rfl) rfl ⟨rfl,rfl,trivial⟩ trivial trivial ?_
       refine A3 ?_
       refine x7 rfl (fun h128_3=> ?_) (fun h128_3=> ?_)
       ·
        refine A7 ?_
        refine R2 (x6 sl52 (k+1) (by omega) (gD (l:=bdF T) (n:=k+1) (d:=0) (by omega))) rfl rfl ?_
        refine A1 ?_
        refine R2 (xa3 sl38 (by omega) (by omega) rfl) rfl rfl ?_
        refine A1 ?_
        refine RE (d_storeF (es:=8) (o:=1) (t2:=tTs ⟨(xs.getD (xs.length - 1) tst0).lo,(bdF T).getD (k+1) 0,(xs.getD (xs.length - 1) tst0).v⟩) (xs.length - 1) ti3 (xc4 (d:=tst0) (by omega)) (Up.g 1 rfl rfl rfl) (by omega) (xi6 rfl)) ⟨rfl,rfl,trivial⟩ ⟨rfl,trivial⟩ trivial ?_
        refine A7 ?_
        exact kF ((k+1,(xs.set (xs.length - 1) ⟨(xs.getD (xs.length - 1) tst0).lo,(bdF T).getD (k+1) 0,(xs.getD (xs.length - 1) tst0).v⟩))) ⟨(by dsimp only;exact ⟨by omega,by rw [vwK_some hgs,←hx,pst1,if_neg (by dsimp only;omega),if_pos ⟨by omega,by dsimp only;omega,h128_3⟩]⟩),(by dsimp only;omega)⟩ (hg:=(sI (sI (sC ((Sub.consI rfl (Imp.of (by dsimp only;rw [List.length_set]))) (sC Sub.nil)))))) (hh:=((SubK.consI rfl ImpK.refl) ((SubK.consI rfl ImpK.refl) SubK.nil)))
       ·
        refine A4 ?_
        refine R2 (x6 sl52 (k) (by omega) (gD (l:=bdF T) (n:=k) (d:=0) (by omega))) rfl rfl ?_
        refine A4 ?_
        refine R2 (x6 sl52 (k+1) (by omega) (gD (l:=bdF T) (n:=k+1) (d:=0) (by omega))) rfl rfl ?_
        refine A2 ?_
        refine R1 (xn1 (n:=11) (agg:=true) (f:=tFa) (y:=f) rfl) rfl (R1 (xg2 fo30_5.h (At.f 5 rfl rfl) rfl) rfl ?_)
        refine A1 ?_
        refine R1 (x4 (c_fcopied f.v (hST f hfm).1 (hST f hfm).2) fi33 rfl) rfl (R3 (xd7 (r:=tS [⟨1,false,tI ((bdF T).getD k 0)⟩,⟨1,false,tI ((bdF T).getD (k+1) 0)⟩,⟨6,true,tVa f.v⟩]) (ts:=[(0,tI ((bdF T).getD k 0)),(1,tI ((bdF T).getD (k+1) 0)),(2,tVa f.v)]) bu56 zr56.2 (Bc 0 rfl rfl rfl (Bc 1 rfl rfl rfl (Bc 2 rfl rfl rfl Le.refl)))) rfl rfl rfl (R1 (xd4 (n:=1) (f:=tTs) [(⟨(bdF T).getD k 0,(bdF T).getD (k+1) 0,f.v⟩:Tst)] Tryz.underlying38 el56 zf56 rfl (fun _=>inferInstance) rfl rfl rfl) rfl (RE (xb2 (k:=14) (k':=127) (f:=tTs) (ys:=[(⟨(bdF T).getD k 0,(bdF T).getD (k+1) 0,f.v⟩:Tst)]) (ts':=rV tTs (xs++[(⟨(bdF T).getD k 0,(bdF T).getD (k+1) 0,f.v⟩:Tst)])) Tryz.underlying38 el56 zf56 rfl rfl (fun _=>inferInstance) xc7 (by simp;omega) (by simp;omega) (by simp [rV]) (n':=xs.length+1) rfl) ⟨rfl,rfl,trivial⟩ ⟨rfl,trivial⟩ ⟨rfl,trivial⟩ ?_)))
        refine A8 ?_
        exact xf2 (l:=[27,14]) (fun j=>cond (Nat.beq j 14) 127 (j)) ((k+1,xs++[(⟨(bdF T).getD k 0,(bdF T).getD (k+1) 0,f.v⟩:Tst)])) ⟨(by dsimp only;exact ⟨by omega,by rw [vwK_some hgs,←hx,pst1,if_neg (by dsimp only;omega),if_neg (fun h=>h128_3 h.2.2)]⟩),(by dsimp only;omega)⟩ (SubR.int rfl (by first | omega | rfl | (dsimp only;omega)) (SubR.int rfl (by first | omega | rfl | (dsimp only;omega)) (SubR.cons rfl ((SubR.consI rfl (Imp.of (by dsimp only;rw [List.length_append];rfl))) (SubR.cons rfl SubR.nil))))) ((SubKR.consI rfl (ImpK.of xa5.symm)) ((SubKR.consI rfl (ImpK.of xa5.symm)) SubKR.nil)) (SupG.val (SupG.val (SupG.own rfl (SupG.own rfl (SupG.val SupG.nil))))) (SupH.cons rfl (supJ xa0) (SupH.cons rfl (supJ xa0) SupH.nil)) (lkOk rfl) rfl rfl (fun _ h=>by cases h)
      ·
       refine A18 ?_
       refine A1 ?_
       refine R2 (x6 sl52 (k) (by omega) (gD (l:=bdF T) (n:=k) (d:=0) (by omega))) rfl rfl ?_
       refine A4 ?_
       refine R2 (x6 sl52 (k+1) (by omega) (gD (l:=bdF T) (n:=k+1) (d:=0) (by omega))) rfl rfl ?_
       refine A2 ?_
       refine R1 (xn1 (n:=11) (agg:=true) (f:=tFa) (y:=f) rfl) rfl (R1 (xg2 fo30_5.h (At.f 5 rfl rfl) rfl) rfl ?_)
       refine A1 ?_
       refine R1 (x4 (c_fcopied f.v (hST f hfm).1 (hST f hfm).2) fi33 rfl) rfl (R3 (xd7 (r:=tS [⟨1,false,tI ((bdF T).getD k 0)⟩,⟨1,false,tI ((bdF T).getD (k+1) 0)⟩,⟨6,true,tVa f.v⟩]) (ts:=[(0,tI ((bdF T).getD k 0)),(1,tI ((bdF T).getD (k+1) 0)),(2,tVa f.v)]) bu56 zr56.2 (Bc 0 rfl rfl rfl (Bc 1 rfl rfl rfl (Bc 2 rfl rfl rfl Le.refl)))) rfl rfl rfl (R1 (xd4 (n:=1) (f:=tTs) [(⟨(bdF T).getD k 0,(bdF T).getD (k+1) 0,f.v⟩:Tst)] Tryz.underlying38 el56 zf56 rfl (fun _=>inferInstance) rfl rfl rfl) rfl (RE (xb2 (k:=14) (k':=127) (f:=tTs) (ys:=[(⟨(bdF T).getD k 0,(bdF T).getD (k+1) 0,f.v⟩:Tst)]) (ts':=rV tTs (xs++[(⟨(bdF T).getD k 0,(bdF T).getD (k+1) 0,f.v⟩:Tst)])) Tryz.underlying38 el56 zf56 rfl rfl (fun _=>inferInstance) xc7 (by simp;omega) (by simp;omega) (by simp [rV]) (n':=xs.length+1) rfl) ⟨rfl,rfl,trivial⟩ ⟨rfl,trivial⟩ ⟨rfl,trivial⟩ ?_)))
       refine A8 ?_
       exact xf2 (l:=[27,14]) (fun j=>cond (Nat.beq j 14) 127 (j)) ((k+1,xs++[(⟨(bdF T).getD k 0,(bdF T).getD (k+1) 0,f.v⟩:Tst)])) ⟨(by dsimp only;exact ⟨by omega,by rw [vwK_some hgs,←hx,pst1,if_neg (by dsimp only;omega),if_neg (by dsimp only;omega)]⟩),(by dsimp only;omega)⟩ (SubR.int rfl (by first | omega | rfl | (dsimp only;omega)) (SubR.int rfl (by first | omega | rfl | (dsimp only;omega)) (SubR.cons rfl ((SubR.consI rfl (Imp.of (by dsimp only;rw [List.length_append];rfl))) (SubR.cons rfl SubR.nil))))) ((SubKR.consI rfl (ImpK.of xa5.symm)) ((SubKR.consI rfl (ImpK.of xa5.symm)) SubKR.nil)) (SupG.val (SupG.val (SupG.own rfl (SupG.own rfl (SupG.val SupG.nil))))) (SupH.cons rfl (supJ xa0) (SupH.cons rfl (supJ xa0) SupH.nil)) (lkOk rfl) rfl rfl (fun _ h=>by cases h)
     ·
      refine A18 ?_
      refine A14 ?_
      refine R2 (x6 sl52 (k) (by omega) (gD (l:=bdF T) (n:=k) (d:=0) (by omega))) rfl rfl ?_
      refine A4 ?_
      refine R2 (x6 sl52 (k+1) (by omega) (gD (l:=bdF T) (n:=k+1) (d:=0) (by omega))) rfl rfl ?_
      refine A2 ?_
      refine R1 (xn1 (n:=11) (agg:=true) (f:=tFa) (y:=f) rfl) rfl (R1 (xg2 fo30_5.h (At.f 5 rfl rfl) rfl) rfl ?_)
      refine A1 ?_
      refine R1 (x4 (c_fcopied f.v (hST f hfm).1 (hST f hfm).2) fi33 rfl) rfl (R3 (xd7 (r:=tS [⟨1,false,tI ((bdF T).getD k 0)⟩,⟨1,false,tI ((bdF T).getD (k+1) 0)⟩,⟨6,true,tVa f.v⟩]) (ts:=[(0,tI ((bdF T).getD k 0)),(1,tI ((bdF T).getD (k+1) 0)),(2,tVa f.v)]) bu56 zr56.2 (Bc 0 rfl rfl rfl (Bc 1 rfl rfl rfl (Bc 2 rfl rfl rfl Le.refl)))) rfl rfl rfl (R1 (xd4 (n:=1) (f:=tTs) [(⟨(bdF T).getD k 0,(bdF T).getD (k+1) 0,f.v⟩:Tst)] Tryz.underlying38 el56 zf56 rfl (fun _=>inferInstance) rfl rfl rfl) rfl (RE (xb2 (k:=14) (k':=127) (f:=tTs) (ys:=[(⟨(bdF T).getD k 0,(bdF T).getD (k+1) 0,f.v⟩:Tst)]) (ts':=rV tTs (xs++[(⟨(bdF T).getD k 0,(bdF T).getD (k+1) 0,f.v⟩:Tst)])) Tryz.underlying38 el56 zf56 rfl rfl (fun _=>inferInstance) xc7 (by simp;omega) (by simp;omega) (by simp [rV]) (n':=xs.length+1) rfl) ⟨rfl,rfl,trivial⟩ ⟨rfl,trivial⟩ ⟨rfl,trivial⟩ ?_)))
      refine A8 ?_
      exact xf2 (l:=[27,14]) (fun j=>cond (Nat.beq j 14) 127 (j)) ((k+1,xs++[(⟨(bdF T).getD k 0,(bdF T).getD (k+1) 0,f.v⟩:Tst)])) ⟨(by dsimp only;exact ⟨by omega,by rw [vwK_some hgs,←hx,pst1,if_neg (by dsimp only;omega),if_neg (by dsimp only;omega)]⟩),(by dsimp only;omega)⟩ (SubR.int rfl (by first | omega | rfl | (dsimp only;omega)) (SubR.int rfl (by first | omega | rfl | (dsimp only;omega)) (SubR.cons rfl ((SubR.consI rfl (Imp.of (by dsimp only;rw [List.length_append];rfl))) (SubR.cons rfl SubR.nil))))) ((SubKR.consI rfl (ImpK.of xa5.symm)) ((SubKR.consI rfl (ImpK.of xa5.symm)) SubKR.nil)) (SupG.val (SupG.val (SupG.own rfl (SupG.own rfl (SupG.val SupG.nil))))) (SupH.cons rfl (supJ xa0) (SupH.cons rfl (supJ xa0) SupH.nil)) (lkOk rfl) rfl rfl (fun _ h=>by cases h)
  ·
   refine A8 ?_
   refine RE (xi1 (f:=tTs) (xs:=xs) (fun _ h=>h) (xj0 rfl) rfl) ⟨rfl,trivial⟩ ⟨rfl,trivial⟩ trivial ?_
   refine A3 ?_
   exact x3 Plain.mk' rfl rfl (Le.of (by rw [hx,show k=(bdF T).length by omega,vwK_all]))
theorem c_View (a:List Fa) (key:ByteArray) (kn:Int) (hl:a.length≤100000) (hS:smF a) (hD: ∀f∈a,f.v.f.dig):
  Ct Tryz.prog 11 [tL 11 true tFa a,tSt key,tI kn] (tT [tL 8 true tTs (if recOk a=true then vwT (toldT a key kn) else []),tI (if recOk a=true then 0 else 2)]):=by
 refine Ct.intro Tryz.func11 rfl Tryz.ntmps11 rfl ?_
 intro w F
 refine A10 ?_
 refine R1 (x4 (c_FcValid a hD) fi29 rfl) rfl ?_
 refine A3 ?_
 refine xd3 rfl (fun h139=> ?_) (fun h139=> ?_)
 ·
  have hr: ¬recOk a=true:=by simpa using h139
  refine A8 ?_
  exact xc9 Plain.mk' rfl rfl rfl (leNil (by rw [if_neg hr])) (Le.int (by rw [if_neg hr]))
 ·
  have hr:recOk a=true:=by simpa using h139
  refine A7 ?_
  refine R3 (x4 (c_view a key kn hl hS) fi30 rfl) rfl rfl rfl ?_
  refine A5 ?_
  exact xc9 Plain.mk' rfl rfl rfl (Le.of (by rw [if_pos hr])) (Le.int (by rw [if_pos hr]))
theorem c_FAt (a:List Fa) (key:ByteArray) (d kn:Int) (hl:a.length≤100000) (hS:smF a) (hD: ∀f∈a,f.v.f.dig):
  Ct Tryz.prog 13 [tL 11 true tFa a,tSt key,tI d,tI kn] (tT [tVa ((atF a key d kn).getD An.va0),tB (atF a key d kn).isSome]):=by
 refine Ct.intro Tryz.func13 rfl Tryz.ntmps13 rfl ?_
 intro w F
 refine A3 ?_
 refine RE (xb0 (k:=8) (n:=6) (agg:=true) zr28.1 zr28.2 rfl) trivial trivial ⟨rfl,trivial⟩ ?_
 refine A7 ?_
 refine R1 (x4 (c_FcValid a hD) fi29 rfl) rfl ?_
 refine A3 ?_
 refine xd3 rfl (fun h147=> ?_) (fun h147=> ?_)
 ·
  have hr: ¬recOk a=true:=by simpa using h147
  refine A2 ?_
  refine R0 (xd7 (r:=tS [⟨1,false,(tE (.int .u8 0))⟩,⟨4,true,(tS [⟨2,true,(tS [⟨1,false,(tE (.bool false))⟩,⟨1,false,(tLm [])⟩])⟩,⟨2,true,(tS [⟨1,false,(tE (.bool false))⟩,⟨1,false,(tLm [])⟩])⟩])⟩,⟨1,false,(tE (.int .i64 0))⟩]) (ts:=[]) bu28 zr28.2 Le.refl) ?_
  refine A6 ?_
  exact E_retN Plain.mk' (rs:=[.cell 8 28,.tmp 9]) rfl rfl ⟨⟨_,_,_,_,_,rfl,rfl,ti28,(Le.of (by rw [atF,if_neg hr];rfl))⟩,⟨_,rfl,(Le.bool (by rw [atF,if_neg hr];rfl))⟩,trivial⟩
 ·
  have hr:recOk a=true:=by simpa using h147
  refine A4 ?_
  refine R1 (xd7 (r:=tS [⟨1,false,(tE (.string ⟨#[]⟩))⟩,⟨1,false,(tE (.int .i64 0))⟩,⟨1,false,(tE (.int .i64 0))⟩,⟨1,false,(tE (.int .i64 0))⟩,⟨1,false,tB true⟩,⟨6,true,(tS [⟨1,false,(tE (.int .u8 0))⟩,⟨4,true,(tS [⟨2,true,(tS [⟨1,false,(tE (.bool false))⟩,⟨1,false,(tLm [])⟩])⟩,⟨2,true,(tS [⟨1,false,(tE (.bool false))⟩,⟨1,false,(tLm [])⟩])⟩])⟩,⟨1,false,(tE (.int .i64 0))⟩])⟩]) (ts:=[(4,tB true)]) bu30 zr30.2 (Bc 4 rfl rfl rfl Le.refl)) rfl (RE (xb0 (k:=10) (n:=11) (agg:=true) zr30.1 zr30.2 rfl) trivial trivial ⟨rfl,trivial⟩ ?_)
  refine A9 ?_
  refine RE (xa9 (fun j=>cond (Nat.beq j 4) 1020 (cond (Nat.beq j 3) 20 (2020))) (c_told a key kn) fi32 rfl (krN (ρ:=fun j=>cond (Nat.beq j 4) 1020 (cond (Nat.beq j 3) 20 (2020)))) (krC (ρ:=fun j=>cond (Nat.beq j 4) 1020 (cond (Nat.beq j 3) 20 (2020))) (k:=3) rfl (krC (ρ:=fun j=>cond (Nat.beq j 4) 1020 (cond (Nat.beq j 3) 20 (2020))) (k:=4) rfl (krC (ρ:=fun j=>cond (Nat.beq j 4) 1020 (cond (Nat.beq j 3) 20 (2020))) (k:=5) rfl (krN (ρ:=fun j=>cond (Nat.beq j 4) 1020 (cond (Nat.beq j 3) 20 (2020))))))) ⟨⟨rfl,(SupX.lit rfl)⟩,⟨rfl,(SupX.lit rfl)⟩,⟨rfl,(SupX.lit rfl)⟩,trivial⟩ rfl) ⟨rfl,rfl,rfl,trivial⟩ trivial ⟨rfl,rfl,rfl,trivial⟩ ?_
  refine A3 ?_
  refine C_range (caps:=[.ptr 3 0,.ptr 4 0,.ptr 5 0]) (κ:=Empty) (fun j=>cond (Nat.beq j 5) 2020 (cond (Nat.beq j 4) 1020 (cond (Nat.beq j 3) 20 (j)))) rfl (fun _ h=>h) trivial (i_told a key kn (by omega)) fi55 rfl ⟨rfl,rfl,rfl,trivial⟩ rfl rfl (fun _ _=>rfl) (upd (upd (upd (fun _=>none) 6 (some (.own (.ptr 6 0)))) 8 (some (.own (.ptr 8 0)))) 10 (some (.own (.ptr 10 0)))) [6,8,10] [6,8,10] (Sub.cons rfl (Sub.cons rfl (Sub.cons rfl Sub.nil))) (SupG.own rfl (SupG.own rfl (SupG.own rfl SupG.nil))) rfl (lkOk rfl) (fun (k:Nat) (o:Option Fa)=>o=lastF ((toldT a key kn).take k) d) (fun (k:Nat) (o:Option Fa)=>upd (upd (upd (fun _=>none) 6 (some (⟨3,1,false,[.val (tI d)]⟩))) 8 (some (⟨28,6,true,[.val (tVa An.va0)]⟩))) 10 (some (⟨30,11,true,[.val (tFa (o.getD faG))]⟩))) (fun k x=>(SupH.cons rfl (supJL rfl) (SupH.cons rfl (supJL rfl) (SupH.cons rfl (supJL rfl) SupH.nil)))) (fun k x y hy=>by simp only [List.mem_cons,List.not_mem_nil,or_false] at hy;rcases hy with rfl | rfl | rfl <;> rfl) (fun _ _=>False) (fun i=>i.elim) (fun _ _ h=>h.elim) (none) rfl ((SubK.consI rfl ImpK.refl) ((SubK.consI rfl ImpK.refl) ((SubK.consI rfl ImpK.refl) SubK.nil))) ?_ ?_ ?_
  ·
   intro D lp o1 o2 O W lη lb V0 k o hk hI
   have hsn:=xq7 (T:=(toldT a key kn)) (i:=k) (d:=d) hk
   have hon:=onF_iff (d:=d) (f:=(toldT a key kn).getD k fa0)
   apply rnd_mk
   ·
    refine A1 ?_
    refine RE (xb0 (k:=11) (n:=11) (agg:=true) zr30.1 zr30.2 rfl) trivial trivial ⟨rfl,trivial⟩ ?_
    refine A2 ?_
    exact K_thenF fun _ _ h=>h
   ·
    refine A8 ?_
    refine RGcaseD (t:=26) rfl (fun h152=> ?_) (fun h152=> ?_)
    ·
     refine A7 ?_
     refine x7 rfl (fun h152_2=> ?_) (fun h152_2=> ?_)
     ·
      refine A5 ?_
      exact K_rnd ((some ((toldT a key kn).getD k fa0))) (by rw [hsn,if_pos (hon.2 ⟨by omega,by omega⟩)]) ((SubK.consI rfl ImpK.refl) ((SubK.consI rfl ImpK.refl) ((SubK.consI rfl ImpK.refl) SubK.nil))) (SupH.cons rfl (supJL rfl) (SupH.cons rfl (supJL rfl) (SupH.cons rfl (supJL rfl) SupH.nil))) (lkOk rfl)
     ·
      refine A2 ?_
      exact K_rnd (o) (by rw [hsn,if_neg (fun hh=>by have:=hon.1 hh;omega)];exact hI) ((SubK.consI rfl ImpK.refl) ((SubK.consI rfl ImpK.refl) ((SubK.consI rfl ImpK.refl) SubK.nil))) (SupH.cons rfl (supJL rfl) (SupH.cons rfl (supJL rfl) (SupH.cons rfl (supJL rfl) SupH.nil))) (lkOk rfl)
    ·
     refine A10 ?_
     exact K_rnd (o) (by rw [hsn,if_neg (fun hh=>by have:=hon.1 hh;omega)];exact hI) ((SubK.consI rfl ImpK.refl) ((SubK.consI rfl ImpK.refl) ((SubK.consI rfl ImpK.refl) SubK.nil))) (SupH.cons rfl (supJL rfl) (SupH.cons rfl (supJL rfl) (SupH.cons rfl (supJL rfl) SupH.nil))) (lkOk rfl)
  ·
   intro D hD o hI
   rw [List.take_length] at hI
   have hae:=at_end hr hI
   have hz:(o.getD faG).v.f.n.l.length≤1000000∧(o.getD faG).v.f.d.l.length≤1000000:=by
    cases o with
    | none=>decide
    | some f=>exact hS f (told_sub (xn5 hI.symm).1).1
   refine A6 ?_
   refine R1 (x4 (c_fcopied _ (by exact hz.1) (by exact hz.2)) fi33 rfl) rfl ?_
   refine A8 ?_
   exact E_retN (Plain.loop Plain.mk' hD) (rs:=[.cell 8 28,.tmp 9]) rfl rfl ⟨⟨_,_,_,_,_,rfl,rfl,ti28,(Le.of (by rw [hae.1]))⟩,⟨_,rfl,(Le.bool hae.2)⟩,trivial⟩
  ·
   intro D hD e i;exact i.elim
end An.S
namespace An.S
open Go
def w8 (n:Nat):UInt8:=UInt8.ofNat n
theorem w8_nat {n:Nat} (h:n < 256):(w8 n).toNat=n:=by simp [w8];omega
theorem w8_inj {m n:Nat} (hm:m < 256) (hn:n < 256) (h:w8 m=w8 n):m=n:=by
 have:=congrArg UInt8.toNat h
 rwa [w8_nat hm,w8_nat hn] at this
def decB (n:Nat):List UInt8:=if n < 10 then [w8 (48+n)] else [w8 (48+n / 10),w8 (48+n%10)]
def limB (x:Nat):List UInt8:=[w8 (x / 256),w8 (x%256)]
def booB (b:Bool):List UInt8:=if b=true then [116,114,117,101] else [102,97,108,115,101]
def limsB (l:List Nat):List UInt8:=l.flatMap limB
def whB (n:Wh):List UInt8:=32::(booB n.neg++32::(decB n.l.length++limsB n.l))
def txtB (v:Va):List UInt8:=decB v.i.toNat++(whB v.f.n++whB v.f.d)
def txt (f:Fa):ByteArray:=if f.gone=true then ⟨#[]⟩ else strOf (txtB f.v)
def txOk (v:Va):Prop:=0≤v.i∧v.i < 100∧v.f.n.l.length < 10∧v.f.d.l.length < 10∧v.f.dig
theorem boo_inj {b c:Bool} {r s:List UInt8} (h:booB b++r=booB c++s):b=c∧r=s:=by
 cases b <;> cases c <;> simp only [booB,Bool.false_eq_true,if_false,if_true,List.cons_append,List.nil_append,List.cons.injEq] at h
 ·exact ⟨rfl,h.2.2.2.2.2⟩
 ·exact absurd h.1 (by decide)
 ·exact absurd h.1 (by decide)
 ·exact ⟨rfl,h.2.2.2.2⟩
theorem xj6 {l:List Nat}:(limsB l).length=2*l.length:=by
 induction l with
 | nil=>rfl
 | cons x r ih=>rw [limsB,List.flatMap_cons,List.length_append,←limsB,ih];simp [limB];omega
theorem lims_inj: ∀{l m:List Nat},(∀x∈l,x < 65536)→(∀x∈m,x < 65536)→limsB l=limsB m→l=m
 | [],[],_,_,_=>rfl
 | [],y::s,_,_,h=>by have:=congrArg List.length h;rw [xj6,xj6] at this;simp at this
 | x::r,[],_,_,h=>by have:=congrArg List.length h;rw [xj6,xj6] at this;simp at this
 | x::r,y::s,h1,h2,h=>by
  have e: ∀(a:Nat) (t:List Nat),limsB (a::t)=w8 (a / 256)::w8 (a%256)::limsB t:=fun a t=>by simp [limsB,limB]
  rw [e,e] at h
  simp only [List.cons.injEq] at h
  have b1:=h1 x (List.mem_cons_self ..)
  have b2:=h2 y (List.mem_cons_self ..)
  have g1:=w8_inj (by omega) (by omega) h.1
  have g2:=w8_inj (by omega) (by omega) h.2.1
  rw [lims_inj (fun z hz=>h1 z (List.mem_cons_of_mem _ hz)) (fun z hz=>h2 z (List.mem_cons_of_mem _ hz)) h.2.2,show x=y by omega]
theorem lims_next {l:List Nat} {i:Nat} (hi:i < l.length):limsB (l.take (i+1))=limsB (l.take i)++[w8 (l.getD i 0 / 256),w8 (l.getD i 0%256)]:=by
 rw [List.take_succ_eq_append_getElem hi,limsB,List.flatMap_append,List.getD_eq_getElem?_getD,List.getElem?_eq_getElem hi];simp [limsB,limB]
theorem wh_inj {x y:Wh} {r s:List UInt8} (hx:x.l.length < 10) (hy:y.l.length < 10) (dx: ∀z∈x.l,z < 65536) (dy: ∀z∈y.l,z < 65536) (h:whB x++r=whB y++s):x=y∧r=s:=by
 unfold whB at h
 simp only [List.cons_append,List.cons.injEq,List.append_assoc,true_and] at h
 obtain ⟨h1,h2⟩:=boo_inj h
 simp only [List.cons.injEq,true_and] at h2
 unfold decB at h2
 rw [if_pos hx,if_pos hy] at h2
 simp only [List.cons_append,List.nil_append,List.cons.injEq] at h2
 have h3:=w8_inj (by omega) (by omega) h2.1
 have h4:=List.append_inj h2.2 (by rw [xj6,xj6];omega)
 have h5:=lims_inj dx dy h4.1
 rcases x with ⟨a,l⟩;rcases y with ⟨b,m⟩
 simp only at h1 h5
 subst h1 h5
 exact ⟨rfl,h4.2⟩
theorem dec_pos (n:Nat):0 < (decB n).length:=by unfold decB;split <;> simp
theorem txt_pos (v:Va):0 < (txtB v).length:=by rw [txtB,List.length_append];have:=dec_pos v.i.toNat;omega
end An.S
namespace An
open Go
def tLK {α:Type} (es:Nat) (agg:Bool) (f:α→Ty) (xs ms:List α):Ty:=
 ⟨fun F w v=> ∃A c,v= .slice A xs.length c∧(tL es agg f (xs++ms)).p F w (.slice A (xs.length+ms.length) c),fun ⟨A,c,h1,h2⟩ hk=>⟨A,c,h1,(tL es agg f (xs++ms)).mono h2 hk⟩⟩
theorem tLK_le {α:Type} {es:Nat} {agg:Bool} {f:α→Ty} {xs ms:List α}:Le (tLK es agg f xs ms) (tL es agg f xs):=fun F w v ⟨A,c,h1,h2⟩=>by
 obtain ⟨A',c',e,h3,h4,h5⟩:=h2
 injection e with e1 e2 e3
 subst e1 e3
 refine ⟨A,c,h1,by simp at h3;omega,h4,?_⟩
 rcases h5 with h5 | ⟨b,o,h6,h7,h8⟩
 ·exact .inl (List.append_eq_nil_iff.1 h5).1
 ·exact .inr ⟨b,o,h6,h7,fun i x hi=>h8 i x (by rw [List.getElem?_append_left (List.getElem?_eq_some_iff.1 hi).1];exact hi)⟩
instance {α:Type} {es:Nat} {agg:Bool} {f:α→Ty} {xs ms:List α}:Shape (tLK es agg f xs ms) 1 false:=⟨fun ⟨_,_,h,_⟩=>by rw [h];exact xc2 rfl⟩
def LeFs:List Fd→List Fd→Prop
 | [],[]=>True
 | f::r,g::s=>(f.n=g.n∧f.agg=g.agg∧Le f.t g.t)∧LeFs r s
 | _,_=>False
theorem LeFs.sum: ∀{fs gs:List Fd},LeFs fs gs→Fd.sum fs=Fd.sum gs
 | [],[],_=>rfl
 | _::_,_::_,h=>by rw [Fd.sum,Fd.sum,h.1.1,LeFs.sum h.2]
 | [],_::_,h=>h.elim
 | _::_,[],h=>h.elim
theorem LeFs.all {F:Dom} {w:World} {cs:Array Value}: ∀{fs gs:List Fd} {o:Nat},LeFs fs gs→Fd.all F w cs o fs→Fd.all F w cs o gs
 | [],[],_,_,h=>h
 | f::r,g::s,o,h,ha=>by
  obtain ⟨⟨h1,h2,h3⟩,h4⟩:=h
  refine ⟨⟨by rw [←h1,←h2];exact ha.1.1,by rw [←h1,←h2];exact h3 _ _ _ ha.1.2⟩,?_⟩
  rw [←h1];exact LeFs.all h4 ha.2
 | [],_::_,_,h,_=>h.elim
 | _::_,[],_,h,_=>h.elim
theorem Le.tS {fs gs:List Fd} (h:LeFs fs gs):Le (tS fs) (tS gs):=fun _ _ _ ⟨cs,h1,h2,h3⟩=>⟨cs,h1,h2.trans h.sum,h.all h3⟩
theorem add0 {A:Option Addr} {es:Nat}:A.map (·.add (0*es))=A:=by cases A <;> simp [Addr.add]
section
variable {P:Program} {c:Base} {d ty:Nat} {pos:String} {af:Array Edge} {gd:Option (Nat×Bool)}
theorem d_lenK {T:TypeId} {x:Operand} {α:Type} {es:Nat} {agg:Bool} {f:α→Ty} {xs ms:List α} {E:TypeId} (hT:P.underlying T=some (.slice E)):
  Does P c ⟨some d,.call {callee:= .builtin .len,args:= #[x],argTypes:= #[T]},ty,pos,af,gd⟩ ⟨[(x,.val (tLK es agg f xs ms))],[],some (d,some (.val (tI xs.length))),[],[]⟩:=
 Does.value rfl fun g h al a w η hrd _ s=>by
  obtain ⟨A,cc,h1,_⟩:=(x8 s hrd.1).1
  have h1:a.eval x= .slice A xs.length cc:=h1
  exact ⟨_,w,by simp only [execOp,resolve,invoke,builtin,List.map_toArray,List.map_cons,List.map_nil,h1];simp [Builtin.len_,run_underlying hT,goInt,go_sem],Ext.refl w,rfl,fun k hk=>by cases hk⟩
theorem d_sliceK {T E es:Nat} {agg:Bool} {α:Type} {f:α→Ty} {xs ms:List α} {x y:Operand} {v:Int} (sl:SlI P T E es agg) (hv:v=((xs.length+ms.length:Nat):Int)):
  Does P c ⟨some d,.slice T x none (some y) none,ty,pos,af,gd⟩ ⟨[(x,.val (tLK es agg f xs ms)),(y,.val (tI v))],[],some (d,some (.val (tL es agg f (xs++ms)))),[],[]⟩:=by
 subst hv
 exact Does.value rfl fun g h al a w η hrd _ s=>by
  obtain ⟨A,cap,hA,hm⟩:=(x8 s hrd.1).1
  have hA:a.eval x= .slice A xs.length cap:=hA
  have hle:xs.length+ms.length≤cap:=by
   obtain ⟨_,_,e,h1,_⟩:=hm
   injection e with e1 e2 e3
   subst e3;simpa using h1
  have hb:=xp5 (P:=P) (b:=true) (len:=xs.length) (cap:=cap) s (lo:=none) (hi:=some y) (l:=0) (u:=xs.length+ms.length) (fun _=>rfl) (fun h=>by cases h) hrd.2 (Nat.zero_le _) hle
  simp only [Option.map_none] at hb
  refine ⟨.slice (if cap=0 then A else A.map (·.add (0*es))) (xs.length+ms.length - 0) (cap - 0),w,?_,Ext.refl w,?_,fun j hj=>by cases hj⟩
  ·simp only [execOp,hA,Instr.sliceAt,Sem.run_bind,run_underlying sl.und,Result.andThen_ok,Instr.slice,Option.map_none,hb,sl.el.size_run w,Sem.run_pure]
  ·have e:(if cap=0 then A else A.map (·.add (0*es)))=A:=by
    split
    ·rfl
    ·exact add0
   rw [e];exact hm
theorem d_keepO {T T0 E es k n:Nat} {agg:Bool} {α:Type} {f:α→Ty} {xs ms:List α} {ts:List Ent} {x y:Operand} {v:Int} (sl:SlI P T E es agg) (hlb:NoLb c) (hts:ts=(xs++ms).map fun x=> .val (f x)) (hn:n=xs.length+ms.length) (hv:v=(xs.length:Int)):
  Does P c ⟨some d,.slice T x none (some y) none,ty,pos,af,gd⟩ ⟨[(x,.own (.sl k es 0 n)),(y,.val (tI v))],[(k,⟨T0,es,agg,ts⟩)],some (d,some (.val (tLK es agg f xs ms))),[(k,none)],[]⟩:=by
 subst hv hn hts
 exact Does.give rfl fun g h al a w η hrd hk s=>by
  have hx:=(x8 s hrd.1).1
  have hp:=s.give (xs:=xs++ms) (f:=f) hk hlb (by rw [List.drop_zero,List.take_of_length_le (by simp)]) (by simp) hx
  obtain ⟨A,hA,hcap,hadr⟩:=hx
  have hA:a.eval x= .slice A (xs.length+ms.length) (η.c k - 0):=hA
  have hb:=xp5 (P:=P) (b:=true) (len:=xs.length+ms.length) (cap:=η.c k - 0) s (lo:=none) (hi:=some y) (l:=0) (u:=xs.length) (fun _=>rfl) (fun h=>by cases h) hrd.2 (Nat.zero_le _) (by omega)
  simp only [Option.map_none] at hb
  refine ⟨.slice (if η.c k - 0=0 then A else A.map (·.add (0*es))) (xs.length - 0) (η.c k - 0 - 0),?_,A,η.c k - 0,?_,by rw [←hA];exact hp⟩
  ·simp only [execOp,hA,Instr.sliceAt,Sem.run_bind,run_underlying sl.und,Result.andThen_ok,Instr.slice,Option.map_none,hb,sl.el.size_run w,Sem.run_pure]
  ·have e:(if η.c k - 0=0 then A else A.map (·.add (0*es)))=A:=by
    split
    ·rfl
    ·exact add0
   rw [e];rfl
end
def tG (G:Dom) (t:Ty):Ty:=⟨fun F w v=>t.p (fun b=>F b∧G b) w v,fun h hk=>t.mono h fun b o hb hl hd=>⟨⟨(hk b o hb.1 hl hd).1,hb.2⟩,(hk b o hb.1 hl hd).2⟩⟩
instance {G:Dom} {t:Ty} {n:Nat} {agg:Bool} [h:Shape t n agg]:Shape (tG G t) n agg:=⟨fun hp=>h.flat (F:=fun b=>_∧G b) hp⟩
def Free (t:Ty):Prop:= ∀F F' w w' v,t.p F w v→t.p F' w' v
theorem Free.E {u:Value}:Free (tE u):=fun _ _ _ _ _ h=>h
def CtN (P:Program) (f:FuncId) (ts:List Ty) (rr:Nat→Ty):Prop:=
 ∀(F:Dom) (w:World) (vs:List Value),Tup.all F w ts vs→Calls P f vs.toArray w fun e w'=> ∃v,e= .returned v∧Ext w w'∧(rr w.heap.size).p (fun b=>w.heap.size≤b∨F b) w' v
abbrev up (n:Nat):Dom:=fun b=>n≤b
section
variable {P:Program}
theorem CtN.intro' {f:FuncId} {fn:Func} {x:Code} {N:Nat} {ts:List Ty} (tt:Nat→List Ty) {rr:Nat→Ty} (hf:P.funcs[f]? =some fn) (hb:fn.body=some x) (hN:fn.ntmps=N) (hlb:Nat.ble ts.length N=true)
  (hl2: ∀n,(tt n).length=ts.length) (htt: ∀F w vs,Tup.all F w ts vs→Tup.all F w (tt w.heap.size) vs)
  (H: ∀w F,wc P (Base.plain N w F) x (Post P w F fn (rr w.heap.size)) (args 0 (tt w.heap.size)) (fun _=>none) (fun _=>false)):CtN P f ts rr:=by
 intro F w vs hvs0
 have hvs:=htt F w vs hvs0
 have hl:(tt w.heap.size).length≤N:=by rw [hl2];exact Nat.le_of_ble_eq_true hlb
 generalize htq:tt w.heap.size=tq at*
 have hlen:vs.length=tq.length:=by
  clear H hlb hl hl2 htt hvs0 htq
  induction tq generalizing vs with
  | nil=>cases vs with
   | nil=>rfl
   | cons=>exact hvs.elim
  | cons t r ih=>cases vs with
   | nil=>exact hvs.elim
   | cons v s=>simp [ih s hvs.2]
 have H':=H w F
 rw [htq] at H'
 refine xi9 hf hb (H' _ w ⟨⟨fun _=>0,fun _=>0,fun _=>False⟩,?_⟩)
 refine ⟨?_,rfl,fun s e hs=> ?_,fun k x hx=>(by cases hx),fun k k' x x' hx=>(by cases hx),⟨rfl,rfl,rfl,Nat.le_refl _,fun _ _ _ _=>rfl,fun _ hb=>hb,fun _ hb=>hb.elim⟩,fun x hx=>(by cases hx),fun x hx=>(by cases hx),fun b hb=>hb.elim,fun k hk=>(by cases hk),fun k x hk=>(by cases hk),fun b hb=>hb.elim⟩
 ·simp [hlen,hN,Base.plain];omega
 ·obtain ⟨j,t,h1,h2,h3⟩:=args_spec tq 0 s e hs
  subst h3
  have hj:j < tq.length:=(List.getElem?_eq_some_iff.1 h2).1
  obtain ⟨v,hv,hp⟩:=Tup.get tq vs j t hvs h2
  refine ⟨by show s < N;omega,fun k hk=>(by cases hk),?_⟩
  have e1:(vs.toArray++Array.replicate (fn.ntmps - vs.toArray.size) undef).getD s undef=v:=by
   rw [Array.getD_eq_getD_getElem?,Array.getElem?_append,if_pos (by simp;omega)]
   rw [h1,Nat.zero_add,List.getElem?_toArray,hv];rfl
  show t.p _ w _
  simp only [e1]
  exact t.mono hp fun b o hb hl _=>⟨⟨.inr ⟨hb,fun hv=>hv⟩,fun ⟨k,x,hk,_⟩=>(by cases hk),fun hv=>hv,fun hv=>hv⟩,hl⟩
theorem CtN.intro {f:FuncId} {fn:Func} {x:Code} {N:Nat} {ts:List Ty} {rr:Nat→Ty} (hf:P.funcs[f]? =some fn) (hb:fn.body=some x) (hN:fn.ntmps=N) (hlb:Nat.ble ts.length N=true)
  (H: ∀w F,wc P (Base.plain N w F) x (Post P w F fn (rr w.heap.size)) (args 0 ts) (fun _=>none) (fun _=>false)):CtN P f ts rr:=CtN.intro' (fun _=>ts) hf hb hN hlb (fun _=>rfl) (fun _ _ _ h=>h) H
variable {c:Base} {d ty:Nat} {pos:String} {af:Array Edge} {gd:Option (Nat×Bool)}
end
section
variable {P:Program} {c:Base} {d ty:Nat} {pos:String} {af:Array Edge} {gd:Option (Nat×Bool)}
end
section
variable {P:Program} {c:Base} {g:Slots} {h:Keys} {al:Names} {d ty:Nat} {pos:String} {af:Array Edge} {gd:Option (Nat×Bool)}
end
structure OvJ where
  D:Dom
  J:Nat→World→Prop
  loc: ∀n w w',J n w→w.heap.size≤w'.heap.size→(∀b,D b→b < w.heap.size→w'.heap[b]? =w.heap[b]?)→J n w'
section
variable {P:Program} {X:OvJ}
variable {c:Base} {g:Slots} {h:Keys} {al:Names} {d ty:Nat} {pos:String} {af:Array Edge} {gd:Option (Nat×Bool)}
end
def tLW {α:Type} (T es:Nat) (agg:Bool) (f:α→Ty) (xs ms:List α):Ty:=
  ⟨fun F w v=> ∃b c cs,v= .slice (some ⟨b,0,none⟩) xs.length c∧F b∧w.heap[b]? =some (.cells cs T (0,0))∧cs.size=c*es∧0 < es∧(agg=false→es=1)∧xs.length+ms.length≤c∧c≤9223372036854775807∧
      ∀i x,(xs++ms)[i]? =some x→(f x).p (fun b'=>F b'∧b'≠b) w (pick agg es cs (i*es)),
   fun ⟨b,c,cs,h1,hF,hh,h2,h3,h4,h5,h6,hx⟩ hk=>⟨b,c,cs,h1,(hk b _ hF hh rfl).1,(hk b _ hF hh rfl).2,h2,h3,h4,h5,h6,fun i x hi=>(f x).mono (hx i x hi) fun b' o hb hl hd=>⟨⟨(hk b' o hb.1 hl hd).1,hb.2⟩,(hk b' o hb.1 hl hd).2⟩⟩⟩
instance {α:Type} {T es:Nat} {agg:Bool} {f:α→Ty} {xs ms:List α}:Shape (tLW T es agg f xs ms) 1 false:=⟨fun ⟨_,_,_,h,_⟩=>by rw [h];exact xc2 rfl⟩
section
variable {P:Program} {c:Base} {d ty:Nat} {pos:String} {af:Array Edge} {gd:Option (Nat×Bool)}
end
abbrev VM:=Nat→Option (Nat×Nat)
def tSlV (V:VM) (n:Nat):Ty:=⟨fun _ _ v=> ∃b m c,v= .slice (some ⟨b,0,none⟩) n c∧V b=some (m,c)∧n+12≤m,fun h _=>h⟩
instance {V:VM} {n:Nat}:Shape (tSlV V n) 1 false:=⟨fun ⟨_,_,_,h,_⟩=>by rw [h];exact xc2 rfl⟩
open Classical in
section
variable {P:Program} {g:Slots} {h:Keys} {al:Names} {Q:Exit→Act→World→Prop}
end
section
variable {P:Program} {c:Base} {d ty:Nat} {pos:String} {af:Array Edge} {gd:Option (Nat×Bool)}
end
section
variable {P:Program} {c:Base} {d ty:Nat} {pos:String} {af:Array Edge} {gd:Option (Nat×Bool)}
end
theorem leNilG {α:Type} {G:Dom} {es:Nat} {agg:Bool} {f:α→Ty} {xs:List α} (h:xs=[]):Le (tE (.slice none 0 0)) (tG G (tL es agg f xs)):=fun _ _ _ hv=>leNil h _ _ _ hv
section
variable {P:Program} {c:Base} {g:Slots} {h:Keys} {al:Names} {Q:Exit→Act→World→Prop}
end
section
variable {P:Program} {c:Base} {d ty:Nat} {pos:String} {af:Array Edge} {gd:Option (Nat×Bool)}
end
section
variable {P:Program} {c:Base} {g:Slots} {h:Keys} {al:Names} {Q:Exit→Act→World→Prop}
end
section
variable {P:Program} {c:Base} {d ty:Nat} {pos:String} {af:Array Edge} {gd:Option (Nat×Bool)}
theorem St.giveAtN {g:Slots} {h:Keys} {al:Names} {a:Act} {w:World} {t k T es off len:Nat} {agg:Bool} {ts:List Ent} {α:Type} {f:α→Ty} {xs:List α} (G:Dom) (hG: ∀b,c.w0.heap.size≤b→G b) (hfr: ∀x,Free (f x)) (hs:St c g h al a w) (hg:g t=some (.own (.sl k es off len))) (hk:h k=some ⟨T,es,agg,ts⟩) (hlb:NoLb c)
  (hts:(ts.drop off).take len=xs.map fun x=> .val (f x)) (hl:xs.length=len):St c (upd g t (some (.val (tG G (tL es agg f xs))))) (upd h k none) al a w:=by
 obtain ⟨η,s⟩:=hs
 have hv:=(s.slot t _ hg).2.2
 have h2:(tG G (tL es agg f xs)).p (c.dom (upd h k none) η) w (a.tmps.getD t undef):=by
  obtain ⟨A,cc,h1,h2,h3,h4⟩:=s.give hk hlb hts hl hv
  refine ⟨A,cc,h1,h2,h3,?_⟩
  cases xs with
  | nil=>exact .inl rfl
  | cons x0 xr=>
   rcases h4 with h4 | ⟨b,o,e,hb,hx⟩
   ·cases h4
   ·obtain ⟨A',e1,e2,e3⟩:=hv
    have hlen:0 < len:=by rw [←hl];simp
    have hc:0 < η.c k:=by omega
    have hb0:=((s.key k _ hk).2.2.2 hc).1.resolve_right (hlb _)
    have e4:=e3 (by omega)
    rw [h1] at e1
    have e1:A=A':=by injection e1
    rw [←e1,e] at e4
    have eb:b=η.b k:=by injection e4 with e4;injection e4
    refine .inr ⟨b,o,e,⟨hb,hG b (by rw [eb];exact hb0)⟩,fun i y hi=> ?_⟩
    obtain ⟨u,hm,hu⟩:=hx i y hi
    exact ⟨u,hm,hfr y _ _ _ _ _ hu⟩
 have s2:=(s.drop k).put (s.slot t _ hg).1 (e:= .val (tG G (tL es agg f xs))) h2 fun j hj=>by cases hj
 refine ⟨η,?_⟩
 have e:a.put (some t) (a.tmps.getD t undef)=a:=by
  have hlt:t < a.tmps.size:=by rw [s.tn];exact (s.slot t _ hg).1
  have:a.tmps.setIfInBounds t (a.tmps.getD t undef)=a.tmps:=by
   apply Array.ext_getElem?
   intro i
   rw [Array.getElem?_setIfInBounds]
   by_cases hi:t=i
   ·subst hi;simp [hlt]
   ·simp [hi]
  simp only [Act.put,this]
 rw [←e];exact s2
theorem Does.giveLN {o:Oper} {rd:List (Operand×Ent)} {kr:List (Nat×HEnt)} {d k T es off len:Nat} {agg:Bool} {ts:List Ent} {α:Type} {f:α→Ty} {xs:List α} (G:Dom) (hG: ∀b,c.w0.heap.size≤b→G b) (hfr: ∀x,Free (f x)) (hd:Does P c o ⟨rd,kr,some (d,some (.own (.sl k es off len))),[],[]⟩) (hlb:NoLb c)
  (hts:(ts.drop off).take len=xs.map fun x=> .val (f x)) (hl:xs.length=len):Does P c o ⟨rd,(k,⟨T,es,agg,ts⟩)::kr,some (d,some (.val (tG G (tL es agg f xs)))),[(k,none)],[]⟩:=by
 intro g h al a w hp hs
 refine Oper.wpIn_mono (fun a' w' hs'=> ?_) (hd g h al a w ⟨hp.rd,hp.kr.2,hp.nk,fun x hx=>by cases hx;exact hp.d (d,some (.val (tG G (tL es agg f xs)))) rfl⟩ hs)
 have:=St.giveAtN G hG hfr hs' (xa7 _ _ _) hp.kr.1 hlb hts hl
 simp only [Eff.g,upd_twice] at this
 exact this
end
section
variable {P:Program} {c:Base} {g:Slots} {h:Keys} {al:Names} {Q:Exit→Act→World→Prop}
theorem C_nilS {x:Code} {t:Nat} (k T es:Nat) (agg:Bool) (ht:g t=some (.val (tE (.slice none 0 0)))) (hk:al k=false) (hes:Nat.blt 0 es=true) (hagg:agg=false→es=1) (H:wc P c x Q (upd g t (some (.own (.sl k es 0 0)))) (upd h k (some ⟨T,es,agg,[]⟩)) (fun j=>Nat.beq j k || al j)):wc P c x Q g h al:=fun a w hs=>by
 obtain ⟨η,s⟩:=hs
 obtain ⟨η',s',hc,hoth⟩:=s.ghost k hk T es agg (by simpa using hes) hagg
 have hv:a.tmps.getD t undef= .slice none 0 0:=(s'.slot t _ ht).2.2
 have s2:=s'.put (v:=a.tmps.getD t undef) (s'.slot t _ ht).1 (e:= .own (.sl k es 0 0)) ⟨none,by rw [hv,hc],by simp [hc],fun hlt=>by rw [hc] at hlt;omega⟩ fun j hj=>by
  simp only [Ent.supp,VP.supp,List.mem_singleton] at hj
  subst hj;simp
 refine H a w ⟨η',?_⟩
 have e:a.put (some t) (a.tmps.getD t undef)=a:=by
  have hlt:t < a.tmps.size:=by rw [s.tn];exact (s.slot t _ ht).1
  have:a.tmps.setIfInBounds t (a.tmps.getD t undef)=a.tmps:=by
   apply Array.ext_getElem?
   intro i
   rw [Array.getElem?_setIfInBounds]
   by_cases hi:t=i
   ·subst hi;simp [hlt]
   ·simp [hi]
  simp only [Act.put,this]
 rw [e] at s2;exact s2
end
section
variable {P:Program} {c:Base} {d ty:Nat} {pos:String} {af:Array Edge} {gd:Option (Nat×Bool)}
theorem d_callRN {f:FuncId} {xs:List Operand} {aT:Array TypeId} {us:List Ty} {rr:Nat→Ty} {r:Ty} {α:Type} {ft:α→Ty} {zs:List α} {ts:List Ent} {agg:Bool} (k T es len:Nat) (ents:List Ent) (hr: ∀m F w v,(rr m).p F w v→r.p (up m) w v) (hc:CtN P f us rr) (hf:FnI P f) (hlb:NoLb c)
  (hts:(ts.drop 0).take len=zs.map fun x=> .val (ft x)) (hzl:zs.length=len) (ha:ArgsR k es len (tL es agg ft zs) ents us) (hl:xs.length=us.length):
  Does P c ⟨some d,.call {callee:= .value (.func f),args:=xs.toArray,argTypes:=aT},ty,pos,af,gd⟩ ⟨xs.zip ents,[(k,⟨T,es,agg,ts⟩)],some (d,some (.val r)),[],[]⟩:=by
 intro g h al a w hp ⟨η,st⟩
 obtain ⟨fn,h1,h2,h3⟩:=hf
 have hargs:=ArgsR.all st hp.kr.1 hlb hts hzl hp.rd hl ha
 have hrun:(execOp a.eval ⟨some d,.call {callee:= .value (.func f),args:=xs.toArray,argTypes:=aT},ty,pos,af,gd⟩).run P w= .ok (.enter f (xs.map a.eval).toArray) w:=by
  simp only [execOp,resolve,Act.eval,Deferred.ofValue,Sem.run_bind,Sem.run_pure,Result.andThen_ok,invoke]
  simp only [Array.append_empty,Array.empty_append,List.map_toArray]
  exact xg7 h1 h2 h3 _ w
 refine xo2 hrun (Calls.mono (hc _ w (xs.map a.eval) hargs) ?_)
 rintro e w' ⟨v,rfl,hext,hv⟩
 have hn:r.p (c.dom h η) w' v:=r.mono (hr _ _ _ _ hv) fun b o hb hl _=>by
  have hb:w.heap.size≤b:=hb
  refine ⟨⟨.inl (Nat.le_trans st.fr.size hb),fun hO=> ?_,fun hv=> ?_,fun hv=> ?_⟩,hl⟩
  ·have:=st.olt hO;omega
  ·have:=(st.fr.vnew b hv).1;omega
  ·have:=st.vol b hv;omega
 exact ⟨v,rfl,η,(st.ext hext).put (hp.d _ rfl) (e:= .val r) hn (fun k hk=>by cases hk)⟩
theorem hrU {t:Ty} (m:Nat) (F:Dom) (w:World) (v:Value) (hp:(tG (up m) t).p F w v):t.p (up m) w v:=t.mono hp fun _ _ hb hl _=>⟨hb.2,hl⟩
end
end An
namespace An.S
open Go Go.Proofs An
instance sl72:SlI Tryz.prog 72 9 1 false:=⟨Tryz.underlying72,ti9⟩
instance fi65:FnI Tryz.prog 65:=⟨_,Tryz.func65,by kernel_rfl,rfl⟩
instance fi66:FnI Tryz.prog 66:=⟨_,Tryz.func66,by kernel_rfl,rfl⟩
instance fi90:FnI Tryz.prog 90:=⟨_,Tryz.func90,by kernel_rfl,rfl⟩
instance fi91:FnI Tryz.prog 91:=⟨_,Tryz.func91,by kernel_rfl,rfl⟩
instance fi117:FnI Tryz.prog 117:=⟨_,Tryz.func117,by kernel_rfl,rfl⟩
instance fi138:FnI Tryz.prog 138:=⟨_,Tryz.func138,by kernel_rfl,rfl⟩
theorem el5:ElI Tryz.prog 5 1 1 false (.int .u8 0):=⟨ti5,by kernel_rfl,by kernel_rfl⟩
theorem el9:ElI Tryz.prog 9 1 16 false (.string ⟨#[]⟩):=⟨ti9,by kernel_rfl,by kernel_rfl⟩
theorem zr108:(Tryz.prog.info? 108).bind (·.zero)=some (.agg #[.bool false,.slice none 0 0,.bool false,.slice none 0 0])∧ ∀F w,(tS [⟨2,true,(tS [⟨1,false,(tE (.bool false))⟩,⟨1,false,(tLm [])⟩])⟩,⟨2,true,(tS [⟨1,false,(tE (.bool false))⟩,⟨1,false,(tLm [])⟩])⟩]).p F w (.agg #[.bool false,.slice none 0 0,.bool false,.slice none 0 0]):=⟨by kernel_rfl,fun _ _=>⟨_,rfl,rfl,⟨fun h=>Bool.noConfusion h,⟨_,rfl,rfl,⟨fun _=>rfl,rfl⟩,⟨fun _=>rfl,⟨none,0,rfl,Nat.le_refl _,by decide,.inl rfl⟩⟩,trivial⟩⟩,⟨fun h=>Bool.noConfusion h,⟨_,rfl,rfl,⟨fun _=>rfl,rfl⟩,⟨fun _=>rfl,⟨none,0,rfl,Nat.le_refl _,by decide,.inl rfl⟩⟩,trivial⟩⟩,trivial⟩⟩
theorem bu108:BuI Tryz.prog 108 (fun i=>some (i*2,2)) (.agg #[.bool false,.slice none 0 0,.bool false,.slice none 0 0]):=BuI.array Tryz.underlying108 ti24 zr108.1
theorem zf5:Flat 1 false (.int .u8 0):=xc2 rfl
theorem zf9:Flat 1 false (.string ⟨#[]⟩):=xc2 rfl
instance un72:UnI Tryz.prog 72 (.slice 9):=⟨Tryz.underlying72⟩
theorem small1: ∀n:Fin 100,n.val < 10→(⟨#[48,49,50,51,52,53,54,55,56,57,97,98,99,100,101,102,103,104,105,106,107,108,109,110,111,112,113,114,115,116,117,118,119,120,121,122]⟩:ByteArray).extract n.val (n.val+1)=strOf (decB n.val):=by decide+kernel
theorem small2: ∀n:Fin 100,¬n.val < 10→(⟨#[48,48,48,49,48,50,48,51,48,52,48,53,48,54,48,55,48,56,48,57,49,48,49,49,49,50,49,51,49,52,49,53,49,54,49,55,49,56,49,57,50,48,50,49,50,50,50,51,50,52,50,53,50,54,50,55,50,56,50,57,51,48,51,49,51,50,51,51,51,52,51,53,51,54,51,55,51,56,51,57,52,48,52,49,52,50,52,51,52,52,52,53,52,54,52,55,52,56,52,57,53,48,53,49,53,50,53,51,53,52,53,53,53,54,53,55,53,56,53,57,54,48,54,49,54,50,54,51,54,52,54,53,54,54,54,55,54,56,54,57,55,48,55,49,55,50,55,51,55,52,55,53,55,54,55,55,55,56,55,57,56,48,56,49,56,50,56,51,56,52,56,53,56,54,56,55,56,56,56,57,57,48,57,49,57,50,57,51,57,52,57,53,57,54,57,55,57,56,57,57]⟩:ByteArray).extract (n.val*2) (n.val*2+2)=strOf (decB n.val):=by decide+kernel
theorem small1' {n:Nat} {i j:Int} (h:n < 10) (hi:i=(n:Int)) (hj:j=((n+1:Nat):Int)):(⟨#[48,49,50,51,52,53,54,55,56,57,97,98,99,100,101,102,103,104,105,106,107,108,109,110,111,112,113,114,115,116,117,118,119,120,121,122]⟩:ByteArray).extract i.toNat j.toNat=strOf (decB n):=by
 subst hi hj;exact small1 ⟨n,by omega⟩ h
theorem small2' {n:Nat} {i j:Int} (h: ¬n < 10) (h2:n < 100) (hi:i=((n*2:Nat):Int)) (hj:j=((n*2+2:Nat):Int)):(⟨#[48,48,48,49,48,50,48,51,48,52,48,53,48,54,48,55,48,56,48,57,49,48,49,49,49,50,49,51,49,52,49,53,49,54,49,55,49,56,49,57,50,48,50,49,50,50,50,51,50,52,50,53,50,54,50,55,50,56,50,57,51,48,51,49,51,50,51,51,51,52,51,53,51,54,51,55,51,56,51,57,52,48,52,49,52,50,52,51,52,52,52,53,52,54,52,55,52,56,52,57,53,48,53,49,53,50,53,51,53,52,53,53,53,54,53,55,53,56,53,57,54,48,54,49,54,50,54,51,54,52,54,53,54,54,54,55,54,56,54,57,55,48,55,49,55,50,55,51,55,52,55,53,55,54,55,55,55,56,55,57,56,48,56,49,56,50,56,51,56,52,56,53,56,54,56,55,56,56,56,57,57,48,57,49,57,50,57,51,57,52,57,53,57,54,57,55,57,56,57,57]⟩:ByteArray).extract i.toNat j.toNat=strOf (decB n):=by
 subst hi hj;exact small2 ⟨n,h2⟩ h
theorem dec_len (n:Nat):(decB n).length≤2:=by unfold decB;split <;> simp
theorem boo_len (b:Bool):(booB b).length≤5:=by cases b <;> decide
theorem app_row {bs cs:List UInt8}:rV tU8 bs++(bts (strOf cs)).map (fun y=>Ent.val (tU8 y))=rV tU8 (bs++cs):=by simp [rV,bts_mk]
theorem u8s {n:Nat} (h:n < 256):(IntKind.u8).wrap (n:Int)=(((w8 n).toNat:Nat):Int):=by rw [w8_nat h];exact wu8 (by omega) (by omega)
theorem c_small (n:Nat) (h:n < 100):
  Ct Tryz.prog 138 [tI n] (tSt (strOf (decB n))):=by
 refine Ct.intro Tryz.func138 rfl Tryz.ntmps138 rfl ?_
 intro w F
 refine A12 ?_
 refine x7 rfl (fun h172=> ?_) (fun h172=> ?_)
 ·
  refine A5 ?_
  refine R3 (d_sliceS (s:=⟨#[48,49,50,51,52,53,54,55,56,57,97,98,99,100,101,102,103,104,105,106,107,108,109,110,111,112,113,114,115,116,117,118,119,120,121,122]⟩) Tryz.underlying9 (by omega) (by omega) (Int.le_trans (b:=36) (by omega) (by decide)) (small1' (n:=n) (by omega) (by omega) (by omega))) rfl rfl rfl ?_
  refine A5 ?_
  exact x3 Plain.mk' rfl rfl Le.refl
 ·
  refine A5 ?_
  refine R2 (xg5 (wr64 (by omega) (by omega))) rfl rfl ?_
  refine A1 ?_
  refine R2 (xg5 (wr64 (by omega) (by omega))) rfl rfl ?_
  refine A1 ?_
  refine R3 (d_sliceS (s:=⟨#[48,48,48,49,48,50,48,51,48,52,48,53,48,54,48,55,48,56,48,57,49,48,49,49,49,50,49,51,49,52,49,53,49,54,49,55,49,56,49,57,50,48,50,49,50,50,50,51,50,52,50,53,50,54,50,55,50,56,50,57,51,48,51,49,51,50,51,51,51,52,51,53,51,54,51,55,51,56,51,57,52,48,52,49,52,50,52,51,52,52,52,53,52,54,52,55,52,56,52,57,53,48,53,49,53,50,53,51,53,52,53,53,53,54,53,55,53,56,53,57,54,48,54,49,54,50,54,51,54,52,54,53,54,54,54,55,54,56,54,57,55,48,55,49,55,50,55,51,55,52,55,53,55,54,55,55,55,56,55,57,56,48,56,49,56,50,56,51,56,52,56,53,56,54,56,55,56,56,56,57,57,48,57,49,57,50,57,51,57,52,57,53,57,54,57,55,57,56,57,57]⟩) Tryz.underlying9 (by omega) (by omega) (Int.le_trans (b:=200) (by omega) (by decide)) (small2' (n:=n) (by omega) h (by omega) (by omega))) rfl rfl rfl ?_
  refine A4 ?_
  exact x3 Plain.mk' rfl rfl Le.refl
theorem c_AppUint (bs:List UInt8) (hb:bs.length≤1000000) (n:Nat) (hn:n < 100):
  CtG Tryz.prog 117 [(100,⟨5,1,false,rV tU8 bs⟩)] [.own (.sl 100 1 0 bs.length),.val (tE (.int .u64 (n:Int))),.val (tI 10)] (.own (.sl 101 1 0 (bs++(decB n)).length)) [(101,⟨5,1,false,rV tU8 (bs++(decB n))⟩)] [101]:=by
 have hdl:=dec_len n
 refine CtG.intro [100] Tryz.func117 rfl Tryz.ntmps117 rfl rfl ⟨⟨rfl,xa0⟩,trivial⟩ ?_
 intro w F η
 refine A12 ?_
 refine C_bT rfl (decide_eq_true (by omega)) ?_
 refine A7 ?_
 refine C_bT rfl (decide_eq_true (by omega)) ?_
 refine A4 ?_
 refine R1 (x5 Tryz.underlying3 (isS Tryz.underlying102) (wr64 (by omega) (by omega))) rfl (R1 (x4 (c_small n hn) fi138 rfl) rfl (RE (d_appendS (k:=100) (k':=101) (sb:=strOf (decB n)) (ts':=rV tU8 (bs++(decB n))) Tryz.underlying9 Tryz.underlying106 el5 zf5 rfl xc7 (by rw [xh4];omega) (by rw [xh4];omega) app_row (n':=(bs++(decB n)).length) (by rw [xh4,List.length_append])) ⟨rfl,rfl,trivial⟩ ⟨rfl,trivial⟩ ⟨rfl,trivial⟩ ?_))
 refine A6 ?_
 exact xd1 LentC.mk' rfl rfl Imp.refl ⟨rfl,trivial⟩ rfl ⟨⟨rfl,xa0⟩,trivial⟩ rfl
theorem c_AppInt0 (bs:List UInt8) (hb:bs.length≤1000000) (n:Nat) (hn:n < 100):
  CtG Tryz.prog 90 [(100,⟨5,1,false,rV tU8 bs⟩)] [.own (.sl 100 1 0 bs.length),.val (tE (.int .i64 (n:Int))),.val (tI 10)] (.own (.sl 101 1 0 (bs++(decB n)).length)) [(101,⟨5,1,false,rV tU8 (bs++(decB n))⟩)] [101]:=by
 have hdl:=dec_len n
 refine CtG.intro [100] Tryz.func90 rfl Tryz.ntmps90 rfl rfl ⟨⟨rfl,xa0⟩,trivial⟩ ?_
 intro w F η
 refine A8 ?_
 refine R1 (x5 Tryz.underlying102 (isS Tryz.underlying2) (by first | exact wu64 (by omega) (by omega) | exact mu64)) rfl ?_
 refine A10 ?_
 refine C_bF rfl (decide_eq_false (by omega)) ?_
 refine A7 ?_
 refine RE (xa9 (fun j=>cond (Nat.beq j 101) 101 (100)) (c_AppUint bs hb n hn) fi117 rfl (krC (ρ:=fun j=>cond (Nat.beq j 101) 101 (100)) (k:=100) xa5 (krN (ρ:=fun j=>cond (Nat.beq j 101) 101 (100)))) (krC (ρ:=fun j=>cond (Nat.beq j 101) 101 (100)) (k:=101) xa5 (krN (ρ:=fun j=>cond (Nat.beq j 101) 101 (100)))) ⟨⟨rfl,xa0⟩,trivial⟩ rfl) ⟨rfl,rfl,rfl,trivial⟩ ⟨rfl,trivial⟩ ⟨rfl,trivial⟩ ?_
 refine A4 ?_
 exact xd1 LentC.mk' rfl rfl Imp.refl ⟨rfl,trivial⟩ rfl ⟨⟨rfl,xa0⟩,trivial⟩ rfl
theorem c_AppInt (bs:List UInt8) (hb:bs.length≤1000000) (n:Nat) (hn:n < 100):
  CtG Tryz.prog 65 [(100,⟨5,1,false,rV tU8 bs⟩)] [.own (.sl 100 1 0 bs.length),.val (tE (.int .i64 (n:Int))),.val (tI 10)] (.own (.sl 101 1 0 (bs++(decB n)).length)) [(101,⟨5,1,false,rV tU8 (bs++(decB n))⟩)] [101]:=by
 have hdl:=dec_len n
 refine CtG.intro [100] Tryz.func65 rfl Tryz.ntmps65 rfl rfl ⟨⟨rfl,xa0⟩,trivial⟩ ?_
 intro w F η
 refine A10 ?_
 refine RE (xa9 (fun j=>cond (Nat.beq j 101) 101 (100)) (c_AppInt0 bs hb n hn) fi90 rfl (krC (ρ:=fun j=>cond (Nat.beq j 101) 101 (100)) (k:=100) xa5 (krN (ρ:=fun j=>cond (Nat.beq j 101) 101 (100)))) (krC (ρ:=fun j=>cond (Nat.beq j 101) 101 (100)) (k:=101) xa5 (krN (ρ:=fun j=>cond (Nat.beq j 101) 101 (100)))) ⟨⟨rfl,xa0⟩,trivial⟩ rfl) ⟨rfl,rfl,rfl,trivial⟩ ⟨rfl,trivial⟩ ⟨rfl,trivial⟩ ?_
 refine A4 ?_
 exact xd1 LentC.mk' rfl rfl Imp.refl ⟨rfl,trivial⟩ rfl ⟨⟨rfl,xa0⟩,trivial⟩ rfl
theorem c_AppIntN (n:Nat) (hn:n < 100) {x:Int} (ex:x=(n:Int)):
  CtG Tryz.prog 65 [] [.val (tE (.slice none 0 0)),.val (tE (.int .i64 x)),.val (tI 10)] (.own (.sl 101 1 0 (decB n).length)) [(101,⟨5,1,false,rV tU8 (decB n)⟩)] [101]:=by
 subst ex
 refine CtG.intro [] Tryz.func65 rfl Tryz.ntmps65 rfl rfl trivial ?_
 intro w F η
 refine C_nilS (t:=0) 100 5 1 false rfl rfl rfl (fun _=>rfl) ?_
 refine A10 ?_
 refine RE (xa9 (fun j=>cond (Nat.beq j 101) 101 (100)) (c_AppInt0 [] (by simp) n hn) fi90 rfl (krC (ρ:=fun j=>cond (Nat.beq j 101) 101 (100)) (k:=100) xa5 (krN (ρ:=fun j=>cond (Nat.beq j 101) 101 (100)))) (krC (ρ:=fun j=>cond (Nat.beq j 101) 101 (100)) (k:=101) xa5 (krN (ρ:=fun j=>cond (Nat.beq j 101) 101 (100)))) ⟨⟨rfl,xa0⟩,trivial⟩ rfl) ⟨rfl,rfl,rfl,trivial⟩ ⟨rfl,trivial⟩ ⟨rfl,trivial⟩ ?_
 refine A4 ?_
 exact xd1 LentC.mk' rfl rfl Imp.refl ⟨rfl,trivial⟩ rfl ⟨⟨rfl,xa0⟩,trivial⟩ rfl
theorem c_AppBool0 (bs:List UInt8) (hb:bs.length≤1000000) (b:Bool):
  CtG Tryz.prog 91 [(100,⟨5,1,false,rV tU8 bs⟩)] [.own (.sl 100 1 0 bs.length),.val (tB b)] (.own (.sl 101 1 0 (bs++(booB b)).length)) [(101,⟨5,1,false,rV tU8 (bs++(booB b))⟩)] [101]:=by
 have hbt:=boo_len true
 have hbf:=boo_len false
 refine CtG.intro [100] Tryz.func91 rfl Tryz.ntmps91 rfl rfl ⟨⟨rfl,xa0⟩,trivial⟩ ?_
 intro w F η
 refine A11 ?_
 refine xd3 rfl (fun h31=> ?_) (fun h31=> ?_)
 ·
  subst h31
  refine A3 ?_
  refine RE (d_appendS (k:=100) (k':=101) (sb:=strOf (booB true)) (ts':=rV tU8 (bs++(booB true))) Tryz.underlying9 Tryz.underlying106 el5 zf5 rfl xc7 (by rw [xh4];omega) (by rw [xh4];omega) app_row (n':=(bs++(booB true)).length) (by rw [xh4,List.length_append])) ⟨rfl,rfl,trivial⟩ ⟨rfl,trivial⟩ ⟨rfl,trivial⟩ ?_
  refine A5 ?_
  exact xd1 LentC.mk' rfl rfl Imp.refl ⟨rfl,trivial⟩ rfl ⟨⟨rfl,xa0⟩,trivial⟩ rfl
 ·
  subst h31
  refine A5 ?_
  refine RE (d_appendS (k:=100) (k':=101) (sb:=strOf (booB false)) (ts':=rV tU8 (bs++(booB false))) Tryz.underlying9 Tryz.underlying106 el5 zf5 rfl xc7 (by rw [xh4];omega) (by rw [xh4];omega) app_row (n':=(bs++(booB false)).length) (by rw [xh4,List.length_append])) ⟨rfl,rfl,trivial⟩ ⟨rfl,trivial⟩ ⟨rfl,trivial⟩ ?_
  refine A4 ?_
  exact xd1 LentC.mk' rfl rfl Imp.refl ⟨rfl,trivial⟩ rfl ⟨⟨rfl,xa0⟩,trivial⟩ rfl
theorem c_AppBool (bs:List UInt8) (hb:bs.length≤1000000) (b:Bool):
  CtG Tryz.prog 66 [(100,⟨5,1,false,rV tU8 bs⟩)] [.own (.sl 100 1 0 bs.length),.val (tB b)] (.own (.sl 101 1 0 (bs++(booB b)).length)) [(101,⟨5,1,false,rV tU8 (bs++(booB b))⟩)] [101]:=by
 have hbt:=boo_len true
 have hbf:=boo_len false
 refine CtG.intro [100] Tryz.func66 rfl Tryz.ntmps66 rfl rfl ⟨⟨rfl,xa0⟩,trivial⟩ ?_
 intro w F η
 refine A9 ?_
 refine RE (xa9 (fun j=>cond (Nat.beq j 101) 101 (100)) (c_AppBool0 bs hb b) fi91 rfl (krC (ρ:=fun j=>cond (Nat.beq j 101) 101 (100)) (k:=100) xa5 (krN (ρ:=fun j=>cond (Nat.beq j 101) 101 (100)))) (krC (ρ:=fun j=>cond (Nat.beq j 101) 101 (100)) (k:=101) xa5 (krN (ρ:=fun j=>cond (Nat.beq j 101) 101 (100)))) ⟨⟨rfl,xa0⟩,trivial⟩ rfl) ⟨rfl,rfl,trivial⟩ ⟨rfl,trivial⟩ ⟨rfl,trivial⟩ ?_
 refine A4 ?_
 exact xd1 LentC.mk' rfl rfl Imp.refl ⟨rfl,trivial⟩ rfl ⟨⟨rfl,xa0⟩,trivial⟩ rfl
theorem c_CloneSN (xs:List ByteArray) (hx:xs.length≤1000000):
  CtN Tryz.prog 38 [tL 1 false tSt xs] (fun nw=>tG (up nw) (tL 1 false tSt xs)):=by
 refine CtN.intro Tryz.func38 rfl Tryz.ntmps38 rfl ?_
 intro w F
 refine A9 ?_
 refine R1 (d_eqNil Tryz.underlying72) rfl ?_
 refine A2 ?_
 refine C_case (s:=4) rfl (fun b357 hb357=> ?_)
 refine xd3 rfl (fun h357=> ?_) (fun h357=> ?_)
 ·
  subst h357;have hnil:=hb357 rfl;subst hnil
  refine A7 ?_
  exact x3 Plain.mk' rfl rfl (leNilG rfl)
 ·
  refine A4 ?_
  refine RE (xr0 (k:=5) (ents:=[]) Tryz.underlying72 el9 zf9 rfl (by simp) rfl rfl rfl) trivial trivial ⟨rfl,trivial⟩ ?_
  refine A1 ?_
  refine RE (xb2 (k:=5) (k':=7) (f:=tSt) (ts':=rV tSt xs) Tryz.underlying72 el9 zf9 rfl rfl (fun _=>inferInstance) rfl (by simp;omega) (by simp;omega) (by simp [rV]) (n':=xs.length) (by simp)) ⟨rfl,rfl,trivial⟩ ⟨rfl,trivial⟩ ⟨rfl,trivial⟩ (RE (Does.giveLN (up w.heap.size) (fun _ h=>h) (fun _=>Free.E) (k:=7) (es:=1) (off:=0) (len:=xs.length) (xs:=xs) (f:=tSt) (ts:=rV tSt xs) (xd9) (fun _ h=>h) (xj0 rfl) rfl) ⟨rfl,trivial⟩ ⟨rfl,trivial⟩ trivial ?_)
  refine A3 ?_
  exact x3 Plain.mk' rfl rfl Le.refl
theorem c_EqualS (xs ys:List ByteArray):
  Ct Tryz.prog 41 [tL 1 false tSt xs,tL 1 false tSt ys] (tB (decide (xs=ys))):=by
 refine Ct.intro Tryz.func41 rfl Tryz.ntmps41 rfl ?_
 intro w F
 refine xf1 (s:=0) rfl (fun hl0=> ?_)
 refine A15 ?_
 refine x7 rfl (fun h21=> ?_) (fun h21=> ?_)
 ·
  refine A7 ?_
  exact x3 Plain.mk' rfl rfl (Le.bool (by rw [decide_eq_false (fun h=>by subst h;exact h21 rfl)]))
 ·
  refine A11 ?_
  refine cL (fun (i:Nat)=>i≤xs.length∧ ∀j,j < i→xs.getD j ⟨#[]⟩=ys.getD j ⟨#[]⟩) (fun (i:Nat)=>upd (upd (upd (upd (fun _=>none) 0 (some (.val (tL 1 false tSt xs)))) 1 (some (.val (tL 1 false tSt ys)))) 12 (some (.val (tI xs.length)))) 13 (some (.val (tI i)))) (fun (i:Nat)=>fun _=>none) [] (fun (i:Nat)=>xs.length - i) (0) ⟨Nat.zero_le _,fun j hj=>by omega⟩ ?_
  intro i hI
  obtain ⟨hi,hs⟩:=hI
  refine A6 ?_
  refine x7 rfl (fun h24=> ?_) (fun h24=> ?_)
  ·
   refine A14 ?_
   refine R2 (x6 sl72 (i) (by omega) (gD (l:=xs) (n:=i) (d:=⟨#[]⟩) (by omega))) rfl rfl ?_
   refine A3 ?_
   refine R2 (x6 sl72 (i) (by omega) (gD (l:=ys) (n:=i) (d:=⟨#[]⟩) (by omega))) rfl rfl ?_
   refine A1 ?_
   refine R2 (d_neqS) rfl rfl ?_
   refine A2 ?_
   refine x7 rfl (fun h25=> ?_) (fun h25=> ?_)
   ·
    refine A11 ?_
    exact x3 Plain.mk' rfl rfl (Le.bool (by rw [decide_eq_false (fun h=>h25 (by rw [h]))]))
   ·
    refine A7 ?_
    exact K_fam (i+1) ⟨⟨by omega,fun j hj=>by
  by_cases hji:j=i
  ·subst hji;exact Decidable.of_not_not h25
  ·exact hs j (by omega)⟩,(by omega)⟩ (Sub.int rfl (by first | omega | rfl | (dsimp only;omega)) (Sub.int rfl (by first | omega | rfl | (dsimp only;omega)) (Sub.cons rfl (Sub.cons rfl Sub.nil)))) SubK.nil (SupG.val (SupG.val (SupG.val (SupG.val SupG.nil)))) SupH.nil (lkOk rfl)
  ·
   refine A11 ?_
   exact x3 Plain.mk' rfl rfl (Le.bool (by rw [decide_eq_true (xf0 (d:=⟨#[]⟩) (by omega) fun j hj=>hs j (by omega))]))
def pre2 (v:Va) (i:Nat):List UInt8:=decB v.i.toNat++([v.f.n,v.f.d].take i).flatMap whB
theorem pre2_next {v:Va} {i:Nat} (hi:i < 2):pre2 v (i+1)=pre2 v i++whB ([v.f.n,v.f.d].getD i ⟨false,[]⟩):=by
 rcases (show i=0∨i=1 by omega) with rfl | rfl <;> simp [pre2]
theorem pre2_all {v:Va}:pre2 v 2=txtB v:=by simp [pre2,txtB]
theorem whB_len {x:Wh} (h:x.l.length≤100):(whB x).length≤300:=by
 have h1:=boo_len x.neg
 have h2:=dec_len x.l.length
 simp only [whB,List.length_cons,List.length_append,xj6];omega
theorem pre2_len {v:Va} {i:Nat} (h:txOk v):(pre2 v i).length≤1000:=by
 have h0:=dec_len v.i.toNat
 have h1:=whB_len (x:=v.f.n) (by have:=h.2.2.1;omega)
 have h2:=whB_len (x:=v.f.d) (by have:=h.2.2.2.1;omega)
 rcases (show i=0∨i=1∨2≤i by omega) with rfl | rfl | hi
 ·simp only [pre2,List.take_zero,List.flatMap_nil,List.append_nil];omega
 ·simp only [pre2,List.take_succ_cons,List.take_zero,List.flatMap_cons,List.flatMap_nil,List.append_nil,List.length_append];omega
 ·rw [pre2,List.take_of_length_le (by simpa using hi)]
  simp only [List.flatMap_cons,List.flatMap_nil,List.append_nil,List.length_append];omega
theorem wh_len {v:Va} {i:Nat} (h:txOk v) (hi:i < 2):([v.f.n,v.f.d].getD i ⟨false,[]⟩).l.length < 10∧ ∀x∈([v.f.n,v.f.d].getD i ⟨false,[]⟩).l,x < 65536:=by
 rcases (show i=0∨i=1 by omega) with rfl | rfl
 ·exact ⟨h.2.2.1,h.2.2.2.2.1⟩
 ·exact ⟨h.2.2.2.1,h.2.2.2.2.2⟩
theorem C_sl {P:Program} {c:Base} {g:Slots} {h:Keys} {al:Names} {Q:Exit→Act→World→Prop} {x:Code} {t:Nat} {e e':Ent} (ht:g t=some e) (he:e=e') (H:wc P c x Q (upd g t (some e')) h al):wc P c x Q g h al:=by
 subst he
 have:upd g t (some e)=g:=by
  funext j
  by_cases hj:j=t
  ·subst hj;rw [xa7,ht]
  ·rw [xa4 _ _ _ hj]
 rwa [this] at H
theorem getD_memB {l:List Nat} {j:Nat} (h:j < l.length):l.getD j 0∈l:=by
 rw [List.getD_eq_getElem?_getD,List.getElem?_eq_getElem h];exact List.getElem_mem h
theorem u8m {n:Nat}:(IntKind.u8).wrap (n:Int)=(((w8 (n%256)).toNat:Nat):Int):=by
 rw [w8_nat (by omega),IntKind.wrap_u8];omega
theorem c_text (f:Fa) (hx:f.gone=false→txOk f.v):
  Ct Tryz.prog 39 [tFa f] (tSt (txt f)):=by
 refine Ct.intro Tryz.func39 rfl Tryz.ntmps39 rfl ?_
 intro w F
 refine A13 ?_
 refine xd3 rfl (fun h195=> ?_) (fun h195=> ?_)
 ·
  refine A7 ?_
  exact x3 Plain.mk' rfl rfl (Le.of (by rw [txt,if_pos h195]))
 ·
  refine A3 ?_
  have hx0:=hx h195
  refine A3 ?_
  refine xf7 (0) ti3 rfl rfl rfl (At.t (At.g 5 rfl rfl) (At.g 2 rfl rfl)) rfl (RE (xa9 (fun _=>13) (c_AppIntN f.v.i.toNat (by have:=hx0.1;have:=hx0.2.1;omega) (by have:=hx0.1;omega)) fi65 rfl (krN (ρ:=fun _=>13)) (krC (ρ:=fun _=>13) (k:=101) xa5 (krN (ρ:=fun _=>13))) ⟨⟨rfl,xa0⟩,trivial⟩ rfl) ⟨rfl,rfl,rfl,trivial⟩ trivial ⟨rfl,trivial⟩ ?_)
  refine A9 ?_
  refine xf7 (0) ti24 rfl rfl rfl (At.t (At.g 5 rfl rfl) (At.t (At.g 1 rfl rfl) (At.g 0 rfl rfl))) rfl ?_
  refine A3 ?_
  refine xf7 (0) ti24 rfl rfl rfl (At.t (At.g 5 rfl rfl) (At.t (At.g 1 rfl rfl) (At.g 1 rfl rfl))) rfl (R2 (xd7 (r:=tS [⟨2,true,tWh f.v.f.n⟩,⟨2,true,tWh f.v.f.d⟩]) (ts:=[(0,tWh f.v.f.n),(1,tWh f.v.f.d)]) bu108 zr108.2 (Bc 0 rfl rfl rfl (Bc 1 rfl rfl rfl Le.refl))) rfl rfl ?_)
  refine A4 ?_
  refine cL (fun (i:Nat)=>i≤2) (fun (i:Nat)=>upd (upd (upd (fun _=>none) 3 (some (.own (.sl 13 1 0 (pre2 f.v i).length)))) 22 (some (.val (tS ([f.v.f.n,f.v.f.d].map fun y=>⟨2,true,tWh y⟩))))) 23 (some (.val (tI i)))) (fun (i:Nat)=>upd (fun _=>none) 13 (some (⟨5,1,false,rV tU8 (pre2 f.v i)⟩))) [13] (fun (i:Nat)=>2 - i) (0) (Nat.zero_le _) (hg:=(sI (sC ((Sub.consI rfl (Imp.of (by rw [show pre2 f.v 0=(decB f.v.i.toNat) by simp [pre2]];rfl))) Sub.nil)))) (hh:=((SubK.consI rfl (ImpK.of (by rw [show pre2 f.v 0=(decB f.v.i.toNat) by simp [pre2]]))) SubK.nil)) ?_
  intro i hI
  have hpl:=pre2_len (i:=i) hx0
  refine A6 ?_
  refine x7 rfl (fun h199=> ?_) (fun h199=> ?_)
  ·
   refine A6 ?_
   refine R2 (d_idxS (f:=tWh) (xs:=[f.v.f.n,f.v.f.d]) i ⟨false,[]⟩ Tryz.underlying108 ti24 (by omega) (by omega) rfl) rfl rfl (RE (xb0 (k:=5) (n:=2) (agg:=true) zr24.1 zr24.2 rfl) trivial trivial ⟨rfl,trivial⟩ ?_)
   refine A4 ?_
   have hwl:=wh_len (i:=i) hx0 (by omega)
   have hb5:=boo_len ([f.v.f.n,f.v.f.d].getD i ⟨false,[]⟩).neg
   have hd2:=dec_len ([f.v.f.n,f.v.f.d].getD i ⟨false,[]⟩).l.length
   refine A2 ?_
   refine R1 (xd4 (n:=1) (f:=tU8) [(32:UInt8)] Tryz.underlying106 el5 zf5 rfl (fun _=>inferInstance) rfl rfl rfl) rfl (RE (xb2 (k:=13) (k':=28) (f:=tU8) (ys:=[32]) (ts':=rV tU8 ((pre2 f.v i)++[32])) Tryz.underlying106 el5 zf5 rfl rfl (fun _=>inferInstance) xc7 (by simp only [List.length_cons,List.length_nil];omega) (by simp only [List.length_cons,List.length_nil];omega) (by simp [rV]) (n':=((pre2 f.v i)++[32]).length) List.length_append.symm) ⟨rfl,rfl,trivial⟩ ⟨rfl,trivial⟩ ⟨rfl,trivial⟩ ?_)
   refine A2 ?_
   refine RE (xa9 (fun j=>cond (Nat.beq j 101) 31 (28)) (c_AppBool ((pre2 f.v i)++[32]) (by simp only [List.length_append,List.length_cons,List.length_nil];omega) ([f.v.f.n,f.v.f.d].getD i ⟨false,[]⟩).neg) fi66 rfl (krC (ρ:=fun j=>cond (Nat.beq j 101) 31 (28)) (k:=100) xa5 (krN (ρ:=fun j=>cond (Nat.beq j 101) 31 (28)))) (krC (ρ:=fun j=>cond (Nat.beq j 101) 31 (28)) (k:=101) xa5 (krN (ρ:=fun j=>cond (Nat.beq j 101) 31 (28)))) ⟨⟨rfl,xa0⟩,trivial⟩ rfl) ⟨rfl,rfl,trivial⟩ ⟨rfl,trivial⟩ ⟨rfl,trivial⟩ ?_
   refine A6 ?_
   refine R1 (xd4 (n:=1) (f:=tU8) [(32:UInt8)] Tryz.underlying106 el5 zf5 rfl (fun _=>inferInstance) rfl rfl rfl) rfl (RE (xb2 (k:=31) (k':=34) (f:=tU8) (ys:=[32]) (ts':=rV tU8 ((((pre2 f.v i)++[32])++booB ([f.v.f.n,f.v.f.d].getD i ⟨false,[]⟩).neg)++[32])) Tryz.underlying106 el5 zf5 rfl rfl (fun _=>inferInstance) xc7 (by simp only [List.length_append,List.length_cons,List.length_nil];omega) (by simp only [List.length_append,List.length_cons,List.length_nil];omega) (by simp [rV]) (n':=((((pre2 f.v i)++[32])++booB ([f.v.f.n,f.v.f.d].getD i ⟨false,[]⟩).neg)++[32]).length) List.length_append.symm) ⟨rfl,rfl,trivial⟩ ⟨rfl,trivial⟩ ⟨rfl,trivial⟩ ?_)
   refine A3 ?_
   refine RE (xa9 (fun j=>cond (Nat.beq j 101) 38 (34)) (c_AppInt ((((pre2 f.v i)++[32])++booB ([f.v.f.n,f.v.f.d].getD i ⟨false,[]⟩).neg)++[32]) (by simp only [List.length_append,List.length_cons,List.length_nil];omega) ([f.v.f.n,f.v.f.d].getD i ⟨false,[]⟩).l.length (by omega)) fi65 rfl (krC (ρ:=fun j=>cond (Nat.beq j 101) 38 (34)) (k:=100) xa5 (krN (ρ:=fun j=>cond (Nat.beq j 101) 38 (34)))) (krC (ρ:=fun j=>cond (Nat.beq j 101) 38 (34)) (k:=101) xa5 (krN (ρ:=fun j=>cond (Nat.beq j 101) 38 (34)))) ⟨⟨rfl,xa0⟩,trivial⟩ rfl) ⟨rfl,rfl,rfl,trivial⟩ ⟨rfl,trivial⟩ ⟨rfl,trivial⟩ ?_
   refine A12 ?_
   refine cL (fun (j:Nat)=>j≤([f.v.f.n,f.v.f.d].getD i ⟨false,[]⟩).l.length) (fun (j:Nat)=>upd (upd (upd (upd (upd (upd (fun _=>none) 3 (some (.own (.sl 38 1 0 ((((((pre2 f.v i)++[32])++booB ([f.v.f.n,f.v.f.d].getD i ⟨false,[]⟩).neg)++[32])++decB ([f.v.f.n,f.v.f.d].getD i ⟨false,[]⟩).l.length)++limsB (([f.v.f.n,f.v.f.d].getD i ⟨false,[]⟩).l.take j)).length)))) 22 (some (.val (tS ([f.v.f.n,f.v.f.d].map fun y=>⟨2,true,tWh y⟩))))) 23 (some (.val (tI i)))) 40 (some (.val (tLm ([f.v.f.n,f.v.f.d].getD i ⟨false,[]⟩).l)))) 41 (some (.val (tI ([f.v.f.n,f.v.f.d].getD i ⟨false,[]⟩).l.length)))) 42 (some (.val (tI j)))) (fun (j:Nat)=>upd (fun _=>none) 38 (some (⟨5,1,false,rV tU8 ((((((pre2 f.v i)++[32])++booB ([f.v.f.n,f.v.f.d].getD i ⟨false,[]⟩).neg)++[32])++decB ([f.v.f.n,f.v.f.d].getD i ⟨false,[]⟩).l.length)++limsB (([f.v.f.n,f.v.f.d].getD i ⟨false,[]⟩).l.take j))⟩))) [38] (fun (j:Nat)=>([f.v.f.n,f.v.f.d].getD i ⟨false,[]⟩).l.length - j) (0) (Nat.zero_le _) (hg:=(sI (sI (sC (sI (sC ((Sub.consI rfl (Imp.of (by rw [List.take_zero,show limsB []=[] from rfl,List.append_nil];rfl))) Sub.nil))))))) (hh:=((SubK.consI rfl (ImpK.of (by rw [List.take_zero,show limsB []=[] from rfl,List.append_nil]))) SubK.nil)) ?_
   intro j hI2
   have hlx:=lims_next (l:=([f.v.f.n,f.v.f.d].getD i ⟨false,[]⟩).l) (i:=j)
   have hll:(limsB (([f.v.f.n,f.v.f.d].getD i ⟨false,[]⟩).l.take j)).length≤2*([f.v.f.n,f.v.f.d].getD i ⟨false,[]⟩).l.length:=by rw [xj6,List.length_take];omega
   refine A6 ?_
   refine x7 rfl (fun h202=> ?_) (fun h202=> ?_)
   ·
    refine A6 ?_
    refine R2 (x6 sl22 (j) (by omega) (gN (by omega))) rfl rfl ?_
    refine A4 ?_
    have hlt:([f.v.f.n,f.v.f.d].getD i ⟨false,[]⟩).l.getD j 0 < 65536:=hwl.2 _ (getD_memB (by omega))
    refine A3 ?_
    refine R2 (xf5 (r:=((([f.v.f.n,f.v.f.d].getD i ⟨false,[]⟩).l.getD j 0 / 256:Nat):Int)) (by decide) ((shrN (s:=8) rfl (by decide)).trans (by simp))) rfl rfl (R1 (x5 Tryz.underlying5 (isS Tryz.underlying100) (u8s (n:=([f.v.f.n,f.v.f.d].getD i ⟨false,[]⟩).l.getD j 0 / 256) (by omega))) rfl ?_)
    refine A1 ?_
    refine R1 (x5 Tryz.underlying5 (isS Tryz.underlying100) (u8m (n:=([f.v.f.n,f.v.f.d].getD i ⟨false,[]⟩).l.getD j 0))) rfl (R2 (xd4 (n:=2) (f:=tU8) [w8 (([f.v.f.n,f.v.f.d].getD i ⟨false,[]⟩).l.getD j 0 / 256),w8 (([f.v.f.n,f.v.f.d].getD i ⟨false,[]⟩).l.getD j 0%256)] Tryz.underlying106 el5 zf5 rfl (fun _=>inferInstance) rfl rfl rfl) rfl rfl (RE (xb2 (k:=38) (k':=53) (f:=tU8) (ys:=[w8 (([f.v.f.n,f.v.f.d].getD i ⟨false,[]⟩).l.getD j 0 / 256),w8 (([f.v.f.n,f.v.f.d].getD i ⟨false,[]⟩).l.getD j 0%256)]) (ts':=rV tU8 (((((((pre2 f.v i)++[32])++booB ([f.v.f.n,f.v.f.d].getD i ⟨false,[]⟩).neg)++[32])++decB ([f.v.f.n,f.v.f.d].getD i ⟨false,[]⟩).l.length)++limsB (([f.v.f.n,f.v.f.d].getD i ⟨false,[]⟩).l.take j))++[w8 (([f.v.f.n,f.v.f.d].getD i ⟨false,[]⟩).l.getD j 0 / 256),w8 (([f.v.f.n,f.v.f.d].getD i ⟨false,[]⟩).l.getD j 0%256)])) Tryz.underlying106 el5 zf5 rfl rfl (fun _=>inferInstance) xc7 (by simp only [List.length_append,List.length_cons,List.length_nil];omega) (by simp only [List.length_append,List.length_cons,List.length_nil];omega) (by simp [rV]) (n':=(((((((pre2 f.v i)++[32])++booB ([f.v.f.n,f.v.f.d].getD i ⟨false,[]⟩).neg)++[32])++decB ([f.v.f.n,f.v.f.d].getD i ⟨false,[]⟩).l.length)++limsB (([f.v.f.n,f.v.f.d].getD i ⟨false,[]⟩).l.take j))++[w8 (([f.v.f.n,f.v.f.d].getD i ⟨false,[]⟩).l.getD j 0 / 256),w8 (([f.v.f.n,f.v.f.d].getD i ⟨false,[]⟩).l.getD j 0%256)]).length) List.length_append.symm) ⟨rfl,rfl,trivial⟩ ⟨rfl,trivial⟩ ⟨rfl,trivial⟩ ?_))
    refine A8 ?_
    have hlx:=hlx (by omega)
    exact xf2 (l:=[38]) (fun j=>cond (Nat.beq j 38) 53 (j)) (j+1) ⟨(by omega),(by omega)⟩ (SubR.int rfl (by first | omega | rfl | (dsimp only;omega)) (SubR.int rfl (by first | omega | rfl | (dsimp only;omega)) (SubR.cons rfl (SubR.int rfl (by first | omega | rfl | (dsimp only;omega)) (SubR.cons rfl ((SubR.consI rfl (Imp.of (by rw [hlx,←List.append_assoc];rfl))) SubR.nil)))))) ((SubKR.consI rfl (ImpK.of (by rw [hlx,←List.append_assoc];exact xa5.symm))) SubKR.nil) (SupG.val (SupG.val (SupG.val (SupG.val (SupG.val (SupG.own rfl SupG.nil)))))) (SupH.cons rfl (supJ xa0) SupH.nil) (lkOk rfl) rfl rfl (fun _ h=>by cases h)
   ·
    refine A10 ?_
    have hjl:j=([f.v.f.n,f.v.f.d].getD i ⟨false,[]⟩).l.length:=by omega
    exact xf2 (l:=[13]) (fun j=>cond (Nat.beq j 13) 38 (j)) (i+1) ⟨(by omega),(by omega)⟩ (SubR.int rfl (by first | omega | rfl | (dsimp only;omega)) (SubR.cons rfl ((SubR.consI rfl (Imp.of (by rw [pre2_next (by omega),hjl,List.take_length];simp only [whB,List.append_assoc,List.cons_append,List.nil_append];rfl))) SubR.nil))) ((SubKR.consI rfl (ImpK.of (by rw [pre2_next (by omega),hjl,List.take_length];simp only [whB,List.append_assoc,List.cons_append,List.nil_append];exact xa5.symm))) SubKR.nil) (SupG.val (SupG.val (SupG.own rfl SupG.nil))) (SupH.cons rfl (supJ xa0) SupH.nil) (lkOk rfl) rfl rfl (fun _ h=>by cases h)
  ·
   refine A6 ?_
   have hie:i=2:=by omega
   subst hie
   refine C_key (k:=13) (e':=⟨5,1,false,rV tU8 (txtB f.v)⟩) rfl (by rw [pre2_all]) (C_sl (t:=3) rfl (by rw [pre2_all]) ?_)
   refine A2 ?_
   refine RE (d_bytesS (bs:=txtB f.v) Tryz.underlying106 Tryz.underlying5 Tryz.underlying9 rfl (txt_pos _)) ⟨rfl,trivial⟩ ⟨rfl,trivial⟩ trivial ?_
   refine A4 ?_
   exact x3 Plain.mk' rfl rfl (Le.of (by rw [txt,if_neg (by rw [h195];decide)]))
end An.S
namespace An.S
open Go
def txtO (o:Option Fa):ByteArray:=match o with
 | none=>⟨#[]⟩
 | some f=>txt f
def nowA (T:List Fa) (ds:List Int) (i:Nat):List ByteArray:=(rowA T ds i).map txtO
def nowL (T:List Fa) (ds:List Int) (i p:Nat):List ByteArray:=(rowL T ds i p).map txtO
theorem xm9 {T:List Fa} {ds:List Int} {i:Nat}:(nowA T ds i).length=ds.length:=by rw [nowA,List.length_map,rowA_len]
theorem nowL_len {T:List Fa} {ds:List Int} {i p:Nat}:(nowL T ds i p).length=ds.length:=by rw [nowL,List.length_map,xh5]
theorem nowA_zero {T:List Fa} {ds:List Int}:nowA T ds 0=List.replicate ds.length ⟨#[]⟩:=by rw [nowA,rowA_zero,List.map_replicate];rfl
theorem nowL_begin {T:List Fa} {ds:List Int} (h:ds.Pairwise (· < ·)) {i:Nat} (hi:i < T.length):nowL T ds i (ixD ds (T.getD i fa0).lo)=nowA T ds i:=by rw [nowL,rowL_begin h hi,nowA]
theorem nowL_end {T:List Fa} {ds:List Int} (h:ds.Pairwise (· < ·)) {i p:Nat} (hi:i < T.length) (h1:ixD ds (T.getD i fa0).lo≤p) (h2:ixD ds (T.getD i fa0).hi≤p):nowL T ds i p=nowA T ds (i+1):=by rw [nowL,rowL_end h hi h1 h2,nowA]
theorem nowL_set {T:List Fa} {ds:List Int} (h:ds.Pairwise (· < ·)) {i p:Nat} (hi:i < T.length) (hp:p < ds.length) (h1:ixD ds (T.getD i fa0).lo≤p) (h2:p < ixD ds (T.getD i fa0).hi):(nowL T ds i p).set p (txt (T.getD i fa0))=nowL T ds i (p+1):=by
 rw [nowL,nowL,←rowL_set h hi hp h1 h2,List.map_set];rfl
def grpE (T:List Fa) (i:Nat):Nat:=i+((T.drop i).takeWhile fun f=>decide (f.kn=(T.getD i fa0).kn)).length
theorem grp_is {T:List Fa} {i j:Nat} (hij:i≤j) (hj:j≤T.length) (h: ∀q,i≤q→q < j→(T.getD q fa0).kn=(T.getD i fa0).kn) (he:j=T.length∨(T.getD j fa0).kn≠(T.getD i fa0).kn):grpE T i=j:=by
 have e:T.drop i=(T.drop i).take (j - i)++T.drop j:=by
  conv=>lhs;rw [←List.take_append_drop (j - i) (T.drop i)]
  rw [List.drop_drop];congr 2;omega
 have hl:((T.drop i).take (j - i)).length=j - i:=by rw [List.length_take,List.length_drop];omega
 rw [grpE,e,List.takeWhile_append_of_pos,List.length_append,hl]
 ·cases hd:T.drop j with
  | nil=>simp;omega
  | cons x r=>
   have hx:T.getD j fa0=x:=by
    have h0:(T.drop j).getD 0 fa0=x:=by rw [hd];rfl
    rwa [xk4,Nat.add_zero] at h0
   have hjl:j < T.length:=by
    rcases Nat.lt_or_ge j T.length with h1 | h1
    ·exact h1
    ·rw [List.drop_eq_nil_of_le h1] at hd;cases hd
   rw [List.takeWhile_cons,if_neg (by rw [←hx];simpa using he.resolve_left (by omega))]
   simp;omega
 ·intro f hf
  obtain ⟨q,hq,rfl⟩:=List.mem_iff_getElem.1 hf
  rw [hl] at hq
  have:=h (i+q) (by omega) (by omega)
  rw [←xk4 (d:=fa0),←xn7 (d:=fa0) (n:=j - i) hq,List.getD_eq_getElem?_getD,List.getElem?_eq_getElem (by rw [hl];exact hq)] at this
  simpa using this
theorem grp_gt {T:List Fa} {i:Nat} (hi:i < T.length):i < grpE T i∧grpE T i≤T.length:=by
 have e:T.drop i=T.getD i fa0::T.drop (i+1):=by rw [List.drop_eq_getElem_cons hi,List.getD_eq_getElem?_getD,List.getElem?_eq_getElem hi];rfl
 constructor
 ·rw [grpE,e,List.takeWhile_cons,if_pos (by simp)];simp
 ·have:=(List.takeWhile_sublist (fun f=>decide (f.kn=(T.getD i fa0).kn)) (l:=T.drop i)).length_le
  rw [List.length_drop] at this
  rw [grpE];omega
def lrn (T:List Fa) (ds:List Int):Nat→Nat→List Int
 | 0,_=>[]
 | n+1,i=>if i < T.length then (if nowA T ds i=nowA T ds (grpE T i) then [] else [(T.getD i fa0).kn])++lrn T ds n (grpE T i) else []
theorem lrn_more {T:List Fa} {ds:List Int}: ∀(n i:Nat),T.length - i≤n→lrn T ds n i=lrn T ds (T.length - i) i:=by
 intro n
 induction n using Nat.strongRecOn with
 | _ n ih=>
  intro i hn
  cases n with
  | zero=>rw [show T.length - i=0 by omega]
  | succ n=>
   by_cases hi:i < T.length
   ·obtain ⟨m,hm⟩: ∃m,T.length - i=m+1:=⟨T.length - i - 1,by omega⟩
    have hg:=grp_gt hi
    rw [hm,lrn,lrn,if_pos hi,if_pos hi,ih n (by omega) _ (by omega)]
    congr 1
    rcases Nat.lt_or_ge m (n+1) with h1 | h1
    ·exact (ih m (by omega) _ (by omega)).symm
    ·omega
   ·rw [show T.length - i=0 by omega,lrn,lrn,if_neg hi]
theorem lrn_step {T:List Fa} {ds:List Int} {i:Nat} (hi:i < T.length):lrn T ds (T.length - i) i=(if nowA T ds i=nowA T ds (grpE T i) then [] else [(T.getD i fa0).kn])++lrn T ds (T.length - grpE T i) (grpE T i):=by
 obtain ⟨m,hm⟩: ∃m,T.length - i=m+1:=⟨T.length - i - 1,by omega⟩
 have hg:=grp_gt hi
 rw [hm,lrn,if_pos hi,lrn_more m _ (by omega)]
def lrnT (T:List Fa):List Int:=lrn T (bdF T) T.length 0
def lrnA (a:List Fa) (key:ByteArray):List Int:=if recOk a=true then lrnT (toldT a key 65536) else []
end An.S
namespace An.S
open Go Go.Proofs An
instance fi31:FnI Tryz.prog 31:=⟨_,Tryz.func31,by kernel_rfl,rfl⟩
instance fi38:FnI Tryz.prog 38:=⟨_,Tryz.func38,by kernel_rfl,rfl⟩
instance fi39:FnI Tryz.prog 39:=⟨_,Tryz.func39,by kernel_rfl,rfl⟩
instance fi41:FnI Tryz.prog 41:=⟨_,Tryz.func41,by kernel_rfl,rfl⟩
theorem c_Learns (a:List Fa) (key:ByteArray) (hl:a.length≤100000) (hD: ∀f∈a,f.v.f.dig) (hX: ∀f∈a,f.gone=false→txOk f.v):
  Ct Tryz.prog 18 [tL 11 true tFa a,tSt key] (tL 1 false tI (lrnA a key)):=by
 refine Ct.intro Tryz.func18 rfl Tryz.ntmps18 rfl ?_
 intro w F
 refine A9 ?_
 refine R1 (x4 (c_FcValid a hD) fi29 rfl) rfl ?_
 refine A3 ?_
 refine xd3 rfl (fun h169=> ?_) (fun h169=> ?_)
 ·
  have hr: ¬recOk a=true:=by simpa using h169
  refine A7 ?_
  exact x3 Plain.mk' rfl rfl (leNil (by rw [lrnA,if_neg hr]))
 ·
  have hr:recOk a=true:=by simpa using h169
  refine A6 ?_
  refine RE (xa9 (fun j=>cond (Nat.beq j 4) 1021 (cond (Nat.beq j 3) 21 (2021))) (c_told a key 65536) fi32 rfl (krN (ρ:=fun j=>cond (Nat.beq j 4) 1021 (cond (Nat.beq j 3) 21 (2021)))) (krC (ρ:=fun j=>cond (Nat.beq j 4) 1021 (cond (Nat.beq j 3) 21 (2021))) (k:=3) rfl (krC (ρ:=fun j=>cond (Nat.beq j 4) 1021 (cond (Nat.beq j 3) 21 (2021))) (k:=4) rfl (krC (ρ:=fun j=>cond (Nat.beq j 4) 1021 (cond (Nat.beq j 3) 21 (2021))) (k:=5) rfl (krN (ρ:=fun j=>cond (Nat.beq j 4) 1021 (cond (Nat.beq j 3) 21 (2021))))))) ⟨⟨rfl,(SupX.lit rfl)⟩,⟨rfl,(SupX.lit rfl)⟩,⟨rfl,(SupX.lit rfl)⟩,trivial⟩ rfl) ⟨rfl,rfl,rfl,trivial⟩ trivial ⟨rfl,rfl,rfl,trivial⟩ (RE (xa9 (fun j=>cond (Nat.beq j 105) 1021 (cond (Nat.beq j 104) 21 (cond (Nat.beq j 4) 22 (2021)))) (c_CollectF a key 65536 (by omega)) fi36 rfl (krC (ρ:=fun j=>cond (Nat.beq j 105) 1021 (cond (Nat.beq j 104) 21 (cond (Nat.beq j 4) 22 (2021)))) (k:=104) rfl (krC (ρ:=fun j=>cond (Nat.beq j 105) 1021 (cond (Nat.beq j 104) 21 (cond (Nat.beq j 4) 22 (2021)))) (k:=105) rfl (krC (ρ:=fun j=>cond (Nat.beq j 105) 1021 (cond (Nat.beq j 104) 21 (cond (Nat.beq j 4) 22 (2021)))) (k:=106) rfl (krN (ρ:=fun j=>cond (Nat.beq j 105) 1021 (cond (Nat.beq j 104) 21 (cond (Nat.beq j 4) 22 (2021)))))))) (krC (ρ:=fun j=>cond (Nat.beq j 105) 1021 (cond (Nat.beq j 104) 21 (cond (Nat.beq j 4) 22 (2021)))) (k:=4) xa5 (krN (ρ:=fun j=>cond (Nat.beq j 105) 1021 (cond (Nat.beq j 104) 21 (cond (Nat.beq j 4) 22 (2021)))))) ⟨⟨rfl,xa0⟩,trivial⟩ rfl) ⟨rfl,trivial⟩ ⟨rfl,rfl,rfl,trivial⟩ ⟨rfl,trivial⟩ ?_)
  refine A4 ?_
  have hTl0:=told_le (a:=a) (key:=key) (kn:=65536)
  have hXT: ∀f∈toldT a key 65536,f.gone=false→txOk f.v:=fun f hf=>hX f (told_sub hf).1
  have hrA:lrnA a key=lrnT (toldT a key 65536):=if_pos hr
  generalize toldT a key 65536=T at*
  have hbl:=bdF_len (T:=T)
  refine C_give (t:=5) (k:=22) (f:=tFa) (xs:=T) rfl rfl (fun _ h=>h) (xj0 rfl) rfl ?_
  refine A2 ?_
  refine R1 (x4 (c_Fborders T (by omega)) fi37 rfl) rfl ?_
  refine A7 ?_
  refine RE (xh7 (k:=27) (t:=tSt ⟨#[]⟩) (ts:=rV tSt (nowA T (bdF T) 0)) (bdF T).length (bdF T).length Tryz.underlying72 el9 (fun _ _=>rfl) rfl rfl rfl (Nat.le_refl _) (by omega) (by omega) (by rw [nowA_zero];exact rV_rep (f:=tSt) _ _ rfl)) ⟨rfl,rfl,trivial⟩ trivial ⟨rfl,trivial⟩ ?_
  refine A5 ?_
  refine RE (xf9 (k:=8) 3 1 false rfl (fun _=>rfl)) trivial trivial ⟨rfl,trivial⟩ ?_
  refine A9 ?_
  refine cL (fun (fm:(Nat)×(List Int))=>(fun (i:Nat) (xs:List Int)=>i≤T.length∧xs++lrn T (bdF T) (T.length - i) i=lrnT T∧xs.length≤i) fm.1 fm.2) (fun (fm:(Nat)×(List Int))=>(fun (i:Nat) (xs:List Int)=>upd (upd (upd (upd (upd (fun _=>none) 5 (some (.val (tL 11 true tFa T)))) 6 (some (.val (tL 1 false tI (bdF T))))) 7 (some (.own (.sl 27 1 0 (bdF T).length)))) 8 (some (.own (.sl 8 1 0 xs.length)))) 9 (some (.val (tI i)))) fm.1 fm.2) (fun (fm:(Nat)×(List Int))=>(fun (i:Nat) (xs:List Int)=>upd (upd (fun _=>none) 27 (some (⟨9,1,false,rV tSt (nowA T (bdF T) i)⟩))) 8 (some (⟨3,1,false,rV tI xs⟩))) fm.1 fm.2) [27,8] (fun (fm:(Nat)×(List Int))=>(fun (i:Nat) (xs:List Int)=>T.length - i) fm.1 fm.2) ((0,[])) (by dsimp only;exact ⟨Nat.zero_le _,rfl,Nat.le_refl _⟩) (hh:=((SubK.consI rfl ImpK.refl) ((SubK.consI rfl ImpK.refl) SubK.nil))) ?_
  intro fm hI
  obtain ⟨i,xs⟩:=fm
  replace hI:i≤T.length∧xs++lrn T (bdF T) (T.length - i) i=lrnT T∧xs.length≤i:=hI
  show wc _ _ _ _ (upd (upd (upd (upd (upd (fun _=>none) 5 (some (.val (tL 11 true tFa T)))) 6 (some (.val (tL 1 false tI (bdF T))))) 7 (some (.own (.sl 27 1 0 (bdF T).length)))) 8 (some (.own (.sl 8 1 0 xs.length)))) 9 (some (.val (tI i)))) (upd (upd (fun _=>none) 27 (some (⟨9,1,false,rV tSt (nowA T (bdF T) i)⟩))) 8 (some (⟨3,1,false,rV tI xs⟩))) _
  obtain ⟨hi,hx,hxl⟩:=hI
  refine A9 ?_
  refine x7 rfl (fun h176=> ?_) (fun h176=> ?_)
  ·
   refine A6 ?_
   refine RE (d_callRN 27 9 1 (bdF T).length [.own (.sl 27 1 0 (bdF T).length)] hrU (c_CloneSN (nowA T (bdF T) i) (by rw [xm9];omega)) fi38 (fun _ h=>h) (xj0 xm9) xm9 ⟨.inr ⟨rfl,rfl⟩,trivial⟩ rfl) ⟨rfl,trivial⟩ ⟨rfl,trivial⟩ trivial ?_
   refine A7 ?_
   refine R2 (x6 sl36 (i) (by omega) (gD (l:=T) (n:=i) (d:=fa0) (by omega))) rfl rfl (R1 (xg2 fo30_3.h (At.f 3 rfl rfl) rfl) rfl ?_)
   refine A6 ?_
   refine cL (fun (j:Nat)=>i≤j∧j≤T.length∧ ∀q,i≤q→q < j→(T.getD q fa0).kn=(T.getD i fa0).kn) (fun (j:Nat)=>upd (upd (upd (upd (upd (upd (upd (fun _=>none) 5 (some (.val (tL 11 true tFa T)))) 6 (some (.val (tL 1 false tI (bdF T))))) 7 (some (.own (.sl 27 1 0 (bdF T).length)))) 8 (some (.own (.sl 8 1 0 xs.length)))) 9 (some (.val (tI j)))) 10 (some (.val (tL 1 false tSt (nowA T (bdF T) i))))) 11 (some (.val (tI (T.getD i fa0).kn)))) (fun (j:Nat)=>upd (upd (fun _=>none) 27 (some (⟨9,1,false,rV tSt (nowA T (bdF T) j)⟩))) 8 (some (⟨3,1,false,rV tI xs⟩))) [27,8] (fun (j:Nat)=>T.length - j) (i) ⟨Nat.le_refl _,hi,fun q h1 h2=>by omega⟩ (hh:=((SubK.consI rfl ImpK.refl) ((SubK.consI rfl ImpK.refl) SubK.nil))) ?_
   intro j hI2
   obtain ⟨hj1,hj2,hjk⟩:=hI2
   have hx1:=ixD_le (ds:=bdF T) (x:=(T.getD j fa0).lo)
   have hx2:=ixD_le (ds:=bdF T) (x:=(T.getD j fa0).hi)
   refine A8 ?_
   refine RGcaseD (t:=43) rfl (fun h179=> ?_) (fun h179=> ?_)
   ·
    refine A2 ?_
    refine RGon (decide_eq_true h179) rfl (x6 sl36 (j) (by omega) (gD (l:=T) (n:=j) (d:=fa0) (by omega))) rfl ⟨rfl,rfl,trivial⟩ trivial trivial (RGon (decide_eq_true h179) rfl (xg2 fo30_3.h (At.f 3 rfl rfl) rfl) rfl ⟨rfl,trivial⟩ trivial trivial ?_)
    refine A6 ?_
    refine x7 rfl (fun h179_2=> ?_) (fun h179_2=> ?_)
    ·
     refine A8 ?_
     refine R2 (x6 sl36 (j) (by omega) (gD (l:=T) (n:=j) (d:=fa0) (by omega))) rfl rfl ?_
     refine A1 ?_
     refine R1 (x4 (c_text (T.getD j fa0) (hXT _ (mem_getDF (by omega)))) fi39 rfl) rfl ?_
     refine A8 ?_
     refine R2 (x6 sl36 (j) (by omega) (gD (l:=T) (n:=j) (d:=fa0) (by omega))) rfl rfl ?_
     refine A1 ?_
     refine R2 (x4 (c_parts (bdF T) (T.getD j fa0) xi7 (by omega)) fi40 rfl) rfl rfl ?_
     refine A14 ?_
     refine cL (fun (p:Nat)=>(ixD (bdF T) (T.getD j fa0).lo)≤p∧(p≤(ixD (bdF T) (T.getD j fa0).hi)∨p=(ixD (bdF T) (T.getD j fa0).lo))) (fun (p:Nat)=>upd (upd (upd (upd (upd (upd (upd (upd (upd (upd (fun _=>none) 5 (some (.val (tL 11 true tFa T)))) 6 (some (.val (tL 1 false tI (bdF T))))) 7 (some (.own (.sl 27 1 0 (bdF T).length)))) 8 (some (.own (.sl 8 1 0 xs.length)))) 9 (some (.val (tI j)))) 10 (some (.val (tL 1 false tSt (nowA T (bdF T) i))))) 11 (some (.val (tI (T.getD i fa0).kn)))) 12 (some (.val (tSt (txt (T.getD j fa0)))))) 14 (some (.val (tI (ixD (bdF T) (T.getD j fa0).hi))))) 15 (some (.val (tI p)))) (fun (p:Nat)=>upd (upd (fun _=>none) 27 (some (⟨9,1,false,rV tSt (nowL T (bdF T) j p)⟩))) 8 (some (⟨3,1,false,rV tI xs⟩))) [27,8] (fun (p:Nat)=>(ixD (bdF T) (T.getD j fa0).hi) - p) ((ixD (bdF T) (T.getD j fa0).lo)) ⟨Nat.le_refl _,.inr rfl⟩ (hh:=((SubK.consI rfl ImpK.refl) ((SubK.consI rfl (ImpK.of (by rw [nowL_begin xi7 (by omega)]))) SubK.nil))) ?_
     intro p hI3
     obtain ⟨hp1,hp2⟩:=hI3
     refine A8 ?_
     refine x7 rfl (fun h182=> ?_) (fun h182=> ?_)
     ·
      refine A8 ?_
      refine R2 (xa3 sl72 (by omega) (by omega) rfl) rfl rfl (RE (xb8 (p) ti9 (rV_lt (by rw [nowL_len];omega)) (by omega) (xi6 (m:=(txt (T.getD j fa0))) rfl)) ⟨rfl,rfl,trivial⟩ ⟨rfl,trivial⟩ trivial ?_)
      refine A8 ?_
      exact kF (p+1) ⟨⟨by omega,.inl (by omega)⟩,(by omega)⟩ (hh:=((SubK.consI rfl ImpK.refl) ((SubK.consI rfl (ImpK.of (by rw [nowL_set xi7 (by omega) (by omega) hp1 (by omega)]))) SubK.nil)))
     ·
      refine A11 ?_
      exact K_fam (j+1) ⟨⟨by omega,by omega,fun q h1 h2=>by
  by_cases hqj:q=j
  ·subst hqj;exact h179_2
  ·exact hjk q h1 (by omega)⟩,(by omega)⟩ (Sub.int rfl (by first | omega | rfl | (dsimp only;omega)) (Sub.cons rfl (Sub.int rfl (by first | omega | rfl | (dsimp only;omega)) (Sub.cons rfl (Sub.cons rfl (Sub.cons rfl (Sub.cons rfl Sub.nil))))))) ((SubK.consI rfl ImpK.refl) ((SubK.consI rfl (ImpK.of (by rw [nowL_end xi7 (by omega) hp1 (by omega)]))) SubK.nil)) (SupG.val (SupG.val (SupG.val (SupG.own rfl (SupG.own rfl (SupG.val (SupG.val SupG.nil))))))) (SupH.cons rfl (supJ xa0) (SupH.cons rfl (supJ xa0) SupH.nil)) (lkOk rfl)
    ·
     refine A9 ?_
     refine RE (d_callR 27 9 1 (bdF T).length [.val _,.own (.sl 27 1 0 (bdF T).length)] (fun _ _ _ _ h=>h) (c_EqualS (nowA T (bdF T) i) (nowA T (bdF T) j)) fi41 (fun _ h=>h) (xj0 xm9) xm9 ⟨.inl rfl,.inr ⟨rfl,rfl⟩,trivial⟩ rfl) ⟨rfl,rfl,trivial⟩ ⟨rfl,trivial⟩ trivial ?_
     refine A3 ?_
     refine C_ifn rfl (fun h186=> ?_) (fun h186=> ?_)
     ·
      refine A3 ?_
      refine R1 (xd4 (n:=1) (f:=fun n:Int=>tI n) [(T.getD i fa0).kn] Tryz.underlying52 el3 zf3 rfl (fun _=>inferInstance) rfl rfl rfl) rfl (RE (xb2 (k:=8) (k':=85) (f:=fun n:Int=>tI n) (ys:=[(T.getD i fa0).kn]) (ts':=rV tI (xs++[(T.getD i fa0).kn])) Tryz.underlying52 el3 zf3 rfl rfl (fun _=>inferInstance) xc7 (by simp;omega) (by simp;omega) (by simp [rV]) (n':=xs.length+1) rfl) ⟨rfl,rfl,trivial⟩ ⟨rfl,trivial⟩ ⟨rfl,trivial⟩ ?_)
      refine A3 ?_
      have hij:i < j:=by
       rcases Nat.lt_or_ge i j with h | h
       ·exact h
       ·exfalso
        have hji:j=i:=by omega
        subst hji
        first | omega | exact h179_2 rfl
      have hgj:grpE T i=j:=grp_is (by omega) hj2 hjk (by first | exact .inl (by omega) | exact .inr h179_2)
      have hls:=lrn_step (T:=T) (ds:=bdF T) (i:=i) (by omega)
      rw [hgj] at hls
      rw [if_neg h186] at hls
      exact xf2 (l:=[27,8]) (fun j=>cond (Nat.beq j 8) 85 (j)) ((j,xs++[(T.getD i fa0).kn])) ⟨(by dsimp only;exact ⟨hj2,by rw [hls] at hx;simpa [List.append_assoc] using hx,by rw [List.length_append];simp;omega⟩),(by dsimp only;omega)⟩ (SubR.int rfl (by first | omega | rfl | (dsimp only;omega)) ((SubR.consI rfl (Imp.of (by dsimp only;rw [List.length_append];rfl))) (SubR.cons rfl (SubR.cons rfl (SubR.cons rfl SubR.nil))))) ((SubKR.consI rfl (ImpK.of xa5.symm)) ((SubKR.consI rfl (ImpK.of xa5.symm)) SubKR.nil)) (SupG.val (SupG.own rfl (SupG.own rfl (SupG.val (SupG.val SupG.nil))))) (SupH.cons rfl (supJ xa0) (SupH.cons rfl (supJ xa0) SupH.nil)) (lkOk rfl) rfl rfl (fun _ h=>by cases h)
     ·
      refine A2 ?_
      have hij:i < j:=by
       rcases Nat.lt_or_ge i j with h | h
       ·exact h
       ·exfalso
        have hji:j=i:=by omega
        subst hji
        first | omega | exact h179_2 rfl
      have hgj:grpE T i=j:=grp_is (by omega) hj2 hjk (by first | exact .inl (by omega) | exact .inr h179_2)
      have hls:=lrn_step (T:=T) (ds:=bdF T) (i:=i) (by omega)
      rw [hgj] at hls
      rw [if_pos h186] at hls
      exact kF ((j,xs)) ⟨(by dsimp only;exact ⟨hj2,by rw [hls] at hx;simpa using hx,by omega⟩),(by dsimp only;omega)⟩ (hh:=((SubK.consI rfl ImpK.refl) ((SubK.consI rfl ImpK.refl) SubK.nil)))
   ·
    refine A18 ?_
    refine A2 ?_
    refine RE (d_callR 27 9 1 (bdF T).length [.val _,.own (.sl 27 1 0 (bdF T).length)] (fun _ _ _ _ h=>h) (c_EqualS (nowA T (bdF T) i) (nowA T (bdF T) j)) fi41 (fun _ h=>h) (xj0 xm9) xm9 ⟨.inl rfl,.inr ⟨rfl,rfl⟩,trivial⟩ rfl) ⟨rfl,rfl,trivial⟩ ⟨rfl,trivial⟩ trivial ?_
    refine A3 ?_
    refine C_ifn rfl (fun h186=> ?_) (fun h186=> ?_)
    ·
     refine A3 ?_
     refine R1 (xd4 (n:=1) (f:=fun n:Int=>tI n) [(T.getD i fa0).kn] Tryz.underlying52 el3 zf3 rfl (fun _=>inferInstance) rfl rfl rfl) rfl (RE (xb2 (k:=8) (k':=85) (f:=fun n:Int=>tI n) (ys:=[(T.getD i fa0).kn]) (ts':=rV tI (xs++[(T.getD i fa0).kn])) Tryz.underlying52 el3 zf3 rfl rfl (fun _=>inferInstance) xc7 (by simp;omega) (by simp;omega) (by simp [rV]) (n':=xs.length+1) rfl) ⟨rfl,rfl,trivial⟩ ⟨rfl,trivial⟩ ⟨rfl,trivial⟩ ?_)
     refine A3 ?_
     have hij:i < j:=by
      rcases Nat.lt_or_ge i j with h | h
      ·exact h
      ·exfalso
       have hji:j=i:=by omega
       subst hji
       first | omega | exact h179_2 rfl
     have hgj:grpE T i=j:=grp_is (by omega) hj2 hjk (by first | exact .inl (by omega) | exact .inr h179_2)
     have hls:=lrn_step (T:=T) (ds:=bdF T) (i:=i) (by omega)
     rw [hgj] at hls
     rw [if_neg h186] at hls
     exact xf2 (l:=[27,8]) (fun j=>cond (Nat.beq j 8) 85 (j)) ((j,xs++[(T.getD i fa0).kn])) ⟨(by dsimp only;exact ⟨hj2,by rw [hls] at hx;simpa [List.append_assoc] using hx,by rw [List.length_append];simp;omega⟩),(by dsimp only;omega)⟩ (SubR.int rfl (by first | omega | rfl | (dsimp only;omega)) ((SubR.consI rfl (Imp.of (by dsimp only;rw [List.length_append];rfl))) (SubR.cons rfl (SubR.cons rfl (SubR.cons rfl SubR.nil))))) ((SubKR.consI rfl (ImpK.of xa5.symm)) ((SubKR.consI rfl (ImpK.of xa5.symm)) SubKR.nil)) (SupG.val (SupG.own rfl (SupG.own rfl (SupG.val (SupG.val SupG.nil))))) (SupH.cons rfl (supJ xa0) (SupH.cons rfl (supJ xa0) SupH.nil)) (lkOk rfl) rfl rfl (fun _ h=>by cases h)
    ·
     refine A2 ?_
     have hij:i < j:=by
      rcases Nat.lt_or_ge i j with h | h
      ·exact h
      ·exfalso
       have hji:j=i:=by omega
       subst hji
       first | omega | exact h179_2 rfl
     have hgj:grpE T i=j:=grp_is (by omega) hj2 hjk (by first | exact .inl (by omega) | exact .inr h179_2)
     have hls:=lrn_step (T:=T) (ds:=bdF T) (i:=i) (by omega)
     rw [hgj] at hls
     rw [if_pos h186] at hls
     exact kF ((j,xs)) ⟨(by dsimp only;exact ⟨hj2,by rw [hls] at hx;simpa using hx,by omega⟩),(by dsimp only;omega)⟩ (hh:=((SubK.consI rfl ImpK.refl) ((SubK.consI rfl ImpK.refl) SubK.nil)))
  ·
   refine A8 ?_
   refine RE (xi1 (f:=tI) (xs:=xs) (fun _ h=>h) (xj0 rfl) rfl) ⟨rfl,trivial⟩ ⟨rfl,trivial⟩ trivial ?_
   refine A3 ?_
   exact x3 Plain.mk' rfl rfl (Le.of (by rw [hrA,←hx,show T.length - i=0 by omega];simp [lrn]))
def dfF (a:List Fa) (key:ByteArray) (k1 k2:Int):List Sn:=if recOk a=true then (if tRight (vwT (toldT a key k1))=true∧tRight (vwT (toldT a key k2))=true then dfS (vwT (toldT a key k1)) (vwT (toldT a key k2)) else []) else []
def dfE (a:List Fa) (key:ByteArray) (k1 k2:Int):Int:=if recOk a=true then (if tRight (vwT (toldT a key k1))=true∧tRight (vwT (toldT a key k2))=true then 0 else 2) else 2
theorem c_FDiff (a:List Fa) (key:ByteArray) (k1 k2:Int) (hl:a.length≤100000) (hS:smF a) (hD: ∀f∈a,f.v.f.dig) (h1: ∀s∈(vwT (toldT a key k1)),s.v.f.dig) (h2: ∀s∈(vwT (toldT a key k2)),s.v.f.dig) (l1:(vwT (toldT a key k1)).length≤200000) (l2:(vwT (toldT a key k2)).length≤200000):
  Ct Tryz.prog 12 [tL 11 true tFa a,tSt key,tI k1,tI k2] (tT [tL 2 true tSn (dfF a key k1 k2),tI (dfE a key k1 k2)]):=by
 refine Ct.intro Tryz.func12 rfl Tryz.ntmps12 rfl ?_
 intro w F
 refine A10 ?_
 refine R1 (x4 (c_FcValid a hD) fi29 rfl) rfl ?_
 refine A3 ?_
 refine xd3 rfl (fun h161=> ?_) (fun h161=> ?_)
 ·
  have hr: ¬recOk a=true:=by simpa using h161
  refine A8 ?_
  exact xc9 Plain.mk' rfl rfl rfl (leNil (by rw [dfF,if_neg hr])) (Le.int (by rw [dfE,if_neg hr]))
 ·
  have hr:recOk a=true:=by simpa using h161
  refine A7 ?_
  refine R3 (x4 (c_view a key k1 hl hS) fi30 rfl) rfl rfl rfl ?_
  refine A3 ?_
  refine R3 (x4 (c_view a key k2 hl hS) fi30 rfl) rfl rfl rfl (R2 (x4 (c_TDiff _ _ (by omega) (by omega) h1 h2) fi31 rfl) rfl rfl ?_)
  refine A7 ?_
  exact xc9 Plain.mk' rfl rfl rfl (Le.of (by rw [dfF,if_pos hr])) (Le.int (by rw [dfE,if_pos hr]))
instance fi15:FnI Tryz.prog 15:=⟨_,Tryz.func15,by kernel_rfl,rfl⟩
instance fi28:FnI Tryz.prog 28:=⟨_,Tryz.func28,by kernel_rfl,rfl⟩
def nV (n d:Int):Va:=⟨2,fr (kfr n d),0⟩
abbrev kFte:ByteArray:=⟨#[102,116,101]⟩
theorem c_says06 (key:ByteArray) (a b k n d:Int) (h1: -9223372036854775808≤n) (h2:n≤9223372036854775807) (h3: -9223372036854775808≤d) (h4:d≤9223372036854775807):
  Ct Tryz.prog 28 [tSt key,tI a,tI b,tI k,tI n,tI d] (tFa ⟨key,a,b,k,false,nV n d⟩):=by
 refine Ct.intro Tryz.func28 rfl Tryz.ntmps28 rfl ?_
 intro w F
 refine A2 ?_
 refine RE (xb0 (k:=12) (n:=11) (agg:=true) zr30.1 zr30.2 rfl) trivial trivial ⟨rfl,trivial⟩ ?_
 refine A10 ?_
 refine R2 (x4 (c_Num n d h1 h2 h3 h4) fi15 rfl) rfl rfl (RE (xd7 (r:=tS [⟨1,false,tSt key⟩,⟨1,false,tI a⟩,⟨1,false,tI b⟩,⟨1,false,tI k⟩,⟨1,false,(tE (.bool false))⟩,⟨6,true,tVa (nV n d)⟩]) (ts:=[(0,tSt key),(1,tI a),(2,tI b),(3,tI k),(5,tVa (nV n d))]) bu30 zr30.2 (Bc 0 rfl rfl rfl (Bc 1 rfl rfl rfl (Bc 2 rfl rfl rfl (Bc 3 rfl rfl rfl (Bc 5 rfl rfl rfl Le.refl)))))) ⟨rfl,rfl,rfl,rfl,rfl,trivial⟩ trivial trivial ?_)
 refine A4 ?_
 exact xg0 Plain.mk' rfl ⟨_,_,_,_,_,rfl,rfl,ti30,Le.refl⟩
theorem xn0 (a b n d:Int) (h1: -9223372036854775808≤n) (h2:n≤9223372036854775807) (h3: -9223372036854775808≤d) (h4:d≤9223372036854775807):
  Ct Tryz.prog 20 [tI a,tI b,tI n,tI d] (tTs ⟨a,b,nV n d⟩):=by
 refine Ct.intro Tryz.func20 rfl Tryz.ntmps20 rfl ?_
 intro w F
 refine A2 ?_
 refine RE (xb0 (k:=8) (n:=8) (agg:=true) zr56.1 zr56.2 rfl) trivial trivial ⟨rfl,trivial⟩ ?_
 refine A8 ?_
 refine R2 (x4 (c_Num n d h1 h2 h3 h4) fi15 rfl) rfl rfl (R3 (xd7 (r:=tS [⟨1,false,tI a⟩,⟨1,false,tI b⟩,⟨6,true,tVa (nV n d)⟩]) (ts:=[(0,tI a),(1,tI b),(2,tVa (nV n d))]) bu56 zr56.2 (Bc 0 rfl rfl rfl (Bc 1 rfl rfl rfl (Bc 2 rfl rfl rfl Le.refl)))) rfl rfl rfl ?_)
 refine A4 ?_
 exact xg0 Plain.mk' rfl ⟨_,_,_,_,_,rfl,rfl,ti56,Le.refl⟩
def exF:List Fa:=[⟨kFte,0,100,10,false,nV 1 1⟩,⟨kFte,40,60,50,false,nV 1 2⟩,⟨kFte,50,70,80,true,An.va0⟩]
theorem c_example06:
  Ct Tryz.prog 10 [] (tL 11 true tFa exF):=by
 refine Ct.intro Tryz.func10 rfl Tryz.ntmps10 rfl ?_
 intro w F
 refine A7 ?_
 refine RE (x4 (c_says06 kFte 0 100 10 1 1 (by decide) (by decide) (by decide) (by decide)) fi28 rfl) ⟨rfl,rfl,rfl,rfl,rfl,rfl,trivial⟩ trivial trivial (RE (x4 (c_says06 kFte 40 60 50 1 2 (by decide) (by decide) (by decide) (by decide)) fi28 rfl) ⟨rfl,rfl,rfl,rfl,rfl,rfl,trivial⟩ trivial trivial (RE (xd7 (r:=tS [⟨1,false,tSt kFte⟩,⟨1,false,tI 50⟩,⟨1,false,tI 70⟩,⟨1,false,tI 80⟩,⟨1,false,tB true⟩,⟨6,true,(tS [⟨1,false,(tE (.int .u8 0))⟩,⟨4,true,(tS [⟨2,true,(tS [⟨1,false,(tE (.bool false))⟩,⟨1,false,(tLm [])⟩])⟩,⟨2,true,(tS [⟨1,false,(tE (.bool false))⟩,⟨1,false,(tLm [])⟩])⟩])⟩,⟨1,false,(tE (.int .i64 0))⟩])⟩]) (ts:=[(0,tSt kFte),(1,tI 50),(2,tI 70),(3,tI 80),(4,tB true)]) bu30 zr30.2 (Bc 0 rfl rfl rfl (Bc 1 rfl rfl rfl (Bc 2 rfl rfl rfl (Bc 3 rfl rfl rfl (Bc 4 rfl rfl rfl Le.refl)))))) ⟨rfl,rfl,rfl,rfl,rfl,trivial⟩ trivial trivial (R3 (xd4 (n:=3) (f:=tFa) exF Tryz.underlying36 el30 zf30 rfl (fun _=>inferInstance) rfl rfl rfl) rfl rfl rfl ?_)))
 refine A4 ?_
 exact x3 Plain.mk' rfl rfl Le.refl
end An.S
namespace An.S
open Go
def gdF (K:Nat) (D B:Int) (T:List Fa):Prop:= ∀f∈T,(0≤f.lo∧f.lo < f.hi∧f.hi≤65536)∧(f.gone=false→gOk K D B f.v)
theorem gF_some {T:List Fa} {d:Int} {v:Va} (h:gF T d=some v): ∃f∈T,f.gone=false∧f.v=v∧lastF T d=some f:=by
 rw [gF] at h
 cases hl:lastF T d with
 | none=>rw [hl] at h;cases h
 | some f=>
  rw [hl,valF] at h
  by_cases hg:f.gone=true
  ·rw [if_pos hg] at h;cases h
  ·rw [if_neg hg] at h
   exact ⟨f,(xn5 hl).1,by simpa using hg,Option.some.inj h,rfl⟩
theorem vw_ok {K:Nat} {D B:Int} {T:List Fa} (h:gdF K D B T):isG K D B (vwT T):=by
 refine isG_pst ((segL_pw xi7).2.imp (S:=fun s t:Tst=>s.lo < s.hi→s.hi≤t.lo) fun h' _=>h') fun s hs _=> ?_
 obtain ⟨h1,h2,h3⟩:=segL_mem hs
 have hb: ∀x∈bdF T,0≤x∧x≤65536:=fun x hx=>by
  obtain ⟨f,hf,e⟩:=bdF_mem.1 hx
  have:=(h f hf).1;omega
 obtain ⟨f,hf,hg,e,_⟩:=gF_some h3
 have:=hb _ h1
 have:=hb _ h2
 exact ⟨by omega,by rw [←e];exact (h f hf).2 hg⟩
theorem segL_len {g:Int→Option Va} (ds:List Int):(segL g ds).length≤ds.length:=by
 rw [segL_N]
 have:=segN_len (g:=g) (ds:=ds) (ds.length - 1)
 omega
theorem vw_len {T:List Fa}:(vwT T).length≤2*T.length:=by
 have h:=pst_len (segL (gF T) (bdF T)) []
 have h2:=segL_len (g:=gF T) (bdF T)
 have h3:=bdF_len (T:=T)
 rw [vwT];simp only [List.length_nil] at h;omega
section
variable {α:Type} {k:α→Int}
end
theorem told_len2 {a:List Fa} {key:ByteArray} {kn:Int}:(toldT a key kn).length≤a.length:=by rw [toldT,xn6];exact List.length_filter_le ..
theorem told_mem {a:List Fa} {key:ByteArray} {kn:Int} {f:Fa}:f∈toldT a key kn↔f∈a∧f.key=key∧f.kn≤kn:=by
 rw [toldT,ssort_mem,List.mem_filter]
 simp only [Bool.and_eq_true,decide_eq_true_eq]
theorem told_gd {K:Nat} {D B:Int} {a:List Fa} {key:ByteArray} {kn:Int} (h:gdF K D B a):gdF K D B (toldT a key kn):=fun f hf=>h f (told_mem.1 hf).1
section
variable {α β:Type} [DecidableEq α]
theorem getI_succ {a:α}: ∀{l:List (α×β)} {i:Nat},getI a (i+1) l=(getI a i l).map fun x=>(x.1+1,x.2)
 | [],_=>rfl
 | p::r,i=>by
  rw [getI,getI]
  split
  ·rfl
  ·exact getI_succ
theorem xq1 {z:β} {p:α×β} {r:List (α×β)} {a:α}:entV z (p::r) a=if a=p.1 then p.2 else entV z r a:=by
 rw [entV,getI]
 split
 ·rfl
 ·rw [getI_succ,Option.map_map];rfl
theorem putM_cons {p:α×β} {r:List (α×β)} {a:α} {v:β}:putM (p::r) a v=if a=p.1 then (a,v)::r else p::putM r a v:=by
 by_cases h:a=p.1
 ·simp [putM,getI,h]
 ·rw [if_neg h,putM,putM,getI,if_neg h,getI_succ]
  cases getI a 0 r with
  | none=>rfl
  | some x=>rfl
theorem ent_putG {z v:β} {a b:α}: ∀{l:List (α×β)},entV z (putM l a v) b=if a=b then v else entV z l b
 | []=>by
  show entV z [(a,v)] b=_
  rw [xq1]
  by_cases h:a=b
  ·rw [if_pos h.symm,if_pos h]
  ·rw [if_neg (fun h'=>h h'.symm),if_neg h]
 | p::r=>by
  rw [putM_cons]
  by_cases h:a=p.1
  ·rw [if_pos h,xq1,xq1]
   by_cases h2:a=b
   ·rw [if_pos h2.symm,if_pos h2]
   ·rw [if_neg (fun h'=>h2 h'.symm),if_neg h2,if_neg (fun h':b=p.1=>h2 (h.trans h'.symm))]
  ·rw [if_neg h,xq1,xq1,ent_putG]
   by_cases h2:b=p.1
   ·rw [if_pos h2,if_pos h2,if_neg (fun h'=>h (h'.trans h2))]
   ·rw [if_neg h2,if_neg h2]
end
theorem kGet_add {m:List (ByteArray×Nat)} {f:Fa} {key:ByteArray}:kGet (kAdd m f) key=if f.key=key then max (kGet m f.key) f.v.kind else kGet m key:=ent_putG
theorem kM_app {a:List Fa} {f:Fa} {key:ByteArray}:kGet (kM (a++[f])) key=if f.key=key then max (kGet (kM a) f.key) f.v.kind else kGet (kM a) key:=by
 rw [kM,List.foldl_append];exact kGet_add
theorem kM_nil {key:ByteArray}:kGet (kM []) key=0:=rfl
def gF1 (D B:Int) (f:Fa):Prop:=(((1≤f.key.size∧f.key.size≤24)∧(0≤f.lo∧f.lo < f.hi∧f.hi≤65536))∧(0≤f.kn∧f.kn < 65536))∧if f.gone=true then f.v=An.va0 else gOk 2 D B f.v∧txOk f.v
def gR (D B:Int) (a:List Fa):Prop:=a.length≤2000∧ ∀f∈a,gF1 D B f
section
variable {D B:Int} {a:List Fa} {f:Fa} {key:ByteArray}
theorem gF1.right (h:gF1 D B f):fRight f=true:=by
 obtain ⟨⟨⟨h1,h2⟩,h3⟩,h4⟩:=h
 rw [fRight]
 simp only [Bool.and_eq_true,decide_eq_true_eq]
 refine ⟨⟨⟨⟨⟨⟨⟨h1.1,h1.2⟩,h2.1⟩,h2.2.1⟩,h2.2.2⟩,h3.1⟩,h3.2⟩,?_⟩
 by_cases hg:f.gone=true
 ·rw [if_pos hg] at h4 ⊢;exact decide_eq_true h4
 ·rw [if_neg hg] at h4 ⊢;exact h4.1.1.1
theorem gF1.kind (h:gF1 D B f):f.v.kind=if f.gone=true then 0 else 2:=by
 have h4:=h.2
 by_cases hg:f.gone=true
 ·rw [if_pos hg] at h4 ⊢;rw [h4];rfl
 ·rw [if_neg hg] at h4 ⊢;exact h4.1.1.2.1
theorem gF1.lens (h:gF1 D B f):(f.v.f.n.l.length≤1000000∧f.v.f.d.l.length≤1000000)∧f.v.f.dig:=by
 have h4:=h.2
 by_cases hg:f.gone=true
 ·rw [if_pos hg] at h4;rw [h4];exact ⟨⟨Nat.zero_le _,Nat.zero_le _⟩,⟨fun _ h=>absurd h List.not_mem_nil,fun _ h=>absurd h List.not_mem_nil⟩⟩
 ·rw [if_neg hg] at h4
  have:=h4.2.2.2
  exact ⟨⟨by omega,by omega⟩,h4.1.dig⟩
theorem gF1.gd (h:gF1 D B f):(0≤f.lo∧f.lo < f.hi∧f.hi≤65536)∧(f.gone=false→gOk 2 D B f.v):=⟨h.1.1.2,fun hg=>by have h4:=h.2;rw [if_neg (by rw [hg];decide)] at h4;exact h4.1⟩
theorem gR.gd (h:gR D B a):gdF 2 D B a:=fun f hf=>(h.2 f hf).gd
theorem gR.kGet (h: ∀f∈a,gF1 D B f): ∀i,i≤a.length→ ∀key,An.S.kGet (kM (a.take i)) key=if ∃f∈a.take i,f.key=key∧f.gone=false then 2 else 0
 | 0,_,key=>by
  rw [List.take_zero,kM_nil,if_neg]
  rintro ⟨f,hf,_⟩;cases hf
 | i+1,hi,key=>by
  have hx:a.take (i+1)=a.take i++[a.getD i fa0]:=by rw [List.take_succ_eq_append_getElem (by omega),List.getD_eq_getElem?_getD,List.getElem?_eq_getElem (by omega)];rfl
  have ih:=gR.kGet h i (by omega)
  have hk:=(h _ (mem_getDF (l:=a) (i:=i) (by omega))).kind
  rw [hx,kM_app,ih,ih,hk]
  generalize a.getD i fa0=f at*
  by_cases h1:f.key=key
  ·rw [if_pos h1,h1]
   by_cases h2:f.gone=true
   ·rw [if_pos h2]
    by_cases h3: ∃g∈a.take i,g.key=key∧g.gone=false
    ·rw [if_pos h3,if_pos]
     ·rfl
     ·obtain ⟨g,hg,hh⟩:=h3;exact ⟨g,List.mem_append.2 (.inl hg),hh⟩
    ·rw [if_neg h3,if_neg]
     ·rfl
     ·rintro ⟨g,hg,hh⟩
      rcases List.mem_append.1 hg with h4 | h4
      ·exact h3 ⟨g,h4,hh⟩
      ·rw [List.mem_singleton.1 h4,h2] at hh;exact absurd hh.2 (by decide)
   ·have h2':f.gone=false:=by simpa using h2
    rw [if_neg h2,if_pos (⟨f,List.mem_append.2 (.inr (List.mem_singleton.2 rfl)),h1,h2'⟩: ∃g∈a.take i++[f],g.key=key∧g.gone=false)]
    split <;> rfl
  ·rw [if_neg h1]
   by_cases h3: ∃g∈a.take i,g.key=key∧g.gone=false
   ·rw [if_pos h3,if_pos]
    obtain ⟨g,hg,hh⟩:=h3;exact ⟨g,List.mem_append.2 (.inl hg),hh⟩
   ·rw [if_neg h3,if_neg]
    rintro ⟨g,hg,hh⟩
    rcases List.mem_append.1 hg with h4 | h4
    ·exact h3 ⟨g,h4,hh⟩
    ·rw [List.mem_singleton.1 h4] at hh;exact h1 hh.1
theorem gR.rec (h:gR D B a):recOk a=true:=by
 rw [recOk,Bool.and_eq_true,Bool.and_eq_true]
 refine ⟨⟨decide_eq_true h.1,List.all_eq_true.2 fun f hf=>(h.2 f hf).right⟩,?_⟩
 rw [kOk,List.all_eq_true]
 intro i hi
 have hi':=List.mem_range.1 hi
 rw [Bool.not_eq_true',←Bool.not_eq_true,kBad_iff]
 rintro ⟨h1,h2,h3⟩
 have hk:=(h.2 _ (mem_getDF hi')).kind
 rw [h2,if_neg (by decide)] at hk
 rw [gR.kGet h.2 i (by omega)] at h1 h3
 rw [hk] at h3
 split at h3
 ·exact h3 rfl
 ·rename_i hn;rw [if_neg hn] at h1;exact h1 rfl
theorem gR.view (h:gR D B a) (kn:Int):isG 2 D B (vwT (toldT a key kn))∧(vwT (toldT a key kn)).length≤4000:=by
 refine ⟨vw_ok (told_gd h.gd),?_⟩
 have h1:=vw_len (T:=toldT a key kn)
 have h2:=told_len2 (a:=a) (key:=key) (kn:=kn)
 have h3:=h.1
 omega
end
end An.S
namespace An.S
open Go Go.Proofs An
instance fi10:FnI Tryz.prog 10:=⟨_,Tryz.func10,by kernel_rfl,rfl⟩
instance fi11:FnI Tryz.prog 11:=⟨_,Tryz.func11,by kernel_rfl,rfl⟩
instance fi12:FnI Tryz.prog 12:=⟨_,Tryz.func12,by kernel_rfl,rfl⟩
instance fi13:FnI Tryz.prog 13:=⟨_,Tryz.func13,by kernel_rfl,rfl⟩
instance fi16:FnI Tryz.prog 16:=⟨_,Tryz.func16,by kernel_rfl,rfl⟩
instance fi17:FnI Tryz.prog 17:=⟨_,Tryz.func17,by kernel_rfl,rfl⟩
instance fi18:FnI Tryz.prog 18:=⟨_,Tryz.func18,by kernel_rfl,rfl⟩
instance fi19:FnI Tryz.prog 19:=⟨_,Tryz.func19,by kernel_rfl,rfl⟩
instance fi20:FnI Tryz.prog 20:=⟨_,Tryz.func20,by kernel_rfl,rfl⟩
section
variable {D B:Int} {a:List Fa}
theorem gR.sm (h:gR D B a):smF a:=fun f hf=>(h.2 f hf).lens.1
theorem gR.dg (h:gR D B a): ∀f∈a,f.v.f.dig:=fun f hf=>(h.2 f hf).lens.2
theorem gR.tx (h:gR D B a): ∀f∈a,f.gone=false→txOk f.v:=fun f hf hg=>by
 have h4:=(h.2 f hf).2
 rw [if_neg (by rw [hg];decide)] at h4;exact h4.2
theorem c_ViewG (h:gR D B a) (key:ByteArray) (kn:Int):Ct Tryz.prog 11 [tL 11 true tFa a,tSt key,tI kn] (tT [tL 8 true tTs (vwT (toldT a key kn)),tI 0]):=by
 have h1:=c_View a key kn (by have:=h.1;omega) h.sm h.dg
 rw [if_pos h.rec,if_pos h.rec] at h1;exact h1
theorem c_FAtG (h:gR D B a) (key:ByteArray) (d kn:Int):Ct Tryz.prog 13 [tL 11 true tFa a,tSt key,tI d,tI kn] (tT [tVa ((gF (toldT a key kn) d).getD An.va0),tB (gF (toldT a key kn) d).isSome]):=by
 have h1:=c_FAt a key d kn (by have:=h.1;omega) h.sm h.dg
 rw [atF,if_pos h.rec] at h1;exact h1
theorem c_LearnsG (h:gR D B a) (key:ByteArray):Ct Tryz.prog 18 [tL 11 true tFa a,tSt key] (tL 1 false tI (lrnT (toldT a key 65536))):=by
 have h1:=c_Learns a key (by have:=h.1;omega) h.dg h.tx
 rw [lrnA,if_pos h.rec] at h1;exact h1
theorem c_FDiffG (h:gR D B a) (key:ByteArray) (k1 k2:Int):Ct Tryz.prog 12 [tL 11 true tFa a,tSt key,tI k1,tI k2] (tT [tL 2 true tSn (dfS (vwT (toldT a key k1)) (vwT (toldT a key k2))),tI 0]):=by
 have v1:=h.view (key:=key) k1
 have v2:=h.view (key:=key) k2
 have h1:=c_FDiff a key k1 k2 (by have:=h.1;omega) h.sm h.dg v1.1.dig v2.1.dig (by omega) (by omega)
 rw [dfF,dfE,if_pos h.rec,if_pos h.rec,if_pos ⟨v1.1.1,v2.1.1⟩,if_pos ⟨v1.1.1,v2.1.1⟩] at h1;exact h1
end
theorem c_sameVv (u v:Va) (e:u=v):Ct Tryz.prog 14 [tVa u,tVa v] (tB true):=by
 have h:=xr6 u v
 rw [decide_eq_true e] at h;exact h
theorem c_sameTv (u v:List Tst) (e:u=v):Ct Tryz.prog 19 [tL 8 true tTs u,tL 8 true tTs v] (tB true):=by
 have h:=c_SameSteps u v
 rw [decide_eq_true e] at h;exact h
theorem c_sameSv (u v:List Sn) (e:u=v):Ct Tryz.prog 16 [tL 2 true tSn u,tL 2 true tSn v] (tB true):=by
 have h:=c_SameSpans u v
 rw [decide_eq_true e] at h;exact h
theorem c_sameIv (u w:List Int) (e:u=w):Ct Tryz.prog 17 [tL 1 false tI u,tL 1 false tI w] (tB true):=by
 have h:=c_SameInts u w
 rw [decide_eq_true e] at h;exact h
theorem nV_ok {n d D B x:Int} (_hd:d≠0) (e:kfr n d=Rat.divInt x D) (hD:0 < D) (hDb:D≤9223372036854775807) (h1: -B≤x) (h2:x≤B) (hB:B≤9223372036854775807):gOk 2 D B (nV n d):=by
 rw [nV,e];exact gOk.mk (.inl rfl) hD hDb h1 h2 hB
theorem exF_ok:gR 2 2 exF:=⟨by decide,fun f hf=>by
 simp only [exF,List.mem_cons,List.not_mem_nil,or_false] at hf
 rcases hf with rfl | rfl | rfl
 ·have h:=nV_ok (n:=1) (d:=1) (D:=2) (B:=2) (x:=2) (by decide) (by decide+kernel) (by decide) (by decide) (by decide) (by decide) (by decide)
  exact ⟨by decide,⟨h,by decide+kernel,by decide+kernel,by decide+kernel,by decide+kernel,h.dig⟩⟩
 ·have h:=nV_ok (n:=1) (d:=2) (D:=2) (B:=2) (x:=1) (by decide) (by decide+kernel) (by decide) (by decide) (by decide) (by decide) (by decide)
  exact ⟨by decide,⟨h,by decide+kernel,by decide+kernel,by decide+kernel,by decide+kernel,h.dig⟩⟩
 ·exact ⟨by decide,by rw [if_pos rfl]⟩⟩
theorem asc_eqF: ∀{a b:List Int},a.Pairwise (· < ·)→b.Pairwise (· < ·)→(∀x,x∈a↔x∈b)→a=b
 | [],[],_,_,_=>rfl
 | [],y::s,_,_,h=>absurd ((h y).2 (List.mem_cons_self ..)) (List.not_mem_nil)
 | x::r,[],_,_,h=>absurd ((h x).1 (List.mem_cons_self ..)) (List.not_mem_nil)
 | x::r,y::s,ha,hb,h=>by
  have pa:=List.pairwise_cons.1 ha
  have pb:=List.pairwise_cons.1 hb
  have hxy:x=y:=by
   rcases List.mem_cons.1 ((h x).1 (List.mem_cons_self ..)) with e | h1
   ·exact e
   ·rcases List.mem_cons.1 ((h y).2 (List.mem_cons_self ..)) with e | h2
    ·exact e.symm
    ·have:=pa.1 y h2;have:=pb.1 x h1;omega
  subst hxy
  congr 1
  refine asc_eqF pa.2 pb.2 fun z=>⟨fun hz=> ?_,fun hz=> ?_⟩
  ·rcases List.mem_cons.1 ((h z).1 (List.mem_cons_of_mem _ hz)) with e | h1
   ·have:=pa.1 z hz;omega
   ·exact h1
  ·rcases List.mem_cons.1 ((h z).2 (List.mem_cons_of_mem _ hz)) with e | h1
   ·have:=pb.1 z hz;omega
   ·exact h1
theorem brd_eqF {xs l:List Int} (h:l.Pairwise (· < ·)) (h1: ∀x∈l,x∈xs) (h2: ∀x∈xs,x∈l):brd xs=l:=asc_eqF (xp2 xs).1 h fun x=>((xp2 xs).2 x).trans ⟨h2 x,h1 x⟩
theorem ex_bd {kn:Int} {ds:List Int} (h:ds.Pairwise (· < ·)) (h1: ∀x∈ds,x∈edF (toldT exF kFte kn)) (h2: ∀x∈edF (toldT exF kFte kn),x∈ds):bdF (toldT exF kFte kn)=ds:=brd_eqF h h1 h2
theorem exV1:vwT (toldT exF kFte 9)=[]:=by
 rw [vwT,ex_bd (ds:=[]) (by decide) (by decide+kernel) (by decide+kernel)];decide+kernel
theorem exV2:vwT (toldT exF kFte 10)=[⟨0,100,nV 1 1⟩]:=by
 rw [vwT,ex_bd (ds:=[0,100]) (by decide) (by decide+kernel) (by decide+kernel)];decide+kernel
theorem exV3:vwT (toldT exF kFte 50)=[⟨0,40,nV 1 1⟩,⟨40,60,nV 1 2⟩,⟨60,100,nV 1 1⟩]:=by
 rw [vwT,ex_bd (ds:=[0,40,60,100]) (by decide) (by decide+kernel) (by decide+kernel)];decide+kernel
theorem exV4:vwT (toldT exF kFte 80)=[⟨0,40,nV 1 1⟩,⟨40,50,nV 1 2⟩,⟨70,100,nV 1 1⟩]:=by
 rw [vwT,ex_bd (ds:=[0,40,50,60,70,100]) (by decide) (by decide+kernel) (by decide+kernel)];decide+kernel
theorem exDf:dfS (vwT (toldT exF kFte 50)) (vwT (toldT exF kFte 80))=[⟨50,70⟩]:=by
 have e:bds [vwT (toldT exF kFte 50),vwT (toldT exF kFte 80)]=[0,40,50,60,70,100]:=by
  rw [exV3,exV4];exact brd_eqF (by decide) (by decide) (by decide)
 rw [dfS,mkS_asc (dfT_asc (exF_ok.view 50).1.1 (exF_ok.view 80).1.1),dfT_map,e,exV3,exV4]
 decide+kernel
theorem exA1:gF (toldT exF kFte 79) 55=some (nV 1 2):=by decide+kernel
theorem exA2:gF (toldT exF kFte 80) 55=none:=by decide+kernel
theorem exLr:lrnT (toldT exF kFte 65536)=[10,50,80]:=by
 rw [lrnT,ex_bd (ds:=[0,40,50,60,70,100]) (by decide) (by decide+kernel) (by decide+kernel)];decide+kernel
theorem c_exV (kn:Int) (l:List Tst) (e:vwT (toldT exF kFte kn)=l):Ct Tryz.prog 11 [tL 11 true tFa exF,tSt kFte,tI kn] (tT [tL 8 true tTs l,tI 0]):=by
 rw [←e];exact c_ViewG exF_ok kFte kn
theorem c_exA (d kn:Int) (o:Option Va) (e:gF (toldT exF kFte kn) d=o):Ct Tryz.prog 13 [tL 11 true tFa exF,tSt kFte,tI d,tI kn] (tT [tVa (o.getD An.va0),tB o.isSome]):=by
 rw [←e];exact c_FAtG exF_ok kFte d kn
theorem c_exD:Ct Tryz.prog 12 [tL 11 true tFa exF,tSt kFte,tI 50,tI 80] (tT [tL 2 true tSn [⟨50,70⟩],tI 0]):=by
 rw [←exDf];exact c_FDiffG exF_ok kFte 50 80
theorem c_exL:Ct Tryz.prog 18 [tL 11 true tFa exF,tSt kFte] (tL 1 false tI [10,50,80]):=by
 rw [←exLr];exact c_LearnsG exF_ok kFte
theorem c_awake06:
  Ct Tryz.prog 5 [] (tB true):=by
 refine Ct.intro Tryz.func5 rfl Tryz.ntmps5 rfl ?_
 intro w F
 refine A7 ?_
 refine R0 (x4 c_example06 fi10 rfl) ?_
 refine A6 ?_
 refine R3 (x4 (c_exV 9 _ exV1) fi11 rfl) rfl rfl rfl ?_
 refine A10 ?_
 refine R3 (x4 (c_exV 10 _ exV2) fi11 rfl) rfl rfl rfl ?_
 refine A10 ?_
 refine R3 (x4 (c_exV 50 _ exV3) fi11 rfl) rfl rfl rfl ?_
 refine A10 ?_
 refine R3 (x4 (c_exV 80 _ exV4) fi11 rfl) rfl rfl rfl ?_
 refine A10 ?_
 refine RE (x4 c_exD fi12 rfl) ⟨rfl,rfl,rfl,rfl,trivial⟩ trivial trivial ?_
 refine A10 ?_
 refine RE (x4 (c_exA 55 79 _ exA1) fi13 rfl) ⟨rfl,rfl,rfl,rfl,trivial⟩ trivial trivial ?_
 refine A3 ?_
 refine RE (xb0 (k:=12) (n:=6) (agg:=true) zr28.1 zr28.2 rfl) trivial trivial ⟨rfl,trivial⟩ ?_
 refine A7 ?_
 refine RE (x4 (c_exA 55 80 _ exA2) fi13 rfl) ⟨rfl,rfl,rfl,rfl,trivial⟩ trivial trivial ?_
 refine A3 ?_
 refine RE (xb0 (k:=14) (n:=6) (agg:=true) zr28.1 zr28.2 rfl) trivial trivial ⟨rfl,trivial⟩ ?_
 refine A18 ?_
 refine RGon (decide_eq_false (by omega)) rfl xb5 rfl ⟨rfl,trivial⟩ trivial trivial (RGon (decide_eq_false (by omega)) rfl (d_len Tryz.underlying38) rfl ⟨rfl,trivial⟩ trivial trivial (RGon (decide_eq_false (by omega)) rfl d_neq rfl ⟨rfl,rfl,trivial⟩ trivial trivial (R2 (xh3 (decide_eq_false (by omega))) rfl rfl ?_)))
 refine A1 ?_
 refine RGon (decide_eq_false (by decide)) rfl xb5 rfl ⟨rfl,trivial⟩ trivial trivial (RGon (decide_eq_false (by decide)) rfl d_not rfl ⟨rfl,trivial⟩ trivial trivial (R2 (xh3 (decide_eq_false (by decide))) rfl rfl ?_))
 refine A5 ?_
 refine RGon rfl rfl (x4 (c_Num 1 2 (by decide) (by decide) (by decide) (by decide)) fi15 rfl) rfl ⟨rfl,rfl,trivial⟩ trivial trivial (RGon rfl rfl (x4 (c_sameVv _ _ rfl) fi14 rfl) rfl ⟨rfl,rfl,trivial⟩ trivial trivial ?_)
 refine A4 ?_
 refine RGon rfl rfl (xd7 (r:=tS [⟨1,false,tI 50⟩,⟨1,false,tI 70⟩]) (ts:=[(0,tI 50),(1,tI 70)]) bu50 zr50.2 (Bc 0 rfl rfl rfl (Bc 1 rfl rfl rfl Le.refl))) rfl ⟨rfl,rfl,trivial⟩ trivial trivial (RGon rfl rfl (xd4 (n:=1) (f:=tSn) [(⟨50,70⟩:Sn)] Tryz.underlying42 el50 zf50 rfl (fun _=>inferInstance) rfl rfl rfl) rfl ⟨rfl,trivial⟩ trivial trivial (RGon rfl rfl (x4 (c_sameSv _ _ rfl) fi16 rfl) rfl ⟨rfl,rfl,trivial⟩ trivial trivial ?_))
 refine A4 ?_
 refine RGon rfl rfl (x4 c_exL fi18 rfl) rfl ⟨rfl,rfl,trivial⟩ trivial trivial (RGon rfl rfl (xd4 (n:=3) (f:=fun n:Int=>tI n) [10,50,80] Tryz.underlying52 el3 zf3 rfl (fun _=>inferInstance) rfl rfl rfl) rfl ⟨rfl,rfl,rfl,trivial⟩ trivial trivial (RGon rfl rfl (x4 (c_sameIv _ _ rfl) fi17 rfl) rfl ⟨rfl,rfl,trivial⟩ trivial trivial ?_))
 refine A16 ?_
 refine RE (x4 (xn0 0 100 1 1 (by decide) (by decide) (by decide) (by decide)) fi20 rfl) ⟨rfl,rfl,rfl,rfl,trivial⟩ trivial trivial (R1 (xd4 (n:=1) (f:=tTs) [(⟨0,100,nV 1 1⟩:Tst)] Tryz.underlying38 el56 zf56 rfl (fun _=>inferInstance) rfl rfl rfl) rfl (R3 (xm1 (c_sameTv _ _ rfl) fi19 rfl) rfl rfl rfl ?_))
 refine A3 ?_
 refine RGon rfl rfl (x4 (xn0 0 40 1 1 (by decide) (by decide) (by decide) (by decide)) fi20 rfl) rfl ⟨rfl,rfl,rfl,rfl,trivial⟩ trivial trivial (RGon rfl rfl (x4 (xn0 40 60 1 2 (by decide) (by decide) (by decide) (by decide)) fi20 rfl) rfl ⟨rfl,rfl,rfl,rfl,trivial⟩ trivial trivial (RGon rfl rfl (x4 (xn0 60 100 1 1 (by decide) (by decide) (by decide) (by decide)) fi20 rfl) rfl ⟨rfl,rfl,rfl,rfl,trivial⟩ trivial trivial (RGon rfl rfl (xd4 (n:=3) (f:=tTs) [(⟨0,40,nV 1 1⟩:Tst),(⟨40,60,nV 1 2⟩:Tst),(⟨60,100,nV 1 1⟩:Tst)] Tryz.underlying38 el56 zf56 rfl (fun _=>inferInstance) rfl rfl rfl) rfl ⟨rfl,rfl,rfl,trivial⟩ trivial trivial (RGon rfl rfl (xm1 (c_sameTv _ _ rfl) fi19 rfl) rfl ⟨rfl,rfl,rfl,trivial⟩ trivial trivial ?_))))
 refine A4 ?_
 refine RGon rfl rfl (x4 (xn0 0 40 1 1 (by decide) (by decide) (by decide) (by decide)) fi20 rfl) rfl ⟨rfl,rfl,rfl,rfl,trivial⟩ trivial trivial (RGon rfl rfl (x4 (xn0 40 50 1 2 (by decide) (by decide) (by decide) (by decide)) fi20 rfl) rfl ⟨rfl,rfl,rfl,rfl,trivial⟩ trivial trivial (RGon rfl rfl (x4 (xn0 70 100 1 1 (by decide) (by decide) (by decide) (by decide)) fi20 rfl) rfl ⟨rfl,rfl,rfl,rfl,trivial⟩ trivial trivial (RGon rfl rfl (xd4 (n:=3) (f:=tTs) [(⟨0,40,nV 1 1⟩:Tst),(⟨40,50,nV 1 2⟩:Tst),(⟨70,100,nV 1 1⟩:Tst)] Tryz.underlying38 el56 zf56 rfl (fun _=>inferInstance) rfl rfl rfl) rfl ⟨rfl,rfl,rfl,trivial⟩ trivial trivial (RGon rfl rfl (xm1 (c_sameTv _ _ rfl) fi19 rfl) rfl ⟨rfl,rfl,rfl,trivial⟩ trivial trivial ?_))))
 refine A5 ?_
 exact x3 Plain.mk' rfl rfl Le.refl
instance fi146:FnI Tryz.prog 146:=⟨_,Tryz.func146,by kernel_rfl,rfl⟩
theorem c_RTrim (a:List Nat):
  Ct Tryz.prog 146 [tLm a] (tLm (trimL a)):=by
 refine Ct.intro Tryz.func146 rfl Tryz.ntmps146 rfl ?_
 intro w F
 refine xf1 (s:=0) rfl (fun hl0=> ?_)
 refine A14 ?_
 refine cL (fun (k:Nat)=>k≤a.length∧trimL (a.take k)=trimL a) (fun (k:Nat)=>upd (upd (fun _=>none) 0 (some (.val (tLm a)))) 3 (some (.val (tI k)))) (fun (k:Nat)=>fun _=>none) [] (fun (k:Nat)=>k) (a.length) ⟨Nat.le_refl _,by rw [List.take_length]⟩ ?_
 intro k hI
 obtain ⟨hk,hc⟩:=hI
 refine A6 ?_
 refine RGcaseD (t:=8) rfl (fun h12=> ?_) (fun h12=> ?_)
 ·
  refine A2 ?_
  refine RGon (decide_eq_true h12) rfl (xe1 (wr64 (by omega) (by omega))) rfl ⟨rfl,rfl,trivial⟩ trivial trivial (RGon (decide_eq_true h12) rfl (x6 sl22 (k - 1) (by omega) (gN (by omega))) rfl ⟨rfl,rfl,trivial⟩ trivial trivial ?_)
  refine A5 ?_
  refine x7 rfl (fun h12_2=> ?_) (fun h12_2=> ?_)
  ·
   refine A9 ?_
   exact kF (k - 1) ⟨⟨by omega,by rw [trim_step' hk (by omega) (by omega)];exact hc⟩,(by omega)⟩
  ·
   refine A9 ?_
   refine R2 (d_sliceTo sl22 k (by omega) (by omega) rfl) rfl rfl ?_
   refine A4 ?_
   exact x3 Plain.mk' rfl rfl (Le.of (congrArg tLm (by rw [←hc,trim_stop' hk (by omega) (by omega)])))
 ·
  refine A18 ?_
  refine A1 ?_
  refine R2 (d_sliceTo sl22 k (by omega) (by omega) rfl) rfl rfl ?_
  refine A4 ?_
  exact x3 Plain.mk' rfl rfl (Le.of (congrArg tLm (by rw [←hc,show k=0 by omega,List.take_zero];rfl)))
theorem c_RLess (a b:Nat):
  Ct Tryz.prog 120 [tM a,tM b] (tB (decide (a < b))):=by
 refine Ct.intro Tryz.func120 rfl Tryz.ntmps120 rfl ?_
 intro w F
 refine xf1 (s:=0) rfl (fun hl0=> ?_)
 refine xf1 (s:=1) rfl (fun hl1=> ?_)
 have ha:=xg9 x9 a
 have hb:=xg9 x9 b
 refine A15 ?_
 refine x7 rfl (fun h20=> ?_) (fun h20=> ?_)
 ·
  refine A12 ?_
  exact x3 Plain.mk' rfl rfl (Le.bool (decide_eq_decide.2 ⟨fun h=>len_lt x9 (by omega),fun h=>by have:=xe4 x9 (Nat.le_of_lt h);omega⟩))
 ·
  refine A12 ?_
  have hlen:(dig 65536 a).length=(dig 65536 b).length:=by omega
  rw [←hlen] at hb
  refine cL (fun (k:Nat)=>k≤(dig 65536 a).length∧a / 65536 ^ k=b / 65536 ^ k) (fun (k:Nat)=>upd (upd (upd (fun _=>none) 0 (some (.val (tM a)))) 1 (some (.val (tM b)))) 5 (some (.val (tI ((k:Int) - 1))))) (fun (k:Nat)=>fun _=>none) [] (fun (k:Nat)=>k) ((dig 65536 a).length) ⟨Nat.le_refl _,by rw [Nat.div_eq_of_lt ha,Nat.div_eq_of_lt hb]⟩ ?_
  intro k hI
  obtain ⟨hk,hc⟩:=hI
  refine A7 ?_
  refine x7 rfl (fun h23=> ?_) (fun h23=> ?_)
  ·
   obtain ⟨j,rfl⟩: ∃j,k=j+1:=⟨k - 1,by omega⟩
   refine A8 ?_
   refine R2 (x6 sl22 (j) (by omega) (gN (by omega))) rfl rfl ?_
   refine A3 ?_
   refine R2 (x6 sl22 (j) (by omega) (gN (by omega))) rfl rfl ?_
   refine A4 ?_
   refine x7 rfl (fun h24=> ?_) (fun h24=> ?_)
   ·
    refine A4 ?_
    refine R2 (x6 sl22 (j) (by omega) (gN (by omega))) rfl rfl ?_
    refine A3 ?_
    refine R2 (x6 sl22 (j) (by omega) (gN (by omega))) rfl rfl ?_
    refine A11 ?_
    exact x3 Plain.mk' rfl rfl (Le.bool (decide_eq_decide.2 ⟨fun h=>dig_lt_of x9 hc (by omega),fun h=>Classical.byContradiction fun h2=>by have:=dig_lt_of x9 hc.symm (show (dig 65536 b).getD j 0 < (dig 65536 a).getD j 0 by omega);omega⟩))
   ·
    refine A8 ?_
    exact kF (j) ⟨⟨by omega,cmp_step (by decide) hc (by rw [←xb9 x9,←xb9 x9];omega)⟩,(by omega)⟩
  ·
   refine A11 ?_
   exact x3 Plain.mk' rfl rfl (Le.bool (decide_eq_false (by have h0:=hc;rw [show k=0 by omega] at h0;simp at h0;omega)).symm)
theorem len_ne {v:Nat}:(0:Int) < ((dig 65536 v).length:Nat)↔v≠0:=by
 have h:(dig 65536 v).length=0↔v=0:=by rw [List.length_eq_zero_iff,xi2 x9]
 omega
theorem iquo64 {a b:Nat} (ha:a < 9223372036854775808):IntKind.i64.wrap ((a:Int).tdiv (b:Int))=((a / b:Nat):Int):=by
 rw [Int.tdiv_eq_ediv_of_nonneg (by omega)]
 have h:(a:Int) / (b:Int)=((a / b:Nat):Int):=(Int.natCast_ediv a b).symm
 rw [h]
 have:=Nat.div_le_self a b
 generalize a / b=q at*
 exact wr64 (by omega) (by omega)
theorem c_RShort (a d:Nat) (ha:(dig 65536 a).length≤100000) (hd:0 < d) (hdW:d < 65536):
  Ct Tryz.prog 119 [tM a,tI d] (tT [tM (a / d),tM (a%d)]):=by
 refine Ct.intro Tryz.func119 rfl Tryz.ntmps119 rfl ?_
 intro w F
 refine A10 ?_
 refine RE (xh7 (k:=11) (t:=tE (.int .u16 0)) (ts:=rW .u16 (List.replicate ((dig 65536 a).length) 0)) ((dig 65536 a).length) ((dig 65536 a).length) Tryz.underlying22 el100 (fun _ _=>rfl) rfl (by omega) (by omega) (Nat.le_refl _) (by omega) (by omega) (rW_rep _)) ⟨rfl,rfl,trivial⟩ trivial ⟨rfl,trivial⟩ ?_
 refine A18 ?_
 refine cL (fun (fm:(Nat)×(List Nat))=>(fun (k:Nat) (qs:List Nat)=>k≤(dig 65536 a).length∧qs.length=(dig 65536 a).length∧Dig 65536 qs∧val 65536 (qs.drop k)=a / 65536 ^ k / d) fm.1 fm.2) (fun (fm:(Nat)×(List Nat))=>(fun (k:Nat) (qs:List Nat)=>upd (upd (upd (upd (upd (fun _=>none) 0 (some (.val (tM a)))) 1 (some (.val (tI d)))) 6 (some (.own (.sl 11 1 0 (dig 65536 a).length)))) 7 (some (.val (tI ((a / 65536 ^ k%d:Nat):Int))))) 8 (some (.val (tI ((k:Int) - 1))))) fm.1 fm.2) (fun (fm:(Nat)×(List Nat))=>(fun (k:Nat) (qs:List Nat)=>upd (fun _=>none) 11 (some (⟨100,1,false,rW .u16 qs⟩))) fm.1 fm.2) [11] (fun (fm:(Nat)×(List Nat))=>(fun (k:Nat) (qs:List Nat)=>k) fm.1 fm.2) (((dig 65536 a).length,List.replicate (dig 65536 a).length 0)) (by dsimp only;exact ⟨Nat.le_refl _,by simp,Dig.rep (by decide) _,by rw [Nat.div_eq_of_lt (xg9 x9 a),Nat.zero_div,List.drop_replicate,xf8]⟩) (hg:=(sI (Sub.le rfl (Le.int (by dsimp only;rw [Nat.div_eq_of_lt (xg9 x9 a),Nat.zero_mod];rfl)) (sC (sI (sC Sub.nil)))))) (hh:=((SubK.consI rfl ImpK.refl) SubK.nil)) ?_
 intro fm hI
 obtain ⟨k,qs⟩:=fm
 replace hI:k≤(dig 65536 a).length∧qs.length=(dig 65536 a).length∧Dig 65536 qs∧val 65536 (qs.drop k)=a / 65536 ^ k / d:=hI
 show wc _ _ _ _ (upd (upd (upd (upd (upd (fun _=>none) 0 (some (.val (tM a)))) 1 (some (.val (tI d)))) 6 (some (.own (.sl 11 1 0 (dig 65536 a).length)))) 7 (some (.val (tI ((a / 65536 ^ k%d:Nat):Int))))) 8 (some (.val (tI ((k:Int) - 1))))) (upd (fun _=>none) 11 (some (⟨100,1,false,rW .u16 qs⟩))) _
 obtain ⟨hk,hl,hD,hv⟩:=hI
 have hr:a / 65536 ^ k%d < d:=Nat.mod_lt _ hd
 refine A7 ?_
 refine x7 rfl (fun h93=> ?_) (fun h93=> ?_)
 ·
  obtain ⟨j,rfl⟩: ∃j,k=j+1:=⟨k - 1,by omega⟩
  have hx:=xb9 x9 a j
  have hx1:=(xc5 x9 a).getD (by decide) j
  obtain ⟨n1,n2,n3,n4,n5⟩:=short_in (k:=j) (by omega) hl hD hd rfl hv (by rw [←hx])
  have hq0:=Nat.zero_le (((a / 65536 ^ (j+1)%d)*65536+(dig 65536 a).getD j 0) / d)
  refine A7 ?_
  refine R2 (xg5 (r:=(((a / 65536 ^ (j+1)%d)*65536:Nat):Int)) (by rw [wr64 (by omega) (by omega)];omega)) rfl rfl ?_
  refine A2 ?_
  refine R2 (x6 sl22 (j) (by omega) (gN (by omega))) rfl rfl ?_
  refine A1 ?_
  refine R1 (x5 Tryz.underlying3 (isS Tryz.underlying100) (wr64 (by omega) (by omega))) rfl (R2 (xe2 (r:=((((a / 65536 ^ (j+1)%d)*65536+(dig 65536 a).getD j 0):Nat):Int)) (by rw [wr64 (by omega) (by omega)];omega)) rfl rfl ?_)
  refine A9 ?_
  refine R2 (d_quo (r:=((((a / 65536 ^ (j+1)%d)*65536+(dig 65536 a).getD j 0) / d:Nat):Int)) (by omega) (iquo64 (by omega))) rfl rfl (R1 (x5 Tryz.underlying100 (isS Tryz.underlying3) (wu16 (by omega) (by omega))) rfl (R2 (xa3 sl22 (by omega) (by omega) rfl) rfl rfl (RE (xb8 (j) ti100 (rW_lt (by omega)) (by omega) (xj5 (m:=_) rfl)) ⟨rfl,rfl,trivial⟩ ⟨rfl,trivial⟩ trivial ?_)))
  refine A5 ?_
  refine R2 (d_rem (by omega) wrem64) rfl rfl ?_
  refine A9 ?_
  exact kF ((j,qs.set j (((a / 65536 ^ (j+1)%d)*65536+(dig 65536 a).getD j 0) / d))) ⟨(by dsimp only;exact ⟨by omega,n1,n2,n4⟩),(by dsimp only;omega)⟩ (hg:=(sI (Sub.le rfl (Le.int (by dsimp only;rw [hx,n3])) (sC (sI (sC Sub.nil)))))) (hh:=((SubK.consI rfl ImpK.refl) SubK.nil))
 ·
  have hk0:k=0:=by omega
  subst hk0
  rw [List.drop_zero,Nat.pow_zero,Nat.div_one] at hv
  refine A7 ?_
  refine RE (xj1 (f:=fun n:Nat=>tE (.int .u16 n)) (fun _ h=>h) (xi5 hl) hl) ⟨rfl,trivial⟩ ⟨rfl,trivial⟩ trivial (R1 (x4 (c_RTrim _) fi146 rfl) rfl ?_)
  refine A1 ?_
  refine R1 (x5 Tryz.underlying100 (isS Tryz.underlying3) (wu16 (by omega) (by omega))) rfl (R1 (xm5 (n:=1) [a / 65536 ^ 0%d] Tryz.underlying22 el100 zf100 rfl rfl rfl) rfl (R1 (x4 (c_RTrim _) fi146 rfl) rfl ?_))
  refine A5 ?_
  exact xc9 Plain.mk' rfl rfl rfl (Le.of (congrArg tLm (by rw [xe5 x9 hD,hv]))) (Le.of (congrArg tLm (by rw [trim1L (by omega),Nat.pow_zero,Nat.div_one])))
theorem c_RPlus (a b:Nat) (ha:(dig 65536 a).length≤100000) (hb:(dig 65536 b).length≤100000):
  Ct Tryz.prog 121 [tM a,tM b] (tM (a+b)):=by
 have hab:=len_dbl ha hb
 refine Ct.intro Tryz.func121 rfl Tryz.ntmps121 rfl ?_
 intro w F
 refine A7 ?_
 refine RE (xf9 (k:=5) 100 1 false rfl (fun _=>rfl)) trivial trivial ⟨rfl,trivial⟩ ?_
 refine A14 ?_
 refine cL (fun (fm:(Nat)×(Nat)×(List Nat))=>(fun (i:Nat) (n:Nat) (cs:List Nat)=>i≤(dig 65536 (a+b)).length∧n=(a%65536 ^ i+b%65536 ^ i) / 65536 ^ i∧cs=dgs 65536 i (a+b)) fm.1 fm.2.1 fm.2.2) (fun (fm:(Nat)×(Nat)×(List Nat))=>(fun (i:Nat) (n:Nat) (cs:List Nat)=>upd (upd (upd (upd (upd (fun _=>none) 0 (some (.val (tM a)))) 1 (some (.val (tM b)))) 5 (some (.own (.sl 5 1 0 cs.length)))) 7 (some (.val (tI i)))) 6 (some (.val (tI n)))) fm.1 fm.2.1 fm.2.2) (fun (fm:(Nat)×(Nat)×(List Nat))=>(fun (i:Nat) (n:Nat) (cs:List Nat)=>upd (fun _=>none) 5 (some (⟨100,1,false,rW .u16 cs⟩))) fm.1 fm.2.1 fm.2.2) [5] (fun (fm:(Nat)×(Nat)×(List Nat))=>(fun (i:Nat) (n:Nat) (cs:List Nat)=>(dig 65536 (a+b)).length - i) fm.1 fm.2.1 fm.2.2) ((0,0,[])) (by dsimp only;exact ⟨Nat.zero_le _,by simp [Nat.mod_one],rfl⟩) (hh:=((SubK.consI rfl ImpK.refl) SubK.nil)) ?_
 intro fm hI
 obtain ⟨i,n,cs⟩:=fm
 replace hI:i≤(dig 65536 (a+b)).length∧n=(a%65536 ^ i+b%65536 ^ i) / 65536 ^ i∧cs=dgs 65536 i (a+b):=hI
 show wc _ _ _ _ (upd (upd (upd (upd (upd (fun _=>none) 0 (some (.val (tM a)))) 1 (some (.val (tM b)))) 5 (some (.own (.sl 5 1 0 cs.length)))) 7 (some (.val (tI i)))) 6 (some (.val (tI n)))) (upd (fun _=>none) 5 (some (⟨100,1,false,rW .u16 cs⟩))) _
 obtain ⟨hi,hn,hcs⟩:=hI
 have hcl:cs.length=i:=by rw [hcs,xe0]
 have hn1:=rplus_small hn
 have xa:=xb9 x9 a i
 have xb:=xb9 x9 b i
 have xa1:=(xc5 x9 a).getD (by decide) i
 have xb1:=(xc5 x9 b).getD (by decide) i
 refine A8 ?_
 refine RGcaseD (t:=12) rfl (fun h35=> ?_) (fun h35=> ?_)
 ·
  have hmore:=rplus_more hn (.inl (by omega))
  refine A16 ?_
  refine xg1 (fun (m1:Nat)=>m1=(n+a / 65536 ^ i%65536)) (fun (m1:Nat)=>upd (upd (upd (upd (upd (fun _=>none) 0 (some (.val (tM a)))) 1 (some (.val (tM b)))) 5 (some (.own (.sl 5 1 0 cs.length)))) 7 (some (.val (tI i)))) 6 (some (.val (tI m1)))) (fun (m1:Nat)=>upd (fun _=>none) 5 (some (⟨100,1,false,rW .u16 cs⟩))) (nm [5]) ?_ ?_
  ·
   refine A8 ?_
   refine x7 rfl (fun h36=> ?_) (fun h36=> ?_)
   ·
    refine A4 ?_
    refine R2 (x6 sl22 (i) (by omega) (gN (by omega))) rfl rfl ?_
    refine A1 ?_
    refine R1 (x5 Tryz.underlying3 (isS Tryz.underlying100) (wr64 (by omega) (by omega))) rfl (R2 (xe2 (r:=((n+(dig 65536 a).getD i 0:Nat):Int)) (by rw [wr64 (by omega) (by omega)];omega)) rfl rfl ?_)
    refine A2 ?_
    exact kF (n+(dig 65536 a).getD i 0) (by rw [xa]) (hh:=((SubK.consI rfl ImpK.refl) SubK.nil))
   ·
    refine A1 ?_
    exact kF (n) (by rw [xk9 x9 (by omega),Nat.add_zero]) (hh:=((SubK.consI rfl ImpK.refl) SubK.nil))
  ·
   intro m1 hm1
   refine xg1 (fun (m2:Nat)=>m2=(m1+b / 65536 ^ i%65536)) (fun (m2:Nat)=>upd (upd (upd (upd (upd (fun _=>none) 0 (some (.val (tM a)))) 1 (some (.val (tM b)))) 5 (some (.own (.sl 5 1 0 cs.length)))) 7 (some (.val (tI i)))) 6 (some (.val (tI m2)))) (fun (m2:Nat)=>upd (fun _=>none) 5 (some (⟨100,1,false,rW .u16 cs⟩))) (nm [5]) ?_ ?_
   ·
    refine A8 ?_
    refine x7 rfl (fun h39=> ?_) (fun h39=> ?_)
    ·
     refine A4 ?_
     refine R2 (x6 sl22 (i) (by omega) (gN (by omega))) rfl rfl ?_
     refine A1 ?_
     refine R1 (x5 Tryz.underlying3 (isS Tryz.underlying100) (wr64 (by omega) (by omega))) rfl (R2 (xe2 (r:=((m1+(dig 65536 b).getD i 0:Nat):Int)) (by rw [wr64 (by omega) (by omega)];omega)) rfl rfl ?_)
     refine A2 ?_
     exact kF (m1+(dig 65536 b).getD i 0) (by rw [xb]) (hh:=((SubK.consI rfl ImpK.refl) SubK.nil))
    ·
     refine A1 ?_
     exact kF (m1) (by rw [xk9 x9 (by omega),Nat.add_zero]) (hh:=((SubK.consI rfl ImpK.refl) SubK.nil))
   ·
    intro m2 hm2
    refine A4 ?_
    refine R2 (d_rem (r:=((m2%65536:Nat):Int)) (by decide) (wrem64 (b:=65536))) rfl rfl (R1 (x5 Tryz.underlying100 (isS Tryz.underlying3) (wu16 (by omega) (by omega))) rfl (R1 (xm5 (n:=1) [m2%65536] Tryz.underlying22 el100 zf100 rfl rfl rfl) rfl (RE (xb2 (k:=5) (k':=51) (ts':=rW .u16 (cs++[m2%65536])) Tryz.underlying22 el100 zf100 rfl rfl (fun _=>inferInstance) rW_len (by simp;omega) (by simp;omega) (by simp [rW]) (n':=cs.length+1) rfl) ⟨rfl,rfl,trivial⟩ ⟨rfl,trivial⟩ ⟨rfl,trivial⟩ ?_)))
    refine A5 ?_
    refine R2 (d_quo (r:=((m2 / 65536:Nat):Int)) (by decide) (iquo64 (b:=65536) (by omega))) rfl rfl ?_
    refine A9 ?_
    obtain ⟨n1,n2⟩:=rplus_in (s:=m2) hn (by rw [hm2,hm1])
    exact xf2 (l:=[5]) (fun j=>cond (Nat.beq j 5) 51 (j)) ((i+1,m2 / 65536,cs++[m2%65536])) ⟨(by dsimp only;exact ⟨hmore,n2,by rw [hcs];exact n1⟩),(by dsimp only;omega)⟩ (SubR.int rfl (by first | omega | rfl | (dsimp only;omega)) (SubR.int rfl (by first | omega | rfl | (dsimp only;omega)) ((SubR.consI rfl (Imp.of (by dsimp only;rw [List.length_append];rfl))) (SubR.cons rfl (SubR.cons rfl SubR.nil))))) ((SubKR.consI rfl (ImpK.of xk5.symm)) SubKR.nil) (SupG.val (SupG.val (SupG.own rfl (SupG.val (SupG.val SupG.nil))))) (SupH.cons rfl (supJ xe8) SupH.nil) (lkOk rfl) rfl rfl (fun _ h=>by cases h)
 ·
  refine A6 ?_
  refine RGcaseD (t:=18) rfl (fun h35_2=> ?_) (fun h35_2=> ?_)
  ·
   have hmore:=rplus_more hn (.inr (.inl (by omega)))
   refine A10 ?_
   refine xg1 (fun (m1:Nat)=>m1=(n+a / 65536 ^ i%65536)) (fun (m1:Nat)=>upd (upd (upd (upd (upd (fun _=>none) 0 (some (.val (tM a)))) 1 (some (.val (tM b)))) 5 (some (.own (.sl 5 1 0 cs.length)))) 7 (some (.val (tI i)))) 6 (some (.val (tI m1)))) (fun (m1:Nat)=>upd (fun _=>none) 5 (some (⟨100,1,false,rW .u16 cs⟩))) (nm [5]) ?_ ?_
   ·
    refine A8 ?_
    refine x7 rfl (fun h36=> ?_) (fun h36=> ?_)
    ·
     refine A4 ?_
     refine R2 (x6 sl22 (i) (by omega) (gN (by omega))) rfl rfl ?_
     refine A1 ?_
     refine R1 (x5 Tryz.underlying3 (isS Tryz.underlying100) (wr64 (by omega) (by omega))) rfl (R2 (xe2 (r:=((n+(dig 65536 a).getD i 0:Nat):Int)) (by rw [wr64 (by omega) (by omega)];omega)) rfl rfl ?_)
     refine A2 ?_
     exact kF (n+(dig 65536 a).getD i 0) (by rw [xa]) (hh:=((SubK.consI rfl ImpK.refl) SubK.nil))
    ·
     refine A1 ?_
     exact kF (n) (by rw [xk9 x9 (by omega),Nat.add_zero]) (hh:=((SubK.consI rfl ImpK.refl) SubK.nil))
   ·
    intro m1 hm1
    refine xg1 (fun (m2:Nat)=>m2=(m1+b / 65536 ^ i%65536)) (fun (m2:Nat)=>upd (upd (upd (upd (upd (fun _=>none) 0 (some (.val (tM a)))) 1 (some (.val (tM b)))) 5 (some (.own (.sl 5 1 0 cs.length)))) 7 (some (.val (tI i)))) 6 (some (.val (tI m2)))) (fun (m2:Nat)=>upd (fun _=>none) 5 (some (⟨100,1,false,rW .u16 cs⟩))) (nm [5]) ?_ ?_
    ·
     refine A8 ?_
     refine x7 rfl (fun h39=> ?_) (fun h39=> ?_)
     ·
      refine A4 ?_
      refine R2 (x6 sl22 (i) (by omega) (gN (by omega))) rfl rfl ?_
      refine A1 ?_
      refine R1 (x5 Tryz.underlying3 (isS Tryz.underlying100) (wr64 (by omega) (by omega))) rfl (R2 (xe2 (r:=((m1+(dig 65536 b).getD i 0:Nat):Int)) (by rw [wr64 (by omega) (by omega)];omega)) rfl rfl ?_)
      refine A2 ?_
      exact kF (m1+(dig 65536 b).getD i 0) (by rw [xb]) (hh:=((SubK.consI rfl ImpK.refl) SubK.nil))
     ·
      refine A1 ?_
      exact kF (m1) (by rw [xk9 x9 (by omega),Nat.add_zero]) (hh:=((SubK.consI rfl ImpK.refl) SubK.nil))
    ·
     intro m2 hm2
     refine A4 ?_
     refine R2 (d_rem (r:=((m2%65536:Nat):Int)) (by decide) (wrem64 (b:=65536))) rfl rfl (R1 (x5 Tryz.underlying100 (isS Tryz.underlying3) (wu16 (by omega) (by omega))) rfl (R1 (xm5 (n:=1) [m2%65536] Tryz.underlying22 el100 zf100 rfl rfl rfl) rfl (RE (xb2 (k:=5) (k':=51) (ts':=rW .u16 (cs++[m2%65536])) Tryz.underlying22 el100 zf100 rfl rfl (fun _=>inferInstance) rW_len (by simp;omega) (by simp;omega) (by simp [rW]) (n':=cs.length+1) rfl) ⟨rfl,rfl,trivial⟩ ⟨rfl,trivial⟩ ⟨rfl,trivial⟩ ?_)))
     refine A5 ?_
     refine R2 (d_quo (r:=((m2 / 65536:Nat):Int)) (by decide) (iquo64 (b:=65536) (by omega))) rfl rfl ?_
     refine A9 ?_
     obtain ⟨n1,n2⟩:=rplus_in (s:=m2) hn (by rw [hm2,hm1])
     exact xf2 (l:=[5]) (fun j=>cond (Nat.beq j 5) 51 (j)) ((i+1,m2 / 65536,cs++[m2%65536])) ⟨(by dsimp only;exact ⟨hmore,n2,by rw [hcs];exact n1⟩),(by dsimp only;omega)⟩ (SubR.int rfl (by first | omega | rfl | (dsimp only;omega)) (SubR.int rfl (by first | omega | rfl | (dsimp only;omega)) ((SubR.consI rfl (Imp.of (by dsimp only;rw [List.length_append];rfl))) (SubR.cons rfl (SubR.cons rfl SubR.nil))))) ((SubKR.consI rfl (ImpK.of xk5.symm)) SubKR.nil) (SupG.val (SupG.val (SupG.own rfl (SupG.val (SupG.val SupG.nil))))) (SupH.cons rfl (supJ xe8) SupH.nil) (lkOk rfl) rfl rfl (fun _ h=>by cases h)
  ·
   refine A5 ?_
   refine x7 rfl (fun h35_3=> ?_) (fun h35_3=> ?_)
   ·
    have hmore:=rplus_more hn (.inr (.inr (by omega)))
    refine A4 ?_
    refine xg1 (fun (m1:Nat)=>m1=(n+a / 65536 ^ i%65536)) (fun (m1:Nat)=>upd (upd (upd (upd (upd (fun _=>none) 0 (some (.val (tM a)))) 1 (some (.val (tM b)))) 5 (some (.own (.sl 5 1 0 cs.length)))) 7 (some (.val (tI i)))) 6 (some (.val (tI m1)))) (fun (m1:Nat)=>upd (fun _=>none) 5 (some (⟨100,1,false,rW .u16 cs⟩))) (nm [5]) ?_ ?_
    ·
     refine A8 ?_
     refine x7 rfl (fun h36=> ?_) (fun h36=> ?_)
     ·
      refine A4 ?_
      refine R2 (x6 sl22 (i) (by omega) (gN (by omega))) rfl rfl ?_
      refine A1 ?_
      refine R1 (x5 Tryz.underlying3 (isS Tryz.underlying100) (wr64 (by omega) (by omega))) rfl (R2 (xe2 (r:=((n+(dig 65536 a).getD i 0:Nat):Int)) (by rw [wr64 (by omega) (by omega)];omega)) rfl rfl ?_)
      refine A2 ?_
      exact kF (n+(dig 65536 a).getD i 0) (by rw [xa]) (hh:=((SubK.consI rfl ImpK.refl) SubK.nil))
     ·
      refine A1 ?_
      exact kF (n) (by rw [xk9 x9 (by omega),Nat.add_zero]) (hh:=((SubK.consI rfl ImpK.refl) SubK.nil))
    ·
     intro m1 hm1
     refine xg1 (fun (m2:Nat)=>m2=(m1+b / 65536 ^ i%65536)) (fun (m2:Nat)=>upd (upd (upd (upd (upd (fun _=>none) 0 (some (.val (tM a)))) 1 (some (.val (tM b)))) 5 (some (.own (.sl 5 1 0 cs.length)))) 7 (some (.val (tI i)))) 6 (some (.val (tI m2)))) (fun (m2:Nat)=>upd (fun _=>none) 5 (some (⟨100,1,false,rW .u16 cs⟩))) (nm [5]) ?_ ?_
     ·
      refine A8 ?_
      refine x7 rfl (fun h39=> ?_) (fun h39=> ?_)
      ·
       refine A4 ?_
       refine R2 (x6 sl22 (i) (by omega) (gN (by omega))) rfl rfl ?_
       refine A1 ?_
       refine R1 (x5 Tryz.underlying3 (isS Tryz.underlying100) (wr64 (by omega) (by omega))) rfl (R2 (xe2 (r:=((m1+(dig 65536 b).getD i 0:Nat):Int)) (by rw [wr64 (by omega) (by omega)];omega)) rfl rfl ?_)
       refine A2 ?_
       exact kF (m1+(dig 65536 b).getD i 0) (by rw [xb]) (hh:=((SubK.consI rfl ImpK.refl) SubK.nil))
      ·
       refine A1 ?_
       exact kF (m1) (by rw [xk9 x9 (by omega),Nat.add_zero]) (hh:=((SubK.consI rfl ImpK.refl) SubK.nil))
     ·
      intro m2 hm2
      refine A4 ?_
      refine R2 (d_rem (r:=((m2%65536:Nat):Int)) (by decide) (wrem64 (b:=65536))) rfl rfl (R1 (x5 Tryz.underlying100 (isS Tryz.underlying3) (wu16 (by omega) (by omega))) rfl (R1 (xm5 (n:=1) [m2%65536] Tryz.underlying22 el100 zf100 rfl rfl rfl) rfl (RE (xb2 (k:=5) (k':=51) (ts':=rW .u16 (cs++[m2%65536])) Tryz.underlying22 el100 zf100 rfl rfl (fun _=>inferInstance) rW_len (by simp;omega) (by simp;omega) (by simp [rW]) (n':=cs.length+1) rfl) ⟨rfl,rfl,trivial⟩ ⟨rfl,trivial⟩ ⟨rfl,trivial⟩ ?_)))
      refine A5 ?_
      refine R2 (d_quo (r:=((m2 / 65536:Nat):Int)) (by decide) (iquo64 (b:=65536) (by omega))) rfl rfl ?_
      refine A9 ?_
      obtain ⟨n1,n2⟩:=rplus_in (s:=m2) hn (by rw [hm2,hm1])
      exact xf2 (l:=[5]) (fun j=>cond (Nat.beq j 5) 51 (j)) ((i+1,m2 / 65536,cs++[m2%65536])) ⟨(by dsimp only;exact ⟨hmore,n2,by rw [hcs];exact n1⟩),(by dsimp only;omega)⟩ (SubR.int rfl (by first | omega | rfl | (dsimp only;omega)) (SubR.int rfl (by first | omega | rfl | (dsimp only;omega)) ((SubR.consI rfl (Imp.of (by dsimp only;rw [List.length_append];rfl))) (SubR.cons rfl (SubR.cons rfl SubR.nil))))) ((SubKR.consI rfl (ImpK.of xk5.symm)) SubKR.nil) (SupG.val (SupG.val (SupG.own rfl (SupG.val (SupG.val SupG.nil))))) (SupH.cons rfl (supJ xe8) SupH.nil) (lkOk rfl) rfl rfl (fun _ h=>by cases h)
   ·
    refine A7 ?_
    refine RE (xj1 (f:=fun n:Nat=>tE (.int .u16 n)) (xs:=cs) (fun _ h=>h) (xi5 rfl) rfl) ⟨rfl,trivial⟩ ⟨rfl,trivial⟩ trivial ?_
    refine A4 ?_
    exact x3 Plain.mk' rfl rfl (Le.of (congrArg tLm (by rw [hcs,rplus_end hn (by omega) (by omega) (by omega) hi])))
theorem c_RMinus (a b:Nat) (hab:b≤a) (ha:(dig 65536 a).length≤100000):
  Ct Tryz.prog 123 [tM a,tM b] (tM (a - b)):=by
 refine Ct.intro Tryz.func123 rfl Tryz.ntmps123 rfl ?_
 intro w F
 refine A7 ?_
 refine RE (xf9 (k:=5) 100 1 false rfl (fun _=>rfl)) trivial trivial ⟨rfl,trivial⟩ ?_
 refine A14 ?_
 refine cL (fun (fm:(Nat)×(Nat)×(List Nat))=>(fun (i:Nat) (br:Nat) (cs:List Nat)=>i≤(dig 65536 a).length∧cs.length=i∧Dig 65536 cs∧val 65536 cs+b%65536 ^ i=a%65536 ^ i+br*65536 ^ i∧br≤1) fm.1 fm.2.1 fm.2.2) (fun (fm:(Nat)×(Nat)×(List Nat))=>(fun (i:Nat) (br:Nat) (cs:List Nat)=>upd (upd (upd (upd (upd (fun _=>none) 0 (some (.val (tM a)))) 1 (some (.val (tM b)))) 5 (some (.own (.sl 5 1 0 cs.length)))) 6 (some (.val (tI br)))) 7 (some (.val (tI i)))) fm.1 fm.2.1 fm.2.2) (fun (fm:(Nat)×(Nat)×(List Nat))=>(fun (i:Nat) (br:Nat) (cs:List Nat)=>upd (fun _=>none) 5 (some (⟨100,1,false,rW .u16 cs⟩))) fm.1 fm.2.1 fm.2.2) [5] (fun (fm:(Nat)×(Nat)×(List Nat))=>(fun (i:Nat) (br:Nat) (cs:List Nat)=>(dig 65536 a).length - i) fm.1 fm.2.1 fm.2.2) ((0,0,[])) (by dsimp only;exact ⟨Nat.zero_le _,rfl,Dig.nil _,by simp [val,Nat.mod_one],by omega⟩) (hh:=((SubK.consI rfl ImpK.refl) SubK.nil)) ?_
 intro fm hI
 obtain ⟨i,br,cs⟩:=fm
 replace hI:i≤(dig 65536 a).length∧cs.length=i∧Dig 65536 cs∧val 65536 cs+b%65536 ^ i=a%65536 ^ i+br*65536 ^ i∧br≤1:=hI
 show wc _ _ _ _ (upd (upd (upd (upd (upd (fun _=>none) 0 (some (.val (tM a)))) 1 (some (.val (tM b)))) 5 (some (.own (.sl 5 1 0 cs.length)))) 6 (some (.val (tI br)))) 7 (some (.val (tI i)))) (upd (fun _=>none) 5 (some (⟨100,1,false,rW .u16 cs⟩))) _
 obtain ⟨hi,hl,hD,hv,hbr⟩:=hI
 have xa:=xb9 x9 a i
 have xb:=xb9 x9 b i
 have xa1:=(xc5 x9 a).getD (by decide) i
 have xb1:=(xc5 x9 b).getD (by decide) i
 refine A9 ?_
 refine x7 rfl (fun h52=> ?_) (fun h52=> ?_)
 ·
  refine A8 ?_
  refine R2 (x6 sl22 (i) (by omega) (gN (by omega))) rfl rfl ?_
  refine A1 ?_
  refine R1 (x5 Tryz.underlying3 (isS Tryz.underlying100) (wr64 (by omega) (by omega))) rfl (R2 (xe2 (r:=((65536+((dig 65536 a).getD i 0):Nat):Int)) (by rw [wr64 (by omega) (by omega)];omega)) rfl rfl ?_)
  refine A1 ?_
  refine R2 (xe1 (r:=((65536+((dig 65536 a).getD i 0) - br:Nat):Int)) (by rw [wr64 (by omega) (by omega)];omega)) rfl rfl ?_
  refine A3 ?_
  refine xg1 (fun (m:Nat)=>m+br+b / 65536 ^ i%65536=65536+a / 65536 ^ i%65536) (fun (m:Nat)=>upd (upd (upd (upd (upd (upd (fun _=>none) 0 (some (.val (tM a)))) 1 (some (.val (tM b)))) 5 (some (.own (.sl 5 1 0 cs.length)))) 6 (some (.val (tI br)))) 7 (some (.val (tI i)))) 8 (some (.val (tI m)))) (fun (m:Nat)=>upd (fun _=>none) 5 (some (⟨100,1,false,rW .u16 cs⟩))) (nm [5]) ?_ ?_
  ·
   refine A8 ?_
   refine x7 rfl (fun h54=> ?_) (fun h54=> ?_)
   ·
    refine A4 ?_
    refine R2 (x6 sl22 (i) (by omega) (gN (by omega))) rfl rfl ?_
    refine A1 ?_
    refine R1 (x5 Tryz.underlying3 (isS Tryz.underlying100) (wr64 (by omega) (by omega))) rfl (R2 (xe1 (r:=((65536+((dig 65536 a).getD i 0) - br - ((dig 65536 b).getD i 0):Nat):Int)) (by rw [wr64 (by omega) (by omega)];omega)) rfl rfl ?_)
    refine A2 ?_
    exact kF (65536+((dig 65536 a).getD i 0) - br - ((dig 65536 b).getD i 0)) (by omega) (hh:=((SubK.consI rfl ImpK.refl) SubK.nil))
   ·
    refine A1 ?_
    exact kF (65536+((dig 65536 a).getD i 0) - br) (by rw [xk9 x9 (v:=b) (i:=i) (by omega)];omega) (hh:=((SubK.consI rfl ImpK.refl) SubK.nil))
  ·
   intro m hm
   refine A4 ?_
   refine R2 (d_rem (r:=((m%65536:Nat):Int)) (by decide) (wrem64 (b:=65536))) rfl rfl (R1 (x5 Tryz.underlying100 (isS Tryz.underlying3) (wu16 (by omega) (by omega))) rfl (R1 (xm5 (n:=1) [m%65536] Tryz.underlying22 el100 zf100 rfl rfl rfl) rfl (RE (xb2 (k:=5) (k':=39) (ts':=rW .u16 (cs++[m%65536])) Tryz.underlying22 el100 zf100 rfl rfl (fun _=>inferInstance) rW_len (by simp;omega) (by simp;omega) (by simp [rW]) (n':=cs.length+1) rfl) ⟨rfl,rfl,trivial⟩ ⟨rfl,trivial⟩ ⟨rfl,trivial⟩ ?_)))
   refine A5 ?_
   refine R2 (d_quo (r:=((m / 65536:Nat):Int)) (by decide) (iquo64 (b:=65536) (by omega))) rfl rfl (R2 (xe1 (r:=((1 - m / 65536:Nat):Int)) (by rw [wr64 (by omega) (by omega)];omega)) rfl rfl ?_)
   refine A9 ?_
   obtain ⟨n1,n2,n3⟩:=rminus_in hl hv hbr hm
   exact xf2 (l:=[5]) (fun j=>cond (Nat.beq j 5) 39 (j)) ((i+1,1 - m / 65536,cs++[m%65536])) ⟨(by dsimp only;exact ⟨by omega,by rw [List.length_append,hl];rfl,hD.append (Dig.cons (Nat.mod_lt _ (by decide)) (Dig.nil _)),n1,n3⟩),(by dsimp only;omega)⟩ (SubR.int rfl (by first | omega | rfl | (dsimp only;omega)) (SubR.int rfl (by first | omega | rfl | (dsimp only;omega)) ((SubR.consI rfl (Imp.of (by dsimp only;rw [List.length_append];rfl))) (SubR.cons rfl (SubR.cons rfl SubR.nil))))) ((SubKR.consI rfl (ImpK.of xk5.symm)) SubKR.nil) (SupG.val (SupG.val (SupG.own rfl (SupG.val (SupG.val SupG.nil))))) (SupH.cons rfl (supJ xe8) SupH.nil) (lkOk rfl) rfl rfl (fun _ h=>by cases h)
 ·
  refine A7 ?_
  refine RE (xj1 (f:=fun n:Nat=>tE (.int .u16 n)) (xs:=cs) (fun _ h=>h) (xi5 rfl) rfl) ⟨rfl,trivial⟩ ⟨rfl,trivial⟩ trivial (R1 (x4 (c_RTrim _) fi146 rfl) rfl ?_)
  refine A4 ?_
  exact x3 Plain.mk' rfl rfl (Le.of (congrArg tLm (by rw [show i=(dig 65536 a).length by omega] at hv hl;exact rminus_end hl hD (xg9 x9 a) hab hv)))
theorem c_RHalf (a:Nat) (ha:(dig 65536 a).length≤200000):
  Ct Tryz.prog 122 [tM a] (tM (a / 2)):=by
 refine Ct.intro Tryz.func122 rfl Tryz.ntmps122 rfl ?_
 intro w F
 refine A9 ?_
 refine RE (xh7 (k:=8) (t:=tE (.int .u16 0)) (ts:=rW .u16 (List.replicate ((dig 65536 a).length) 0)) ((dig 65536 a).length) ((dig 65536 a).length) Tryz.underlying22 el100 (fun _ _=>rfl) rfl (by omega) (by omega) (Nat.le_refl _) (by omega) (by omega) (rW_rep _)) ⟨rfl,rfl,trivial⟩ trivial ⟨rfl,trivial⟩ ?_
 refine A18 ?_
 refine cL (fun (fm:(Nat)×(Nat)×(List Nat))=>(fun (k:Nat) (n:Nat) (qs:List Nat)=>k≤(dig 65536 a).length∧qs.length=(dig 65536 a).length∧Dig 65536 qs∧n%2=a / 65536 ^ k%2∧val 65536 (qs.drop k)=a / 65536 ^ k / 2) fm.1 fm.2.1 fm.2.2) (fun (fm:(Nat)×(Nat)×(List Nat))=>(fun (k:Nat) (n:Nat) (qs:List Nat)=>upd (upd (upd (upd (fun _=>none) 0 (some (.val (tM a)))) 3 (some (.own (.sl 8 1 0 (dig 65536 a).length)))) 4 (some (.val (tI n)))) 5 (some (.val (tI ((k:Int) - 1))))) fm.1 fm.2.1 fm.2.2) (fun (fm:(Nat)×(Nat)×(List Nat))=>(fun (k:Nat) (n:Nat) (qs:List Nat)=>upd (fun _=>none) 8 (some (⟨100,1,false,rW .u16 qs⟩))) fm.1 fm.2.1 fm.2.2) [8] (fun (fm:(Nat)×(Nat)×(List Nat))=>(fun (k:Nat) (n:Nat) (qs:List Nat)=>k) fm.1 fm.2.1 fm.2.2) (((dig 65536 a).length,0,List.replicate (dig 65536 a).length 0)) (by dsimp only;exact ⟨Nat.le_refl _,by simp,Dig.rep (by decide) _,by rw [Nat.div_eq_of_lt (xg9 x9 a)],by rw [Nat.div_eq_of_lt (xg9 x9 a),Nat.zero_div,List.drop_replicate,xf8]⟩) (hh:=((SubK.consI rfl ImpK.refl) SubK.nil)) ?_
 intro fm hI
 obtain ⟨k,n,qs⟩:=fm
 replace hI:k≤(dig 65536 a).length∧qs.length=(dig 65536 a).length∧Dig 65536 qs∧n%2=a / 65536 ^ k%2∧val 65536 (qs.drop k)=a / 65536 ^ k / 2:=hI
 show wc _ _ _ _ (upd (upd (upd (upd (fun _=>none) 0 (some (.val (tM a)))) 3 (some (.own (.sl 8 1 0 (dig 65536 a).length)))) 4 (some (.val (tI n)))) 5 (some (.val (tI ((k:Int) - 1))))) (upd (fun _=>none) 8 (some (⟨100,1,false,rW .u16 qs⟩))) _
 obtain ⟨hk,hl,hD,hn,hv⟩:=hI
 refine A7 ?_
 refine x7 rfl (fun h82=> ?_) (fun h82=> ?_)
 ·
  obtain ⟨j,rfl⟩: ∃j,k=j+1:=⟨k - 1,by omega⟩
  have hx:=xb9 x9 a j
  have hx1:=(xc5 x9 a).getD (by decide) j
  obtain ⟨n1,n2,n3,n4,n5⟩:=half_in (k:=j) (by omega) hl hD hn hv rfl
  rw [←hx] at n1 n2 n3 n4 n5
  refine A7 ?_
  refine R2 (d_rem (r:=((n%2:Nat):Int)) (by decide) (wrem64 (b:=2))) rfl rfl (R2 (xg5 (r:=((n%2*65536:Nat):Int)) (by rw [wr64 (by omega) (by omega)];omega)) rfl rfl ?_)
  refine A2 ?_
  refine R2 (x6 sl22 (j) (by omega) (gN (by omega))) rfl rfl ?_
  refine A1 ?_
  refine R1 (x5 Tryz.underlying3 (isS Tryz.underlying100) (wr64 (by omega) (by omega))) rfl (R2 (xe2 (r:=(((n%2*65536+(dig 65536 a).getD j 0):Nat):Int)) (by rw [wr64 (by omega) (by omega)];omega)) rfl rfl ?_)
  refine A7 ?_
  refine R2 (d_quo (r:=(((n%2*65536+(dig 65536 a).getD j 0) / 2:Nat):Int)) (by decide) (iquo64 (b:=2) (by omega))) rfl rfl (R1 (x5 Tryz.underlying100 (isS Tryz.underlying3) (wu16 (by omega) (by omega))) rfl (R2 (xa3 sl22 (by omega) (by omega) rfl) rfl rfl (RE (xb8 (j) ti100 (rW_lt (by omega)) (by omega) (xj5 (m:=_) rfl)) ⟨rfl,rfl,trivial⟩ ⟨rfl,trivial⟩ trivial ?_)))
  refine A8 ?_
  exact kF ((j,(n%2*65536+(dig 65536 a).getD j 0),qs.set j ((n%2*65536+(dig 65536 a).getD j 0) / 2))) ⟨(by dsimp only;exact ⟨by omega,n1,n2,n3,n4⟩),(by dsimp only;omega)⟩ (hh:=((SubK.consI rfl ImpK.refl) SubK.nil))
 ·
  have hk0:k=0:=by omega
  subst hk0
  rw [List.drop_zero,Nat.pow_zero,Nat.div_one] at hv
  refine A7 ?_
  refine RE (xj1 (f:=fun n:Nat=>tE (.int .u16 n)) (xs:=qs) (fun _ h=>h) (xi5 hl) hl) ⟨rfl,trivial⟩ ⟨rfl,trivial⟩ trivial (R1 (x4 (c_RTrim _) fi146 rfl) rfl ?_)
  refine A4 ?_
  exact x3 Plain.mk' rfl rfl (Le.of (congrArg tLm (by rw [xe5 x9 hD,hv])))
end An.S
