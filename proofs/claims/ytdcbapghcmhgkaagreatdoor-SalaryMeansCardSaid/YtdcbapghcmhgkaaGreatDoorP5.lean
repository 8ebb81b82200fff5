/- Part 5 of a proof: Q3, Q4, Q5, Q6, Q7, Q8, R5b, Sal2, R1, Y3, LibN2, LibAt, R2. -/
import Derived.Test.YtdcbapghcmhgkaaGreatDoorP4
set_option maxHeartbeats 2000000
set_option maxRecDepth 100000
namespace An.S
open Go Go.Proofs An
instance ti22:TyI Tryz.prog 22 1 false:=⟨by kernel_rfl,by kernel_rfl⟩
instance ti64:TyI Tryz.prog 64 1 false:=⟨by kernel_rfl,by kernel_rfl⟩
instance fi19:FnI Tryz.prog 19:=⟨_,Tryz.func19,by kernel_rfl,rfl⟩
instance fi34:FnI Tryz.prog 34:=⟨_,Tryz.func34,by kernel_rfl,rfl⟩
instance fi35:FnI Tryz.prog 35:=⟨_,Tryz.func35,by kernel_rfl,rfl⟩
instance fi36:FnI Tryz.prog 36:=⟨_,Tryz.func36,by kernel_rfl,rfl⟩
instance fi37:FnI Tryz.prog 37:=⟨_,Tryz.func37,by kernel_rfl,rfl⟩
instance fi56:FnI Tryz.prog 56:=⟨_,Tryz.func56,by kernel_rfl,rfl⟩
instance fi57:FnI Tryz.prog 57:=⟨_,Tryz.func57,by kernel_rfl,rfl⟩
instance fi59:FnI Tryz.prog 59:=⟨_,Tryz.func59,by kernel_rfl,rfl⟩
instance fi60:FnI Tryz.prog 60:=⟨_,Tryz.func60,by kernel_rfl,rfl⟩
instance fi61:FnI Tryz.prog 61:=⟨_,Tryz.func61,by kernel_rfl,rfl⟩
instance fi62:FnI Tryz.prog 62:=⟨_,Tryz.func62,by kernel_rfl,rfl⟩
section
variable {K:Nat} {D B:Int} {l a b:List Tst}
theorem c_CoversG (h:isG K D B l) (hl:l.length≤200000):Ct Tryz.prog 36 [tL 8 true tTs l] (tL 2 true tSn (cvT l)):=by
 have:=c_Covers l hl h.dig
 rw [if_pos h.1] at this;exact this
theorem c_SumA (x y:Int) (hn:nOk D B) (h:isG 3 D B l) (hl:l.length≤200000) (hx:0≤x) (hxy:x < y) (hy:y≤65536):Ct Tryz.prog 61 [tL 8 true tTs (subA l x y),tI x,tI y] (tT [tFr (fr (Rat.divInt (gS (wt D) l x y) D)),tI 0]):=by
 have ok:Sn.ok ⟨x,y⟩=true:=by simp [Sn.ok];omega
 have hs:(subA l x y).length≤200000:=by rw [subA,List.length_drop,List.length_take];omega
 have h2:=(h.sub (a:=x) (b:=y)).sum (.inr rfl) hn.1.1 (by have:=hn.1.2;omega) hn.2.1 hn.2.2 ok
 have:=c_TSum (subA l x y) x y (by omega) (h.sub (a:=x) (b:=y)).dig
 rw [if_pos h2.1,if_pos h2.1,h2.2,gS_sub h.asc hxy] at this;exact this
theorem c_DivA (x y:Int) (hn:nOk D B) (h:isG 3 D B l) (hx:0≤x) (hxy:x < y) (hy:y≤65536):Ct Tryz.prog 62 [tFr (fr (Rat.divInt (gS (wt D) l x y) D)),tFr (fr ((y - x:Int):Rat))] (tT [tFr (fr (avQ D l x y)),tI 0]):=by
 have h1:=gS_in hn h hx (Int.le_of_lt hxy) hy
 have s1:short (Rat.divInt (gS (wt D) l x y) D):=xp2 hn.1.1 h1.1 h1.2 (by have:=hn.1.2;omega)
 have s2:short ((y - x:Int):Rat):=by rw [int_div];exact xp2 (by decide) (by omega) (by omega) (by decide)
 have h3:=c_FDiv (Rat.divInt (gS (wt D) l x y) D) ((y - x:Int):Rat) s1 s2 (fun h0=>absurd (show y - x=0 by exact_mod_cast h0) (by omega))
 have s3:=short_av (a:=x) (b:=y) hn h hx hxy hy
 rw [div_int,←avQ,resF,resFE,if_pos s3,if_pos s3] at h3;exact h3
end
def payR (l:List Tst):Bool:=tRight l && (decide (l.length=0) || decide ((l.getD 0 tst0).v.kind=3))
def askP (l:List Tst) (a b:Int):Bool:=payR l && decide (0≤a) && decide (a≤65536) && decide (0≤b) && decide (b≤65536)
theorem xo1 {l:List Tst} {a b:Int}:askP l a b=true↔payR l=true∧(0≤a∧a≤65536)∧0≤b∧b≤65536:=by
 simp [askP,and_assoc]
def avR (D:Int) (l:List Tst) (a b:Int):Fr×Int:=if askP l a b=true then (if a < b∧nD l a b=b - a then (fr (avQ D l a b),0) else (fr0,6)) else (fr0,2)
theorem c_PRight (l:List Tst) (hD: ∀s∈l,s.v.f.dig):
  Ct Tryz.prog 19 [tL 8 true tTs l] (tB (payR l)):=by
 refine Ct.intro Tryz.func19 rfl Tryz.ntmps19 rfl ?_
 intro w F
 refine xi0 (s:=0) rfl (fun hl0=> ?_)
 refine A8 ?_
 refine R1 (x3 (c_TRight l hD) fi42 rfl) rfl ?_
 refine A1 ?_
 refine RGcase (t:=5) rfl (fun h16=> ?_) (fun h16=> ?_)
 ·
  refine A4 ?_
  refine RGcaseD (t:=9) rfl (fun h16_2=> ?_) (fun h16_2=> ?_)
  ·
   refine A6 ?_
   refine RGon h16 rfl (xh4 (decide_eq_true h16_2)) rfl ⟨rfl,rfl,trivial⟩ trivial trivial ?_
   refine A5 ?_
   exact x4 Plain.mk' rfl rfl (Le.bool (by rw [payR,h16,decide_eq_true (show l.length=0 by omega)];rfl))
  ·
   refine A1 ?_
   refine RGon (decide_eq_false h16_2) rfl (x6 sl22 (0) (by omega) (gD (l:=l) (n:=0) (d:=tst0) (by omega))) rfl ⟨rfl,rfl,trivial⟩ trivial trivial (RGon (decide_eq_false h16_2) rfl (xa7 fo38_2.h (At.f 2 rfl rfl) rfl) rfl ⟨rfl,trivial⟩ trivial trivial (RGon (decide_eq_false h16_2) rfl (xa7 fo36_0.h (At.f 0 rfl rfl) rfl) rfl ⟨rfl,trivial⟩ trivial trivial ?_))
   refine A2 ?_
   refine RGon h16 rfl (xd7 (decide_eq_false h16_2)) rfl ⟨rfl,rfl,trivial⟩ trivial trivial ?_
   refine A5 ?_
   exact x4 Plain.mk' rfl rfl (Le.bool (by rw [payR,h16,decide_eq_false (show ¬l.length=0 by omega)];simp;omega))
 ·
  refine A16 ?_
  exact x4 Plain.mk' rfl rfl (Le.bool (by rw [payR,h16];rfl))
theorem c_isAsked (l:List Tst) (a b:Int) (hD: ∀s∈l,s.v.f.dig):
  Ct Tryz.prog 34 [tL 8 true tTs l,tI a,tI b] (tB (askP l a b)):=by
 refine Ct.intro Tryz.func34 rfl Tryz.ntmps34 rfl ?_
 intro w F
 refine A8 ?_
 refine R1 (x3 (c_PRight l hD) fi19 rfl) rfl ?_
 refine A1 ?_
 refine RGcase (t:=9) rfl (fun h21=> ?_) (fun h21=> ?_)
 ·
  refine A4 ?_
  refine RGcaseD (t:=13) rfl (fun h21_2=> ?_) (fun h21_2=> ?_)
  ·
   refine A4 ?_
   refine RGcaseD (t:=17) rfl (fun h21_3=> ?_) (fun h21_3=> ?_)
   ·
    refine A4 ?_
    refine RGcaseD (t:=21) rfl (fun h21_4=> ?_) (fun h21_4=> ?_)
    ·
     refine A7 ?_
     exact x4 Plain.mk' rfl rfl (Le.bool (by simp [askP, *]))
    ·
     refine A7 ?_
     exact x4 Plain.mk' rfl rfl (Le.bool (by simp [askP, *]))
   ·
    refine A11 ?_
    exact x4 Plain.mk' rfl rfl (Le.bool (by simp [askP, *]))
  ·
   refine A15 ?_
   exact x4 Plain.mk' rfl rfl (Le.bool (by simp [askP, *]))
 ·
  refine A18 ?_
  refine A1 ?_
  exact x4 Plain.mk' rfl rfl (Le.bool (by simp [askP, *]))
theorem c_isLength (n:Int):
  Ct Tryz.prog 49 [tI n] (tB (decide (1≤n∧n≤1200))):=by
 refine Ct.intro Tryz.func49 rfl Tryz.ntmps49 rfl ?_
 intro w F
 refine A10 ?_
 refine RGcaseD (t:=5) rfl (fun h26=> ?_) (fun h26=> ?_)
 ·
  refine A7 ?_
  exact x4 Plain.mk' rfl rfl (Le.bool (by simp;omega))
 ·
  refine A7 ?_
  exact x4 Plain.mk' rfl rfl (Le.bool (by simp;omega))
theorem c_isCov1 (l:List Sn) (d:Int) (i:Nat) (hi:i < l.length):
  CtG Tryz.prog 57 [(3,⟨64,1,false,[.val (tL 2 true tSn l)]⟩),(4,⟨3,1,false,[.val (tI d)]⟩)] [.val (tI i),.own (.ptr 3 0),.own (.ptr 4 0)] (.val (tB (decide (d < (l.getD i sn0).hi)))) [(3,⟨64,1,false,[.val (tL 2 true tSn l)]⟩),(4,⟨3,1,false,[.val (tI d)]⟩)] []:=by
 refine CtG.intro [3,4] Tryz.func57 rfl Tryz.ntmps57 rfl rfl ⟨⟨rfl,(SupX.lit rfl)⟩,⟨rfl,(SupX.lit rfl)⟩,trivial⟩ ?_
 intro w F η
 refine A9 ?_
 refine R2 (x6 sl64 (i) (by omega) (gD (l:=l) (n:=i) (d:=sn0) (by omega))) rfl rfl (R1 (xa7 fo87_1.h (At.f 1 rfl rfl) rfl) rfl ?_)
 refine A7 ?_
 exact xe5 LentC.mk' rfl rfl Imp.refl ⟨rfl,rfl,trivial⟩ rfl ⟨⟨rfl,(SupX.lit rfl)⟩,⟨rfl,(SupX.lit rfl)⟩,trivial⟩ rfl
theorem c_SearchC (l:List Sn) (d:Int) (hv:sVal l=true) (hl:l.length≤1000000):
  CtG Tryz.prog 56 [(3,⟨64,1,false,[.val (tL 2 true tSn l)]⟩),(4,⟨3,1,false,[.val (tI d)]⟩)] [.val (tI l.length),.own (.fn 57 [.ptr 3 0,.ptr 4 0])] (.val (tI (fndS l d))) [(3,⟨64,1,false,[.val (tL 2 true tSn l)]⟩),(4,⟨3,1,false,[.val (tI d)]⟩)] []:=by
 refine CtG.intro [3,4] Tryz.func56 rfl Tryz.ntmps56 rfl rfl ⟨⟨rfl,(SupX.lit rfl)⟩,⟨rfl,(SupX.lit rfl)⟩,trivial⟩ ?_
 intro w F η
 refine A14 ?_
 refine cL (fun (fm:(Nat)×(Nat))=>(fun (p:Nat) (q:Nat)=>p≤q∧q≤l.length∧(∀i,i < p→(l.getD i sn0).hi≤d)∧ ∀i,q≤i→i < l.length→d < (l.getD i sn0).hi) fm.1 fm.2) (fun (fm:(Nat)×(Nat))=>(fun (p:Nat) (q:Nat)=>upd (upd (upd (fun _=>none) 1 (some (.own (.fn 57 [.ptr 3 0,.ptr 4 0])))) 5 (some (.val (tI p)))) 6 (some (.val (tI q)))) fm.1 fm.2) (fun (fm:(Nat)×(Nat))=>(fun (p:Nat) (q:Nat)=>upd (upd (fun _=>none) 3 (some (⟨64,1,false,[.val (tL 2 true tSn l)]⟩))) 4 (some (⟨3,1,false,[.val (tI d)]⟩))) fm.1 fm.2) [3,4] (fun (fm:(Nat)×(Nat))=>(fun (p:Nat) (q:Nat)=>q - p) fm.1 fm.2) ((0,l.length)) (by dsimp only;exact ⟨Nat.zero_le _,Nat.le_refl _,fun i hi=>by omega,fun i hi hi2=>by omega⟩) (hh:=((SubK.consI rfl ImpK.refl) ((SubK.consI rfl ImpK.refl) SubK.nil))) ?_
 intro fm hI
 obtain ⟨p,q⟩:=fm
 replace hI:p≤q∧q≤l.length∧(∀i,i < p→(l.getD i sn0).hi≤d)∧ ∀i,q≤i→i < l.length→d < (l.getD i sn0).hi:=hI
 show wc _ _ _ _ (upd (upd (upd (fun _=>none) 1 (some (.own (.fn 57 [.ptr 3 0,.ptr 4 0])))) 5 (some (.val (tI p)))) 6 (some (.val (tI q)))) (upd (upd (fun _=>none) 3 (some (⟨64,1,false,[.val (tL 2 true tSn l)]⟩))) 4 (some (⟨3,1,false,[.val (tI d)]⟩))) _
 obtain ⟨hp,hq,h1,h2⟩:=hI
 refine A8 ?_
 refine xa0 rfl (fun h62=> ?_) (fun h62=> ?_)
 ·
  refine A8 ?_
  refine R1 (x5 Tryz.underlying29 (isS Tryz.underlying3) (by first | exact wu64 (by omega) (by omega) | exact mu64)) rfl (R2 (xg6 (r:=((((p+q) / 2):Nat):Int)) (by decide) ((shrN (s:=1) rfl (by decide)).trans (by simp))) rfl rfl (R1 (x5 Tryz.underlying3 (isS Tryz.underlying29) (wr64 (by omega) (by omega))) rfl ?_))
  refine A7 ?_
  refine RE (xj2 (ps:=[.val (tI _)]) (caps:=[.ptr 3 0,.ptr 4 0]) (fun j=>cond (Nat.beq j 3) 3 (4)) (c_isCov1 l d ((p+q) / 2) (by omega)) fi57 rfl (krC (ρ:=fun j=>cond (Nat.beq j 3) 3 (4)) (k:=3) rfl (krC (ρ:=fun j=>cond (Nat.beq j 3) 3 (4)) (k:=4) rfl (krN (ρ:=fun j=>cond (Nat.beq j 3) 3 (4))))) (krC (ρ:=fun j=>cond (Nat.beq j 3) 3 (4)) (k:=3) rfl (krC (ρ:=fun j=>cond (Nat.beq j 3) 3 (4)) (k:=4) rfl (krN (ρ:=fun j=>cond (Nat.beq j 3) 3 (4))))) ⟨⟨rfl,(SupX.lit rfl)⟩,⟨rfl,(SupX.lit rfl)⟩,trivial⟩ rfl) ⟨rfl,rfl,trivial⟩ ⟨rfl,rfl,trivial⟩ trivial ?_
  refine A3 ?_
  refine C_ifn rfl (fun h65=> ?_) (fun h65=> ?_)
  ·
   refine A6 ?_
   exact kF ((((p+q) / 2)+1,q)) ⟨(by dsimp only;exact ⟨by omega,hq,fun i hi=>by have:=hiS_mono hv (show i≤((p+q) / 2) by omega) (by omega);omega,h2⟩),(by dsimp only;omega)⟩ (hh:=((SubK.consI rfl ImpK.refl) ((SubK.consI rfl ImpK.refl) SubK.nil)))
  ·
   refine A5 ?_
   exact kF ((p,((p+q) / 2))) ⟨(by dsimp only;exact ⟨by omega,by omega,h1,fun i hi hi2=>by have:=hiS_mono hv hi hi2;omega⟩),(by dsimp only;omega)⟩ (hh:=((SubK.consI rfl ImpK.refl) ((SubK.consI rfl ImpK.refl) SubK.nil)))
 ·
  refine A12 ?_
  exact xe5 LentC.mk' rfl rfl (Imp.int (congrArg Int.ofNat (fst_is (n:=l.length) (f:=fun i=>decide (d < (l.getD i sn0).hi)) (by omega) (fun i hi=>decide_eq_false (by have:=h1 i hi;omega)) (fun hp2=>decide_eq_true (h2 p (by omega) hp2))).symm)) ⟨rfl,rfl,trivial⟩ rfl ⟨⟨rfl,(SupX.lit rfl)⟩,⟨rfl,(SupX.lit rfl)⟩,trivial⟩ rfl
theorem c_isCov (l:List Sn) (a b:Int) (hv:sVal l=true) (hl:l.length≤1000000):
  Ct Tryz.prog 35 [tL 2 true tSn l,tI a,tI b] (tB (cvB l a b)):=by
 refine Ct.intro Tryz.func35 rfl Tryz.ntmps35 rfl ?_
 intro w F
 refine A11 ?_
 refine R2 (xh1 (ps:=[.ptr 3 0,.ptr 4 0]) rfl) rfl rfl (RE (xe3 (fun j=>cond (Nat.beq j 3) 3 (4)) (c_SearchC l a hv hl) fi56 rfl (krC (ρ:=fun j=>cond (Nat.beq j 3) 3 (4)) (k:=3) rfl (krC (ρ:=fun j=>cond (Nat.beq j 3) 3 (4)) (k:=4) rfl (krN (ρ:=fun j=>cond (Nat.beq j 3) 3 (4))))) (krC (ρ:=fun j=>cond (Nat.beq j 3) 3 (4)) (k:=3) rfl (krC (ρ:=fun j=>cond (Nat.beq j 3) 3 (4)) (k:=4) rfl (krN (ρ:=fun j=>cond (Nat.beq j 3) 3 (4))))) ⟨⟨rfl,(SupX.lit rfl)⟩,⟨rfl,(SupX.lit rfl)⟩,trivial⟩ rfl) ⟨rfl,rfl,trivial⟩ ⟨rfl,rfl,trivial⟩ trivial ?_)
 refine A10 ?_
 refine RGcaseD (t:=16) rfl (fun h32=> ?_) (fun h32=> ?_)
 ·
  refine A2 ?_
  refine RGon (decide_eq_true h32) rfl (x6 sl64 (fndS l a) (by omega) (gD (l:=l) (n:=fndS l a) (d:=sn0) (by omega))) rfl ⟨rfl,rfl,trivial⟩ trivial trivial (RGon (decide_eq_true h32) rfl (xa7 fo87_0.h (At.f 0 rfl rfl) rfl) rfl ⟨rfl,trivial⟩ trivial trivial ?_)
  refine A5 ?_
  refine RGcaseD (t:=25) rfl (fun h32_2=> ?_) (fun h32_2=> ?_)
  ·
   refine A3 ?_
   refine RGon (decide_eq_true h32_2) rfl (x6 sl64 (fndS l a) (by omega) (gD (l:=l) (n:=fndS l a) (d:=sn0) (by omega))) rfl ⟨rfl,rfl,trivial⟩ trivial trivial (RGon (decide_eq_true h32_2) rfl (xa7 fo87_1.h (At.f 1 rfl rfl) rfl) rfl ⟨rfl,trivial⟩ trivial trivial ?_)
   refine A7 ?_
   exact x4 Plain.mk' rfl rfl (Le.bool (by rw [cvB,decide_eq_true (show fndS l a < l.length by omega),decide_eq_true h32_2];rfl))
  ·
   refine A12 ?_
   exact x4 Plain.mk' rfl rfl (Le.bool (by rw [cvB,decide_eq_true (show fndS l a < l.length by omega),decide_eq_false h32_2];rfl))
 ·
  refine A18 ?_
  refine A3 ?_
  exact x4 Plain.mk' rfl rfl (Le.bool (by rw [cvB,decide_eq_false (show ¬fndS l a < l.length by omega)];rfl))
theorem c_avg1 (l:List Tst) (d:Int) (i:Nat) (hi:i < l.length):
  CtG Tryz.prog 59 [(3,⟨22,1,false,[.val (tL 8 true tTs l)]⟩),(4,⟨3,1,false,[.val (tI d)]⟩)] [.val (tI i),.own (.ptr 3 0),.own (.ptr 4 0)] (.val (tB (decide (d < (l.getD i tst0).hi)))) [(3,⟨22,1,false,[.val (tL 8 true tTs l)]⟩),(4,⟨3,1,false,[.val (tI d)]⟩)] []:=by
 refine CtG.intro [3,4] Tryz.func59 rfl Tryz.ntmps59 rfl rfl ⟨⟨rfl,(SupX.lit rfl)⟩,⟨rfl,(SupX.lit rfl)⟩,trivial⟩ ?_
 intro w F η
 refine A9 ?_
 refine R2 (x6 sl22 (i) (by omega) (gD (l:=l) (n:=i) (d:=tst0) (by omega))) rfl rfl (R1 (xa7 fo38_1.h (At.f 1 rfl rfl) rfl) rfl ?_)
 refine A7 ?_
 exact xe5 LentC.mk' rfl rfl Imp.refl ⟨rfl,rfl,trivial⟩ rfl ⟨⟨rfl,(SupX.lit rfl)⟩,⟨rfl,(SupX.lit rfl)⟩,trivial⟩ rfl
theorem c_avg2 (l:List Tst) (d:Int) (i:Nat) (hi:i < l.length):
  CtG Tryz.prog 60 [(3,⟨22,1,false,[.val (tL 8 true tTs l)]⟩),(5,⟨3,1,false,[.val (tI d)]⟩)] [.val (tI i),.own (.ptr 3 0),.own (.ptr 5 0)] (.val (tB (decide (d≤(l.getD i tst0).lo)))) [(3,⟨22,1,false,[.val (tL 8 true tTs l)]⟩),(5,⟨3,1,false,[.val (tI d)]⟩)] []:=by
 refine CtG.intro [3,5] Tryz.func60 rfl Tryz.ntmps60 rfl rfl ⟨⟨rfl,(SupX.lit rfl)⟩,⟨rfl,(SupX.lit rfl)⟩,trivial⟩ ?_
 intro w F η
 refine A9 ?_
 refine R2 (x6 sl22 (i) (by omega) (gD (l:=l) (n:=i) (d:=tst0) (by omega))) rfl rfl (R1 (xa7 fo38_0.h (At.f 0 rfl rfl) rfl) rfl ?_)
 refine A7 ?_
 exact xe5 LentC.mk' rfl rfl Imp.refl ⟨rfl,rfl,trivial⟩ rfl ⟨⟨rfl,(SupX.lit rfl)⟩,⟨rfl,(SupX.lit rfl)⟩,trivial⟩ rfl
theorem c_SearchA (l:List Tst) (d:Int) (hv:ascT l) (hl:l.length≤1000000):
  CtG Tryz.prog 56 [(3,⟨22,1,false,[.val (tL 8 true tTs l)]⟩),(4,⟨3,1,false,[.val (tI d)]⟩)] [.val (tI l.length),.own (.fn 59 [.ptr 3 0,.ptr 4 0])] (.val (tI (fstA l d))) [(3,⟨22,1,false,[.val (tL 8 true tTs l)]⟩),(4,⟨3,1,false,[.val (tI d)]⟩)] []:=by
 refine CtG.intro [3,4] Tryz.func56 rfl Tryz.ntmps56 rfl rfl ⟨⟨rfl,(SupX.lit rfl)⟩,⟨rfl,(SupX.lit rfl)⟩,trivial⟩ ?_
 intro w F η
 refine A14 ?_
 refine cL (fun (fm:(Nat)×(Nat))=>(fun (p:Nat) (q:Nat)=>p≤q∧q≤l.length∧(∀i,i < p→(l.getD i tst0).hi≤d)∧ ∀i,q≤i→i < l.length→d < (l.getD i tst0).hi) fm.1 fm.2) (fun (fm:(Nat)×(Nat))=>(fun (p:Nat) (q:Nat)=>upd (upd (upd (fun _=>none) 1 (some (.own (.fn 59 [.ptr 3 0,.ptr 4 0])))) 5 (some (.val (tI p)))) 6 (some (.val (tI q)))) fm.1 fm.2) (fun (fm:(Nat)×(Nat))=>(fun (p:Nat) (q:Nat)=>upd (upd (fun _=>none) 3 (some (⟨22,1,false,[.val (tL 8 true tTs l)]⟩))) 4 (some (⟨3,1,false,[.val (tI d)]⟩))) fm.1 fm.2) [3,4] (fun (fm:(Nat)×(Nat))=>(fun (p:Nat) (q:Nat)=>q - p) fm.1 fm.2) ((0,l.length)) (by dsimp only;exact ⟨Nat.zero_le _,Nat.le_refl _,fun i hi=>by omega,fun i hi hi2=>by omega⟩) (hh:=((SubK.consI rfl ImpK.refl) ((SubK.consI rfl ImpK.refl) SubK.nil))) ?_
 intro fm hI
 obtain ⟨p,q⟩:=fm
 replace hI:p≤q∧q≤l.length∧(∀i,i < p→(l.getD i tst0).hi≤d)∧ ∀i,q≤i→i < l.length→d < (l.getD i tst0).hi:=hI
 show wc _ _ _ _ (upd (upd (upd (fun _=>none) 1 (some (.own (.fn 59 [.ptr 3 0,.ptr 4 0])))) 5 (some (.val (tI p)))) 6 (some (.val (tI q)))) (upd (upd (fun _=>none) 3 (some (⟨22,1,false,[.val (tL 8 true tTs l)]⟩))) 4 (some (⟨3,1,false,[.val (tI d)]⟩))) _
 obtain ⟨hp,hq,h1,h2⟩:=hI
 refine A8 ?_
 refine xa0 rfl (fun h62=> ?_) (fun h62=> ?_)
 ·
  refine A8 ?_
  refine R1 (x5 Tryz.underlying29 (isS Tryz.underlying3) (by first | exact wu64 (by omega) (by omega) | exact mu64)) rfl (R2 (xg6 (r:=((((p+q) / 2):Nat):Int)) (by decide) ((shrN (s:=1) rfl (by decide)).trans (by simp))) rfl rfl (R1 (x5 Tryz.underlying3 (isS Tryz.underlying29) (wr64 (by omega) (by omega))) rfl ?_))
  refine A7 ?_
  refine RE (xj2 (ps:=[.val (tI _)]) (caps:=[.ptr 3 0,.ptr 4 0]) (fun j=>cond (Nat.beq j 3) 3 (4)) (c_avg1 l d ((p+q) / 2) (by omega)) fi59 rfl (krC (ρ:=fun j=>cond (Nat.beq j 3) 3 (4)) (k:=3) rfl (krC (ρ:=fun j=>cond (Nat.beq j 3) 3 (4)) (k:=4) rfl (krN (ρ:=fun j=>cond (Nat.beq j 3) 3 (4))))) (krC (ρ:=fun j=>cond (Nat.beq j 3) 3 (4)) (k:=3) rfl (krC (ρ:=fun j=>cond (Nat.beq j 3) 3 (4)) (k:=4) rfl (krN (ρ:=fun j=>cond (Nat.beq j 3) 3 (4))))) ⟨⟨rfl,(SupX.lit rfl)⟩,⟨rfl,(SupX.lit rfl)⟩,trivial⟩ rfl) ⟨rfl,rfl,trivial⟩ ⟨rfl,rfl,trivial⟩ trivial ?_
  refine A3 ?_
  refine C_ifn rfl (fun h65=> ?_) (fun h65=> ?_)
  ·
   refine A6 ?_
   exact kF ((((p+q) / 2)+1,q)) ⟨(by dsimp only;exact ⟨by omega,hq,fun i hi=>by have:=hiT_asc hv (show i≤((p+q) / 2) by omega) (by omega);omega,h2⟩),(by dsimp only;omega)⟩ (hh:=((SubK.consI rfl ImpK.refl) ((SubK.consI rfl ImpK.refl) SubK.nil)))
  ·
   refine A5 ?_
   exact kF ((p,((p+q) / 2))) ⟨(by dsimp only;exact ⟨by omega,by omega,h1,fun i hi hi2=>by have:=hiT_asc hv hi hi2;omega⟩),(by dsimp only;omega)⟩ (hh:=((SubK.consI rfl ImpK.refl) ((SubK.consI rfl ImpK.refl) SubK.nil)))
 ·
  refine A12 ?_
  exact xe5 LentC.mk' rfl rfl (Imp.int (congrArg Int.ofNat (fst_is (n:=l.length) (f:=fun i=>decide (d < (l.getD i tst0).hi)) (by omega) (fun i hi=>decide_eq_false (by have:=h1 i hi;omega)) (fun hp2=>decide_eq_true (h2 p (by omega) hp2))).symm)) ⟨rfl,rfl,trivial⟩ rfl ⟨⟨rfl,(SupX.lit rfl)⟩,⟨rfl,(SupX.lit rfl)⟩,trivial⟩ rfl
theorem c_SearchB (l:List Tst) (d:Int) (hv:ascT l) (hl:l.length≤1000000):
  CtG Tryz.prog 56 [(3,⟨22,1,false,[.val (tL 8 true tTs l)]⟩),(5,⟨3,1,false,[.val (tI d)]⟩)] [.val (tI l.length),.own (.fn 60 [.ptr 3 0,.ptr 5 0])] (.val (tI (endA l d))) [(3,⟨22,1,false,[.val (tL 8 true tTs l)]⟩),(5,⟨3,1,false,[.val (tI d)]⟩)] []:=by
 refine CtG.intro [3,5] Tryz.func56 rfl Tryz.ntmps56 rfl rfl ⟨⟨rfl,(SupX.lit rfl)⟩,⟨rfl,(SupX.lit rfl)⟩,trivial⟩ ?_
 intro w F η
 refine A14 ?_
 refine cL (fun (fm:(Nat)×(Nat))=>(fun (p:Nat) (q:Nat)=>p≤q∧q≤l.length∧(∀i,i < p→(l.getD i tst0).lo < d)∧ ∀i,q≤i→i < l.length→d≤(l.getD i tst0).lo) fm.1 fm.2) (fun (fm:(Nat)×(Nat))=>(fun (p:Nat) (q:Nat)=>upd (upd (upd (fun _=>none) 1 (some (.own (.fn 60 [.ptr 3 0,.ptr 5 0])))) 5 (some (.val (tI p)))) 6 (some (.val (tI q)))) fm.1 fm.2) (fun (fm:(Nat)×(Nat))=>(fun (p:Nat) (q:Nat)=>upd (upd (fun _=>none) 3 (some (⟨22,1,false,[.val (tL 8 true tTs l)]⟩))) 5 (some (⟨3,1,false,[.val (tI d)]⟩))) fm.1 fm.2) [3,5] (fun (fm:(Nat)×(Nat))=>(fun (p:Nat) (q:Nat)=>q - p) fm.1 fm.2) ((0,l.length)) (by dsimp only;exact ⟨Nat.zero_le _,Nat.le_refl _,fun i hi=>by omega,fun i hi hi2=>by omega⟩) (hh:=((SubK.consI rfl ImpK.refl) ((SubK.consI rfl ImpK.refl) SubK.nil))) ?_
 intro fm hI
 obtain ⟨p,q⟩:=fm
 replace hI:p≤q∧q≤l.length∧(∀i,i < p→(l.getD i tst0).lo < d)∧ ∀i,q≤i→i < l.length→d≤(l.getD i tst0).lo:=hI
 show wc _ _ _ _ (upd (upd (upd (fun _=>none) 1 (some (.own (.fn 60 [.ptr 3 0,.ptr 5 0])))) 5 (some (.val (tI p)))) 6 (some (.val (tI q)))) (upd (upd (fun _=>none) 3 (some (⟨22,1,false,[.val (tL 8 true tTs l)]⟩))) 5 (some (⟨3,1,false,[.val (tI d)]⟩))) _
 obtain ⟨hp,hq,h1,h2⟩:=hI
 refine A8 ?_
 refine xa0 rfl (fun h62=> ?_) (fun h62=> ?_)
 ·
  refine A8 ?_
  refine R1 (x5 Tryz.underlying29 (isS Tryz.underlying3) (by first | exact wu64 (by omega) (by omega) | exact mu64)) rfl (R2 (xg6 (r:=((((p+q) / 2):Nat):Int)) (by decide) ((shrN (s:=1) rfl (by decide)).trans (by simp))) rfl rfl (R1 (x5 Tryz.underlying3 (isS Tryz.underlying29) (wr64 (by omega) (by omega))) rfl ?_))
  refine A7 ?_
  refine RE (xj2 (ps:=[.val (tI _)]) (caps:=[.ptr 3 0,.ptr 5 0]) (fun j=>cond (Nat.beq j 3) 3 (5)) (c_avg2 l d ((p+q) / 2) (by omega)) fi60 rfl (krC (ρ:=fun j=>cond (Nat.beq j 3) 3 (5)) (k:=3) rfl (krC (ρ:=fun j=>cond (Nat.beq j 3) 3 (5)) (k:=5) rfl (krN (ρ:=fun j=>cond (Nat.beq j 3) 3 (5))))) (krC (ρ:=fun j=>cond (Nat.beq j 3) 3 (5)) (k:=3) rfl (krC (ρ:=fun j=>cond (Nat.beq j 3) 3 (5)) (k:=5) rfl (krN (ρ:=fun j=>cond (Nat.beq j 3) 3 (5))))) ⟨⟨rfl,(SupX.lit rfl)⟩,⟨rfl,(SupX.lit rfl)⟩,trivial⟩ rfl) ⟨rfl,rfl,trivial⟩ ⟨rfl,rfl,trivial⟩ trivial ?_
  refine A3 ?_
  refine C_ifn rfl (fun h65=> ?_) (fun h65=> ?_)
  ·
   refine A6 ?_
   exact kF ((((p+q) / 2)+1,q)) ⟨(by dsimp only;exact ⟨by omega,hq,fun i hi=>by have:=loT_mono hv (show i≤((p+q) / 2) by omega) (by omega);omega,h2⟩),(by dsimp only;omega)⟩ (hh:=((SubK.consI rfl ImpK.refl) ((SubK.consI rfl ImpK.refl) SubK.nil)))
  ·
   refine A5 ?_
   exact kF ((p,((p+q) / 2))) ⟨(by dsimp only;exact ⟨by omega,by omega,h1,fun i hi hi2=>by have:=loT_mono hv hi hi2;omega⟩),(by dsimp only;omega)⟩ (hh:=((SubK.consI rfl ImpK.refl) ((SubK.consI rfl ImpK.refl) SubK.nil)))
 ·
  refine A12 ?_
  exact xe5 LentC.mk' rfl rfl (Imp.int (congrArg Int.ofNat (fst_is (n:=l.length) (f:=fun i=>decide (d≤(l.getD i tst0).lo)) (by omega) (fun i hi=>decide_eq_false (by have:=h1 i hi;omega)) (fun hp2=>decide_eq_true (h2 p (by omega) hp2))).symm)) ⟨rfl,rfl,trivial⟩ rfl ⟨⟨rfl,(SupX.lit rfl)⟩,⟨rfl,(SupX.lit rfl)⟩,trivial⟩ rfl
theorem c_average (D B:Int) (l:List Tst) (a b:Int) (hn:nOk D B) (h:isG 3 D B l) (hl:l.length≤200000) (ha:0≤a) (hab:a < b) (hb:b≤65536):
  Ct Tryz.prog 37 [tL 8 true tTs l,tI a,tI b] (tT [tFr (fr (avQ D l a b)),tI 0]):=by
 have hfe:=fst_end h.asc hab
 refine Ct.intro Tryz.func37 rfl Tryz.ntmps37 rfl ?_
 intro w F
 refine A5 ?_
 refine RE (x8 (k:=6) (n:=4) (agg:=true) zr34.1 zr34.2 rfl) trivial trivial ⟨rfl,trivial⟩ ?_
 refine A7 ?_
 refine R2 (xh1 (ps:=[.ptr 3 0,.ptr 4 0]) rfl) rfl rfl (RE (xe3 (fun j=>cond (Nat.beq j 3) 3 (4)) (c_SearchA l a h.asc (by omega)) fi56 rfl (krC (ρ:=fun j=>cond (Nat.beq j 3) 3 (4)) (k:=3) rfl (krC (ρ:=fun j=>cond (Nat.beq j 3) 3 (4)) (k:=4) rfl (krN (ρ:=fun j=>cond (Nat.beq j 3) 3 (4))))) (krC (ρ:=fun j=>cond (Nat.beq j 3) 3 (4)) (k:=3) rfl (krC (ρ:=fun j=>cond (Nat.beq j 3) 3 (4)) (k:=4) rfl (krN (ρ:=fun j=>cond (Nat.beq j 3) 3 (4))))) ⟨⟨rfl,(SupX.lit rfl)⟩,⟨rfl,(SupX.lit rfl)⟩,trivial⟩ rfl) ⟨rfl,rfl,trivial⟩ ⟨rfl,rfl,trivial⟩ trivial ?_)
 refine A7 ?_
 refine R2 (xh1 (ps:=[.ptr 3 0,.ptr 5 0]) rfl) rfl rfl (RE (xe3 (fun j=>cond (Nat.beq j 3) 3 (5)) (c_SearchB l b h.asc (by omega)) fi56 rfl (krC (ρ:=fun j=>cond (Nat.beq j 3) 3 (5)) (k:=3) rfl (krC (ρ:=fun j=>cond (Nat.beq j 3) 3 (5)) (k:=5) rfl (krN (ρ:=fun j=>cond (Nat.beq j 3) 3 (5))))) (krC (ρ:=fun j=>cond (Nat.beq j 3) 3 (5)) (k:=3) rfl (krC (ρ:=fun j=>cond (Nat.beq j 3) 3 (5)) (k:=5) rfl (krN (ρ:=fun j=>cond (Nat.beq j 3) 3 (5))))) ⟨⟨rfl,(SupX.lit rfl)⟩,⟨rfl,(SupX.lit rfl)⟩,trivial⟩ rfl) ⟨rfl,rfl,trivial⟩ ⟨rfl,rfl,trivial⟩ trivial ?_)
 refine A8 ?_
 refine R3 (d_sliceFT sl22 (fstA l a) (endA l b) rfl rfl hfe.1 hfe.2 rfl) rfl rfl rfl ?_
 refine A2 ?_
 refine R3 (x3 (c_SumA a b hn h hl ha hab hb) fi61 rfl) rfl rfl rfl ?_
 refine A3 ?_
 refine RE (x8 (k:=10) (n:=4) (agg:=true) zr34.1 zr34.2 rfl) trivial trivial ⟨rfl,trivial⟩ ?_
 refine A11 ?_
 refine C_bF rfl (decide_eq_false (by omega)) ?_
 refine A8 ?_
 refine R1 (x3 (xm7 (b - a) (by omega) (by omega)) fi63 rfl) rfl (R2 (x3 (c_DivA a b hn h ha hab hb) fi62 rfl) rfl rfl ?_)
 refine A7 ?_
 exact xa8 Plain.mk' (rs:=[.cell 6 34,.tmp 7]) rfl rfl ⟨⟨_,_,_,_,_,rfl,rfl,ti34,Le.refl⟩,⟨_,rfl,Le.refl⟩,trivial⟩
theorem c_Average (D B:Int) (l:List Tst) (a b:Int) (hn:nOk D B) (hD: ∀s∈l,s.v.f.dig) (hG:askP l a b=true→isG 3 D B l) (hl:l.length≤200000):
  Ct Tryz.prog 17 [tL 8 true tTs l,tI a,tI b] (tT [tFr (avR D l a b).1,tI (avR D l a b).2]):=by
 refine Ct.intro Tryz.func17 rfl Tryz.ntmps17 rfl ?_
 intro w F
 refine A2 ?_
 refine RE (x8 (k:=6) (n:=4) (agg:=true) zr34.1 zr34.2 rfl) trivial trivial ⟨rfl,trivial⟩ ?_
 refine A9 ?_
 refine R3 (x3 (c_isAsked l a b hD) fi34 rfl) rfl rfl rfl ?_
 refine A3 ?_
 refine xc2 rfl (fun h48=> ?_) (fun h48=> ?_)
 ·
  have hk:askP l a b=false:=by simpa using h48
  refine A2 ?_
  refine R0 (xb2 (r:=tS [⟨2,true,(tS [⟨1,false,(tE (.bool false))⟩,⟨1,false,(tLm [])⟩])⟩,⟨2,true,(tS [⟨1,false,(tE (.bool false))⟩,⟨1,false,(tLm [])⟩])⟩]) (ts:=[]) bu34 zr34.2 Le.refl) ?_
  refine A6 ?_
  exact xa8 Plain.mk' (rs:=[.cell 6 34,.tmp 7]) rfl rfl ⟨⟨_,_,_,_,_,rfl,rfl,ti34,(Le.of (by rw [avR,if_neg (by rw [hk];simp)];rfl))⟩,⟨_,rfl,(Le.int (by rw [avR,if_neg (by rw [hk];simp)]))⟩,trivial⟩
 ·
  have hk:askP l a b=true:=by simpa using h48
  have h:=hG hk
  have hk2:=(xo1.1 hk).2
  refine A9 ?_
  refine RGcaseD (t:=17) rfl (fun h51=> ?_) (fun h51=> ?_)
  ·
   refine A12 ?_
   refine R0 (xb2 (r:=tS [⟨2,true,(tS [⟨1,false,(tE (.bool false))⟩,⟨1,false,(tLm [])⟩])⟩,⟨2,true,(tS [⟨1,false,(tE (.bool false))⟩,⟨1,false,(tLm [])⟩])⟩]) (ts:=[]) bu34 zr34.2 Le.refl) ?_
   refine A6 ?_
   exact xa8 Plain.mk' (rs:=[.cell 6 34,.tmp 7]) rfl rfl ⟨⟨_,_,_,_,_,rfl,rfl,ti34,(Le.of (by rw [avR,if_pos hk,if_neg (by omega)];rfl))⟩,⟨_,rfl,(Le.int (by rw [avR,if_pos hk,if_neg (by omega)]))⟩,trivial⟩
  ·
   refine A1 ?_
   refine RGon (decide_eq_false h51) rfl (x3 (c_CoversG h hl) fi36 rfl) rfl ⟨rfl,trivial⟩ trivial trivial ?_
   refine A2 ?_
   refine RGon (decide_eq_false h51) rfl (x3 (c_isCov (cvT l) a b (cvT_set h.1).1 (by have:=cvT_len (l:=l);omega)) fi35 rfl) rfl ⟨rfl,rfl,rfl,trivial⟩ trivial trivial ?_
   refine A4 ?_
   refine xc2 rfl (fun h51_2=> ?_) (fun h51_2=> ?_)
   ·
    have hc:nD l a b≠b - a:=by
     have h1:cvB (cvT l) a b=false:=by simpa using h51_2
     rw [cvB_nD h.1 (by omega)] at h1;exact of_decide_eq_false h1
    refine A2 ?_
    refine R0 (xb2 (r:=tS [⟨2,true,(tS [⟨1,false,(tE (.bool false))⟩,⟨1,false,(tLm [])⟩])⟩,⟨2,true,(tS [⟨1,false,(tE (.bool false))⟩,⟨1,false,(tLm [])⟩])⟩]) (ts:=[]) bu34 zr34.2 Le.refl) ?_
    refine A6 ?_
    exact xa8 Plain.mk' (rs:=[.cell 6 34,.tmp 7]) rfl rfl ⟨⟨_,_,_,_,_,rfl,rfl,ti34,(Le.of (by rw [avR,if_pos hk,if_neg (fun h=>hc h.2)];rfl))⟩,⟨_,rfl,(Le.int (by rw [avR,if_pos hk,if_neg (fun h=>hc h.2)]))⟩,trivial⟩
   ·
    have hc:nD l a b=b - a:=by
     have h1:cvB (cvT l) a b=true:=by simpa using h51_2
     rw [cvB_nD h.1 (by omega)] at h1;exact of_decide_eq_true h1
    refine A7 ?_
    refine R3 (x3 (c_average D B l a b hn h hl (by omega) (by omega) (by omega)) fi37 rfl) rfl rfl rfl ?_
    refine A7 ?_
    exact xa8 Plain.mk' (rs:=[.cell 6 34,.tmp 7]) rfl rfl ⟨⟨_,_,_,_,_,rfl,rfl,ti34,(Le.of (by rw [avR,if_pos hk,if_pos ⟨by omega,hc⟩]))⟩,⟨_,rfl,(Le.int (by rw [avR,if_pos hk,if_pos ⟨by omega,hc⟩]))⟩,trivial⟩
instance fi79:FnI Tryz.prog 79:=⟨_,Tryz.func79,by kernel_rfl,rfl⟩
theorem zr72:(Tryz.prog.info? 72).bind (·.zero)=some (.agg #[.int .i64 0,.int .i64 0,.int .i64 0])∧ ∀F w,(tS [⟨1,false,(tE (.int .i64 0))⟩,⟨1,false,(tE (.int .i64 0))⟩,⟨1,false,(tE (.int .i64 0))⟩]).p F w (.agg #[.int .i64 0,.int .i64 0,.int .i64 0]):=⟨by kernel_rfl,fun _ _=>⟨_,rfl,rfl,⟨fun _=>rfl,rfl⟩,⟨fun _=>rfl,rfl⟩,⟨fun _=>rfl,rfl⟩,trivial⟩⟩
theorem bu72:BuI Tryz.prog 72 (fun i=>[(0,1),(1,1),(2,1)][i]?) (.agg #[.int .i64 0,.int .i64 0,.int .i64 0]):=BuI.struct Tryz.underlying72 (by kernel_rfl) (by kernel_rfl)
def fstD (m:Int):Int:=if 0≤m∧m < 2154 then startI m.toNat else 0
def fstE (m:Int):Int:=if 0≤m∧m < 2154 then 0 else 2
theorem c_FirstZ (m:Int):Ct Tryz.prog 79 [tKG KL (tI m)] (tT [tI (fstD m),tI (fstE m)]):=c_First m
theorem fstE_iff {m:Int} (h:0≤m):fstE m=0↔m < 2154:=by
 unfold fstE;split <;> omega
theorem fstD_is {k:Nat} (h:k < 2154):fstD (k:Int)=startI k:=by rw [fstD,if_pos ⟨by omega,by omega⟩,Int.toNat_natCast]
theorem fstD_add {k n:Nat} (h:k+n < 2154):fstD ((k:Int)+(n:Int))=startI (k+n):=by rw [←Int.natCast_add];exact fstD_is h
abbrev tWin (m a b:Int):Ty:=tS [⟨1,false,tI m⟩,⟨1,false,tI a⟩,⟨1,false,tI b⟩]
abbrev tWn (n k:Nat):Ty:=tWin k (startI k) (startI (k+n))
def psY (l:List Tst) (p q:Int) (n j:Nat):List Ty:=[tWn n ((winT l p q n).getD j 0)]
theorem ps_le {l:List Tst} {p q:Int} {n k j:Nat} {a b:Int} (h:(winT l p q n).getD j 0=k) (ha:a=startI k) (hb:b=startI (k+n)):LeL [tWin (k:Int) a b] (psY l p q n j):=by
 subst ha hb;rw [psY,h];exact ⟨Le.refl,trivial⟩
theorem okW_of {D B:Int} {l:List Tst} {p q:Int} {n k:Nat} (h:isG 3 D B l) (hk:k+n < 2154) (hn:1≤n) (h1:p≤startI k) (h2:startI (k+n)≤q) (h3:cvB (cvT l) (startI k) (startI (k+n))=true):okW l p q n k=true:=by
 have hlt:=start_lt (show k < k+n by omega) (by omega)
 rw [cvB_nD h.1 (by omega)] at h3
 rw [okW,decide_eq_true hk,decide_eq_true h1,decide_eq_true h2,h3];rfl
theorem okW_not {D B:Int} {l:List Tst} {p q:Int} {n k:Nat} (h:isG 3 D B l) (hn:1≤n) (h1:k+n < 2154→startI k < p∨q < startI (k+n)∨cvB (cvT l) (startI k) (startI (k+n))=false): ¬okW l p q n k=true:=fun hw=>by
 simp only [okW,Bool.and_eq_true,decide_eq_true_eq] at hw
 have hlt:=start_lt (show k < k+n by omega) (by omega)
 rcases h1 hw.1.1.1 with h2 | h2 | h2
 ·omega
 ·omega
 ·rw [cvB_nD h.1 (by omega),decide_eq_true hw.2] at h2;cases h2
theorem winP_no {l:List Tst} {p q:Int} {n k:Nat} (h: ¬okW l p q n k=true):winP l p q n (k+1)=winP l p q n k:=by rw [xr1,if_neg h,List.append_nil]
theorem winP_yes {l:List Tst} {p q:Int} {n k:Nat} (h:okW l p q n k=true):(winP l p q n (k+1)).length=(winP l p q n k).length+1:=by rw [xr1,if_pos h];simp
theorem c_possible (a:List Tst) (p q:Int) (n:Nat):
  CtG Tryz.prog 50 [] [.val (tKG KL (tL 8 true tTs a)),.val (tI p),.val (tI q),.val (tI (n:Int))] (.own (.fn 78 [.ptr 4 0,.ptr 7 0,.ptr 5 0,.ptr 6 0])) [(4,⟨22,1,false,[.val (tKG KL (tL 8 true tTs a))]⟩),(7,⟨3,1,false,[.val (tI (n:Int))]⟩),(5,⟨3,1,false,[.val (tI p)]⟩),(6,⟨3,1,false,[.val (tI q)]⟩)] [4,5,6,7]:=by
 refine CtG.intro [] Tryz.func50 rfl Tryz.ntmps50 rfl rfl trivial ?_
 intro w F η
 refine A11 ?_
 refine RE (xh1 (ps:=[.ptr 4 0,.ptr 7 0,.ptr 5 0,.ptr 6 0]) rfl) ⟨rfl,rfl,rfl,rfl,trivial⟩ trivial trivial ?_
 refine A4 ?_
 exact xe5 LentC.mk' rfl rfl Imp.refl ⟨rfl,rfl,rfl,rfl,trivial⟩ rfl ⟨⟨rfl,(SupX.lit rfl)⟩,⟨rfl,(SupX.lit rfl)⟩,⟨rfl,(SupX.lit rfl)⟩,⟨rfl,(SupX.lit rfl)⟩,trivial⟩ rfl
theorem i_possible (D B:Int) (a:List Tst) (p q:Int) (n:Nat) (h:isG 3 D B a) (hl:a.length≤200000) (hn1:1≤n) (hn2:n≤1200):
  ItC Tryz.prog 78 [(4,⟨22,1,false,[.val (tKG KL (tL 8 true tTs a))]⟩),(7,⟨3,1,false,[.val (tI (n:Int))]⟩),(5,⟨3,1,false,[.val (tI p)]⟩),(6,⟨3,1,false,[.val (tI q)]⟩)] [.ptr 4 0,.ptr 7 0,.ptr 5 0,.ptr 6 0] ((winT a p q n).length) (psY a p q n):=by
 refine ItC.intro (K:=99) [4,7,5,6] Tryz.func78 rfl Tryz.ntmps78 rfl rfl ⟨⟨rfl,(SupX.lit rfl)⟩,⟨rfl,(SupX.lit rfl)⟩,⟨rfl,(SupX.lit rfl)⟩,⟨rfl,(SupX.lit rfl)⟩,trivial⟩ rfl ?_
 intro w F η l V J Jc hB
 refine A2 ?_
 refine RE (d_loadG ti22) ⟨rfl,trivial⟩ ⟨rfl,trivial⟩ trivial (R1 (x3 (c_CoversG h hl) fi36 rfl) rfl ?_)
 refine A9 ?_
 refine cL (fun (fm:(Nat)×(Nat))=>(fun (m:Nat) (j:Nat)=>m≤2154∧j=(winP a p q n m).length) fm.1 fm.2) (fun (fm:(Nat)×(Nat))=>(fun (m:Nat) (j:Nat)=>upd (upd (upd (upd (upd (upd (upd (fun _=>none) 0 (some (.val (tE (.func (.yield l) #[] #[]))))) 1 (some (.own (.ptr 4 0)))) 2 (some (.own (.ptr 7 0)))) 3 (some (.own (.ptr 5 0)))) 4 (some (.own (.ptr 6 0)))) 6 (some (.val (tL 2 true tSn (cvT a))))) 7 (some (.val (tI m)))) fm.1 fm.2) (fun (fm:(Nat)×(Nat))=>(fun (m:Nat) (j:Nat)=>upd (upd (upd (upd (upd (fun _=>none) 4 (some (⟨22,1,false,[.val (tKG KL (tL 8 true tTs a))]⟩))) 7 (some (⟨3,1,false,[.val (tI (n:Int))]⟩))) 5 (some (⟨3,1,false,[.val (tI p)]⟩))) 6 (some (⟨3,1,false,[.val (tI q)]⟩))) 99 (some (⟨2*j,1,false,[]⟩))) fm.1 fm.2) [4,7,5,6,99] (fun (fm:(Nat)×(Nat))=>(fun (m:Nat) (j:Nat)=>2154 - m) fm.1 fm.2) ((0,0)) (by dsimp only;exact ⟨Nat.zero_le _,rfl⟩) (hh:=((SubK.consI rfl ImpK.refl) ((SubK.consI rfl ImpK.refl) ((SubK.consI rfl ImpK.refl) ((SubK.consI rfl ImpK.refl) ((SubK.consI rfl ImpK.refl) SubK.nil)))))) ?_
 intro fm hI
 obtain ⟨m,j⟩:=fm
 replace hI:m≤2154∧j=(winP a p q n m).length:=hI
 show wc _ _ _ _ (upd (upd (upd (upd (upd (upd (upd (fun _=>none) 0 (some (.val (tE (.func (.yield l) #[] #[]))))) 1 (some (.own (.ptr 4 0)))) 2 (some (.own (.ptr 7 0)))) 3 (some (.own (.ptr 5 0)))) 4 (some (.own (.ptr 6 0)))) 6 (some (.val (tL 2 true tSn (cvT a))))) 7 (some (.val (tI m)))) (upd (upd (upd (upd (upd (fun _=>none) 4 (some (⟨22,1,false,[.val (tKG KL (tL 8 true tTs a))]⟩))) 7 (some (⟨3,1,false,[.val (tI (n:Int))]⟩))) 5 (some (⟨3,1,false,[.val (tI p)]⟩))) 6 (some (⟨3,1,false,[.val (tI q)]⟩))) 99 (some (⟨2*j,1,false,[]⟩))) _
 obtain ⟨hm0,hj⟩:=hI
 refine A5 ?_
 refine RE (d_callTK 4 22 1 false car_G full_one (c_FirstZ (m:Int)) fi79 rfl) ⟨rfl,trivial⟩ ⟨rfl,trivial⟩ trivial ?_
 refine A12 ?_
 refine RE (d_callTK 4 22 1 false car_G full_one (c_FirstZ ((m:Int)+(n:Int))) fi79 rfl) ⟨rfl,trivial⟩ ⟨rfl,trivial⟩ trivial ?_
 refine A9 ?_
 have f1:=fstE_iff (m:=(m:Int)) (by omega)
 have f2:=fstE_iff (m:=(m:Int)+(n:Int)) (by omega)
 refine A4 ?_
 refine RGcaseD (t:=30) rfl (fun h70=> ?_) (fun h70=> ?_)
 ·
  refine A12 ?_
  exact E_it hB rfl trivial rfl (.inl rfl) rfl (.inl (by rw [hj,win_end hm0 (by omega)]))
 ·
  refine A5 ?_
  refine xa0 rfl (fun h70_2=> ?_) (fun h70_2=> ?_)
  ·
   refine A6 ?_
   exact E_it hB rfl trivial rfl (.inl rfl) rfl (.inl (by rw [hj,win_end hm0 (by omega)]))
  ·
   refine A4 ?_
   have hm:m < 2154:=by omega
   have hmn:m+n < 2154:=by omega
   have e1:=fstD_is hm
   have e2:=fstD_add hmn
   refine A5 ?_
   refine RGcaseD (t:=37) rfl (fun h73=> ?_) (fun h73=> ?_)
   ·
    refine A18 ?_
    refine A5 ?_
    exact kF ((m+1,j)) ⟨(by dsimp only;exact ⟨by omega,by rw [winP_no (okW_not h hn1 (fun _=> .inl (by omega)))];exact hj⟩),(by dsimp only;omega)⟩ (hh:=((SubK.consI rfl ImpK.refl) ((SubK.consI rfl ImpK.refl) ((SubK.consI rfl ImpK.refl) ((SubK.consI rfl ImpK.refl) ((SubK.consI rfl ImpK.refl) SubK.nil))))))
   ·
    refine A5 ?_
    refine RGcaseD (t:=42) rfl (fun h73_2=> ?_) (fun h73_2=> ?_)
    ·
     refine A18 ?_
     exact kF ((m+1,j)) ⟨(by dsimp only;exact ⟨by omega,by rw [winP_no (okW_not h hn1 (fun _=> .inr (.inl (by omega))))];exact hj⟩),(by dsimp only;omega)⟩ (hh:=((SubK.consI rfl ImpK.refl) ((SubK.consI rfl ImpK.refl) ((SubK.consI rfl ImpK.refl) ((SubK.consI rfl ImpK.refl) ((SubK.consI rfl ImpK.refl) SubK.nil))))))
    ·
     refine A3 ?_
     refine RGon (decide_eq_false h73_2) rfl (x3 (c_isCov (cvT a) (fstD (m:Int)) (fstD ((m:Int)+(n:Int))) (cvT_set h.1).1 (by have:=cvT_len (l:=a);omega)) fi35 rfl) rfl ⟨rfl,rfl,rfl,trivial⟩ trivial trivial ?_
     refine A4 ?_
     refine xc2 rfl (fun h73_3=> ?_) (fun h73_3=> ?_)
     ·
      refine A9 ?_
      exact kF ((m+1,j)) ⟨(by dsimp only;exact ⟨by omega,by rw [winP_no (okW_not h hn1 (fun _=> .inr (.inr (by rw [←e1,←e2];simpa using h73_3))))];exact hj⟩),(by dsimp only;omega)⟩ (hh:=((SubK.consI rfl ImpK.refl) ((SubK.consI rfl ImpK.refl) ((SubK.consI rfl ImpK.refl) ((SubK.consI rfl ImpK.refl) ((SubK.consI rfl ImpK.refl) SubK.nil))))))
     ·
      refine A3 ?_
      refine C_regY ?_
      refine wl_op xc7 ⟨rfl,trivial⟩ trivial trivial rfl (wl_op xc7 ⟨rfl,trivial⟩ trivial trivial rfl (wl_op xc7 ⟨rfl,trivial⟩ trivial trivial rfl (wl_op xc7 ⟨rfl,trivial⟩ trivial trivial rfl (wl_op (xb2 (r:=tS [⟨1,false,tI (m:Int)⟩,⟨1,false,tI (fstD (m:Int))⟩,⟨1,false,tI (fstD ((m:Int)+(n:Int)))⟩]) (ts:=[(0,tI (m:Int)),(1,tI (fstD (m:Int))),(2,tI (fstD ((m:Int)+(n:Int))))]) bu72 zr72.2 (Bc 0 rfl rfl rfl (Bc 1 rfl rfl rfl (Bc 2 rfl rfl rfl Le.refl)))) ⟨rfl,rfl,rfl,trivial⟩ trivial trivial rfl ?_))))
      have hok:=okW_of (p:=p) (q:=q) h hmn hn1 (by omega) (by omega) (by rw [←e1,←e2];simpa using h73_3)
      have hwa:=win_at (by omega) hok
      rw [←hj] at hwa
      have hwy:=winP_yes hok
      refine wl_yield (ts:=[tWin (m:Int) (fstD (m:Int)) (fstD ((m:Int)+(n:Int)))]) hB (wanted_none rfl) rfl rfl ⟨rfl,trivial⟩ rfl rfl hwa.1 (ps_le hwa.2 e1 e2) ?_ ?_
      ·
       refine wl_op d_not ⟨rfl,trivial⟩ trivial trivial rfl (wl_nil ?_)
       refine A10 ?_
       exact kF ((m+1,j+1)) ⟨(by dsimp only;exact ⟨by omega,by rw [hwy,hj]⟩),(by dsimp only;omega)⟩ (hh:=((SubK.consI rfl ImpK.refl) ((SubK.consI rfl ImpK.refl) ((SubK.consI rfl ImpK.refl) ((SubK.consI rfl ImpK.refl) ((SubK.consI rfl ImpK.refl) SubK.nil))))))
      ·
       refine wl_op d_not ⟨rfl,trivial⟩ trivial trivial rfl (wl_nil ?_)
       refine A7 ?_
       exact E_it hB rfl trivial rfl (.inl rfl) rfl (.inr ⟨j,hwa.1,rfl⟩)
instance ti28:TyI Tryz.prog 28 1 false:=⟨by kernel_rfl,by kernel_rfl⟩
instance ti72:TyI Tryz.prog 72 3 true:=⟨by kernel_rfl,by kernel_rfl⟩
instance fo72_0:FoI Tryz.prog 72 0 0:=⟨by kernel_rfl⟩
instance fi49:FnI Tryz.prog 49:=⟨_,Tryz.func49,by kernel_rfl,rfl⟩
instance fi50:FnI Tryz.prog 50:=⟨_,Tryz.func50,by kernel_rfl,rfl⟩
instance fi78:FnI Tryz.prog 78:=⟨_,Tryz.func78,by kernel_rfl,rfl⟩
theorem el3:ElI Tryz.prog 3 1 8 false (.int .i64 0):=⟨ti3,by kernel_rfl,by kernel_rfl⟩
theorem zf3:Flat 1 false (.int .i64 0):=xd4 rfl
theorem znI:(Tryz.prog.info? 28).bind (·.zero)=some (.slice none 0 0)∧ ∀F w,(tE (.slice none 0 0)).p F w (.slice none 0 0):=⟨by kernel_rfl,fun _ _=>rfl⟩
def iL (ks:List Nat):List Int:=ks.map fun (k:Nat)=>(k:Int)
theorem iL_len {ks:List Nat}:(iL ks).length=ks.length:=List.length_map ..
theorem win_len {l:List Tst} {p q:Int} {n:Nat}:(winT l p q n).length≤2154:=by
 have:=List.length_filter_le (okW l p q n) (List.range 2154)
 rw [List.length_range] at this;exact this
theorem take_next {ks:List Nat} {k:Nat} (h:k < ks.length):ks.take (k+1)=ks.take k++[ks.getD k 0]:=by
 rw [List.take_succ_eq_append_getElem h,List.getD_eq_getElem?_getD,List.getElem?_eq_getElem h];rfl
theorem getD_memN {ks:List Nat} {k:Nat} (h:k < ks.length):ks.getD k 0∈ks:=by
 rw [List.getD_eq_getElem?_getD,List.getElem?_eq_getElem h];exact List.getElem_mem h
def lenOk (l:List Tst) (p q n:Int):Prop:=askP l p q=true∧1≤n∧n≤1200
instance (l:List Tst) (p q n:Int):Decidable (lenOk l p q n):=inferInstanceAs (Decidable (_∧_))
def winR (l:List Tst) (p q n:Int):List Int×Int:=if lenOk l p q n then (iL (winT l p q n.toNat),0) else ([],2)
theorem c_Windows (D B:Int) (l:List Tst) (p q n:Int) (hD: ∀s∈l,s.v.f.dig) (hG:askP l p q=true→isG 3 D B l) (hl:l.length≤200000):
  Ct Tryz.prog 27 [tKG KL (tL 8 true tTs l),tI p,tI q,tI n] (tT [tL 1 false tI (winR l p q n).1,tI (winR l p q n).2]):=by
 refine Ct.intro Tryz.func27 rfl Tryz.ntmps27 rfl ?_
 intro w F
 refine A9 ?_
 refine R1 (d_moveG) rfl ?_
 refine A2 ?_
 refine R3 (x3 (c_isAsked l p q hD) fi34 rfl) rfl rfl rfl ?_
 refine A2 ?_
 refine RGcase (t:=17) rfl (fun h85=> ?_) (fun h85=> ?_)
 ·
  have hk:askP l p q=false:=by simpa using h85
  refine A15 ?_
  exact xe1 Plain.mk' rfl rfl rfl (leNil (by rw [winR,if_neg (fun h=>by have:=h.1;rw [hk] at this;cases this)])) (Le.int (by rw [winR,if_neg (fun h=>by have:=h.1;rw [hk] at this;cases this)]))
 ·
  have hk:askP l p q=true:=by simpa using h85
  have h:=hG hk
  have hk2:=(xo1.1 hk).2
  refine A1 ?_
  refine RGon h85 rfl (x3 (c_isLength n) fi49 rfl) rfl ⟨rfl,trivial⟩ trivial trivial ?_
  refine A4 ?_
  refine xc2 rfl (fun h85_2=> ?_) (fun h85_2=> ?_)
  ·
   have hn0: ¬(1≤n∧n≤1200):=by
    have h1:=h85_2
    simp at h1;omega
   refine A8 ?_
   exact xe1 Plain.mk' rfl rfl rfl (leNil (by rw [winR,if_neg (fun h=>hn0 h.2)])) (Le.int (by rw [winR,if_neg (fun h=>hn0 h.2)]))
  ·
   have hn0:1≤n∧n≤1200:=by simpa using h85_2
   have hok:lenOk l p q n:=⟨hk,hn0⟩
   obtain ⟨k0,rfl⟩: ∃k0:Nat,n=k0:=⟨n.toNat,by omega⟩
   have hn1:1≤k0:=by omega
   have hn2:k0≤1200:=by omega
   refine A4 ?_
   refine RE (x8 (k:=10) (n:=1) (agg:=false) znI.1 znI.2 rfl) trivial trivial ⟨rfl,trivial⟩ ?_
   refine A4 ?_
   refine C_nilC (q:=10) 60 3 1 false 0 rfl rfl rfl rfl (fun _=>rfl) rfl rfl ?_
   refine A5 ?_
   refine RE (xe3 (fun j=>cond (Nat.beq j 6) 2026 (cond (Nat.beq j 5) 1026 (cond (Nat.beq j 4) 26 (3026)))) (c_possible l p q k0) fi50 rfl (krN (ρ:=fun j=>cond (Nat.beq j 6) 2026 (cond (Nat.beq j 5) 1026 (cond (Nat.beq j 4) 26 (3026))))) (krC (ρ:=fun j=>cond (Nat.beq j 6) 2026 (cond (Nat.beq j 5) 1026 (cond (Nat.beq j 4) 26 (3026)))) (k:=4) rfl (krC (ρ:=fun j=>cond (Nat.beq j 6) 2026 (cond (Nat.beq j 5) 1026 (cond (Nat.beq j 4) 26 (3026)))) (k:=7) rfl (krC (ρ:=fun j=>cond (Nat.beq j 6) 2026 (cond (Nat.beq j 5) 1026 (cond (Nat.beq j 4) 26 (3026)))) (k:=5) rfl (krC (ρ:=fun j=>cond (Nat.beq j 6) 2026 (cond (Nat.beq j 5) 1026 (cond (Nat.beq j 4) 26 (3026)))) (k:=6) rfl (krN (ρ:=fun j=>cond (Nat.beq j 6) 2026 (cond (Nat.beq j 5) 1026 (cond (Nat.beq j 4) 26 (3026))))))))) ⟨⟨rfl,(SupX.lit rfl)⟩,⟨rfl,(SupX.lit rfl)⟩,⟨rfl,(SupX.lit rfl)⟩,⟨rfl,(SupX.lit rfl)⟩,trivial⟩ rfl) ⟨rfl,rfl,rfl,rfl,trivial⟩ trivial ⟨rfl,rfl,rfl,rfl,trivial⟩ ?_
   refine A3 ?_
   refine C_range (caps:=[.ptr 4 0,.ptr 7 0,.ptr 5 0,.ptr 6 0]) (κ:=Empty) (fun j=>cond (Nat.beq j 7) 3026 (cond (Nat.beq j 6) 2026 (cond (Nat.beq j 5) 1026 (cond (Nat.beq j 4) 26 (j))))) rfl (fun _ h=>h) trivial (i_possible D B l p q k0 h hl hn1 hn2) fi78 rfl ⟨rfl,rfl,rfl,rfl,trivial⟩ rfl rfl (fun _ _=>rfl) (upd (fun _=>none) 10 (some (.own (.ptr 10 0)))) [10,60] [10] (Sub.cons rfl Sub.nil) (SupG.own rfl SupG.nil) rfl (lkOk rfl) (fun (k:Nat) (xs:List Int)=>xs=iL ((winT l p q k0).take k)) (fun (k:Nat) (xs:List Int)=>upd (upd (fun _=>none) 10 (some (⟨28,1,false,[.own (.sl 60 1 0 xs.length)]⟩))) 60 (some (⟨3,1,false,rV tI xs⟩))) (fun k x=>(SupH.cons rfl (supJ xd6) (SupH.cons rfl (supJL rfl) SupH.nil))) (fun k x y hy=>by simp only [List.mem_cons,List.not_mem_nil,or_false] at hy;rcases hy with rfl | rfl | rfl | rfl <;> rfl) (fun _ _=>False) (fun i=>i.elim) (fun _ _ h=>h.elim) ([]) rfl ((SubK.consI rfl ImpK.refl) ((SubK.consI rfl ImpK.refl) SubK.nil)) ?_ ?_ ?_
   ·
    intro D lp o1 o2 O W lη lb V0 k xs hk hI
    have hwl:=win_len (l:=l) (p:=p) (q:=q) (n:=k0)
    have hxl:xs.length≤2154:=by rw [hI,iL_len,List.length_take];omega
    apply rnd_mk
    ·
     refine A1 ?_
     refine RE (x8 (k:=11) (n:=3) (agg:=true) zr72.1 zr72.2 rfl) trivial trivial ⟨rfl,trivial⟩ ?_
     refine A2 ?_
     exact K_thenF fun _ _ h=>h
    ·
     refine A2 ?_
     refine RE (xd3 (ts:=[.own (.sl 60 1 0 xs.length)]) (0) ti28 rfl rfl) ⟨rfl,trivial⟩ ⟨rfl,trivial⟩ trivial ?_
     refine A2 ?_
     refine R1 (xd9 (n:=1) (f:=fun n:Int=>tI n) [(((winT l p q k0).getD k 0):Int)] Tryz.underlying28 el3 zf3 rfl (fun _=>inferInstance) rfl rfl rfl) rfl (RE (xc3 (k:=60) (k':=32) (f:=fun n:Int=>tI n) (ys:=[(((winT l p q k0).getD k 0):Int)]) (ts':=rV tI (xs++[(((winT l p q k0).getD k 0):Int)])) Tryz.underlying28 el3 zf3 rfl rfl (fun _=>inferInstance) xh2 (by simp;omega) (by simp;omega) (by simp [rV]) (n':=xs.length+1) rfl) ⟨rfl,rfl,trivial⟩ ⟨rfl,trivial⟩ ⟨rfl,trivial⟩ (RE (xb9 (es:=1) (agg:=false) (e:= .own (.sl 32 1 0 (xs.length+1))) (0) ti28 rfl rfl rfl) ⟨rfl,rfl,trivial⟩ ⟨rfl,trivial⟩ trivial ?_))
     refine A2 ?_
     exact K_ren (g':=fun _=>none) [10,60] (fun j=>cond (Nat.beq j 60) 32 (j)) SubR.nil ((SubKR.consI rfl (ImpK.of xf6.symm)) ((SubKR.consI rfl (ImpK.of (by rw [List.length_append];rfl))) SubKR.nil)) SupG.nil (SupH.cons rfl (supJ xd6) (SupH.cons rfl (supJL rfl) SupH.nil)) (lkOk rfl) rfl rfl (fun _ h=>by cases h) (K_rnd ((xs++[(((winT l p q k0).getD k 0):Int)])) (by rw [take_next hk,hI];simp [iL]) SubK.refl (SupH.cons rfl (supJ xd6) (SupH.cons rfl (supJL rfl) SupH.nil)) (lkOk rfl))
   ·
    intro D hD xs hI
    rw [List.take_length] at hI
    refine A4 ?_
    refine RE (Does.giveL (k:=60) (es:=1) (off:=0) (len:=xs.length) (xs:=xs) (f:=tI) (ts:=rV tI xs) (xd3 (ts:=[.own (.sl 60 1 0 xs.length)]) (0) ti28 rfl rfl) (fun _ h=>h) (rV_all rfl) rfl) ⟨rfl,trivial⟩ ⟨rfl,rfl,trivial⟩ trivial ?_
    refine A5 ?_
    exact xe1 (Plain.loop Plain.mk' hD) rfl rfl rfl (Le.of (by rw [winR,if_pos hok,Int.toNat_natCast,hI])) (Le.int (by rw [winR,if_pos hok]))
   ·
    intro D hD e i;exact i.elim
instance ti45:TyI Tryz.prog 45 1 false:=⟨by kernel_rfl,by kernel_rfl⟩
instance ti98:TyI Tryz.prog 98 1 false:=⟨by kernel_rfl,by kernel_rfl⟩
instance fo72_1:FoI Tryz.prog 72 1 1:=⟨by kernel_rfl⟩
instance fo72_2:FoI Tryz.prog 72 2 2:=⟨by kernel_rfl⟩
instance fi48:FnI Tryz.prog 48:=⟨_,Tryz.func48,by kernel_rfl,rfl⟩
instance fi76:FnI Tryz.prog 76:=⟨_,Tryz.func76,by kernel_rfl,rfl⟩
instance fi77:FnI Tryz.prog 77:=⟨_,Tryz.func77,by kernel_rfl,rfl⟩
instance fi110:FnI Tryz.prog 110:=⟨_,Tryz.func110,by kernel_rfl,rfl⟩
theorem zr4:(Tryz.prog.info? 4).bind (·.zero)=some (.bool false)∧ ∀F w,(tE (.bool false)).p F w (.bool false):=⟨by kernel_rfl,fun _ _=>rfl⟩
theorem zr45:(Tryz.prog.info? 45).bind (·.zero)=some (.int .i64 0)∧ ∀F w,(tE (.int .i64 0)).p F w (.int .i64 0):=⟨by kernel_rfl,fun _ _=>rfl⟩
def wM (o:Option Nat):Int:=(o.map fun (k:Nat)=>(k:Int)).getD 0
def wA (o:Option Nat):Int:=(o.map startI).getD 0
def wB (n:Nat) (o:Option Nat):Int:=(o.map fun k=>startI (k+n)).getD 0
abbrev tWo (n:Nat) (o:Option Nat):Ty:=tWin (wM o) (wA o) (wB n o)
def fO (D:Int) (l:List Tst) (n:Nat) (o:Option Nat):Fr:=match o with
 | none=>fr0
 | some k=>fr (avW D l n k)
def eO (o:Option Nat):Int:=match o with
 | none=>6
 | some _=>0
theorem win_rng {l:List Tst} {p q:Int} {n k:Nat} (hp:0≤p) (hq:q≤65536) (hn:1≤n) (h:k∈winT l p q n):0≤startI k∧startI k < startI (k+n)∧startI (k+n)≤65536:=by
 have h1:=win_is h
 have:=start_lt (show k < k+n by omega) (by omega)
 omega
theorem short_win {D B:Int} {l:List Tst} {p q:Int} {n k:Nat} (hn:nOk D B) (hl:isG 3 D B l) (hp:0≤p) (hq:q≤65536) (h1:1≤n) (h:k∈winT l p q n):short (avW D l n k):=by
 have:=win_rng hp hq h1 h
 exact short_av hn hl this.1 this.2.1 this.2.2
theorem cmp_gt {a b:Rat}:0 < cmpQ a b↔b < a:=by
 unfold cmpQ
 by_cases h1:a < b
 ·rw [if_pos h1]
  exact ⟨fun h=>by omega,fun h=>absurd h (Rat.not_lt.2 (Rat.le_of_lt h1))⟩
 ·rw [if_neg h1]
  by_cases h2:a=b
  ·rw [if_pos h2];subst h2
   exact ⟨fun h=>by omega,fun h=>absurd h (Rat.not_lt.2 Rat.le_refl)⟩
  ·rw [if_neg h2]
   refine ⟨fun _=>Rat.not_le.1 fun h=> ?_,fun _=>by decide⟩
   rcases Rat.le_iff_lt_or_eq.1 h with h3 | h3
   ·exact h1 h3
   ·exact h2 h3
theorem c_best1 (D B:Int) (l:List Tst) (hn:nOk D B) (h:isG 3 D B l) (hl:l.length≤200000) (m:Int) (x y:Int) (hx:0≤x) (hxy:x < y) (hy:y≤65536):
  CtG Tryz.prog 77 [(20,⟨22,1,false,[.val (tKG KL (tL 8 true tTs l))]⟩)] [.val (tWin m x y),.own (.ptr 20 0)] (.val (tT [tFr (fr (avQ D l x y)),tI 0])) [(20,⟨22,1,false,[.val (tKG KL (tL 8 true tTs l))]⟩)] []:=by
 refine CtG.intro [20] Tryz.func77 rfl Tryz.ntmps77 rfl rfl ⟨⟨rfl,(SupX.lit rfl)⟩,trivial⟩ ?_
 intro w F η
 refine A3 ?_
 refine RE (x8 (k:=3) (n:=4) (agg:=true) zr34.1 zr34.2 rfl) trivial trivial ⟨rfl,trivial⟩ ?_
 refine A5 ?_
 refine RE (d_loadG ti22) ⟨rfl,trivial⟩ ⟨rfl,trivial⟩ trivial ?_
 refine A4 ?_
 refine R3 (x3 (c_average D B l x y hn h hl hx hxy hy) fi37 rfl) rfl rfl rfl ?_
 refine A7 ?_
 exact E_retGN LentC.mk' (rs:=[.cell 3 34,.tmp 4]) rfl rfl ⟨⟨_,_,_,_,_,rfl,rfl,ti34,Le.refl⟩,⟨_,rfl,Le.refl⟩,trivial⟩ ⟨rfl,trivial⟩ ⟨⟨rfl,(SupX.lit rfl)⟩,trivial⟩ rfl
theorem c_greatest (E B:Int) (l:List Tst) (p q:Int) (n:Nat) (hn:nOk E B) (h:isG 3 E B l) (hl:l.length≤200000) (hp:0≤p) (hq:q≤65536) (hn1:1≤n) (hn2:n≤1200):
  CtG Tryz.prog 76 [(104,⟨22,1,false,[.val (tKG KL (tL 8 true tTs l))]⟩),(107,⟨3,1,false,[.val (tI (n:Int))]⟩),(105,⟨3,1,false,[.val (tI p)]⟩),(106,⟨3,1,false,[.val (tI q)]⟩),(120,⟨22,1,false,[.val (tKG KL (tL 8 true tTs l))]⟩)] [.own (.fn 78 [.ptr 104 0,.ptr 107 0,.ptr 105 0,.ptr 106 0]),.own (.fn 77 [.ptr 120 0])] (.val (tT [tWo n (bstT E l p q n),tFr (fO E l n (bstT E l p q n)),tI (eO (bstT E l p q n))])) [] []:=by
 refine CtG.intro [104,107,105,106,120] Tryz.func76 rfl Tryz.ntmps76 rfl rfl ⟨⟨rfl,(SupX.lit rfl)⟩,⟨rfl,(SupX.lit rfl)⟩,⟨rfl,(SupX.lit rfl)⟩,⟨rfl,(SupX.lit rfl)⟩,⟨rfl,(SupX.lit rfl)⟩,trivial⟩ ?_
 intro w F η
 refine A3 ?_
 refine RE (x8 (k:=4) (n:=3) (agg:=true) zr72.1 zr72.2 rfl) trivial trivial ⟨rfl,trivial⟩ (RE (x8 (k:=5) (n:=4) (agg:=true) zr34.1 zr34.2 rfl) trivial trivial ⟨rfl,trivial⟩ (RE (x8 (k:=6) (n:=1) (agg:=false) zr45.1 zr45.2 rfl) trivial trivial ⟨rfl,trivial⟩ ?_))
 refine A4 ?_
 refine RE (x8 (k:=7) (n:=3) (agg:=true) zr72.1 zr72.2 rfl) trivial trivial ⟨rfl,trivial⟩ (RE (x8 (k:=8) (n:=3) (agg:=true) zr72.1 zr72.2 rfl) trivial trivial ⟨rfl,trivial⟩ ?_)
 refine A4 ?_
 refine RE (x8 (k:=9) (n:=4) (agg:=true) zr34.1 zr34.2 rfl) trivial trivial ⟨rfl,trivial⟩ ?_
 refine A4 ?_
 refine RE (x8 (k:=10) (n:=1) (agg:=false) zr4.1 zr4.2 rfl) trivial trivial ⟨rfl,trivial⟩ ?_
 refine A10 ?_
 refine C_range (caps:=[.ptr 4 0,.ptr 7 0,.ptr 5 0,.ptr 6 0]) (κ:=Empty) (fun j=>cond (Nat.beq j 7) 107 (cond (Nat.beq j 6) 106 (cond (Nat.beq j 5) 105 (cond (Nat.beq j 4) 104 (j))))) rfl (fun _ h=>h) trivial (i_possible E B l p q n h hl hn1 hn2) fi78 rfl ⟨rfl,rfl,rfl,rfl,trivial⟩ rfl rfl (fun _ _=>rfl) (upd (upd (upd (upd (upd (upd (upd (upd (fun _=>none) 3 (some (.own (.ptr 3 0)))) 4 (some (.own (.ptr 4 0)))) 5 (some (.own (.ptr 5 0)))) 6 (some (.own (.ptr 6 0)))) 7 (some (.own (.ptr 7 0)))) 8 (some (.own (.ptr 8 0)))) 9 (some (.own (.ptr 9 0)))) 10 (some (.own (.ptr 10 0)))) [3,4,5,6,7,8,9,10,104,107,105,106,120] [3,4,5,6,7,8,9,10] (Sub.cons rfl (Sub.cons rfl (Sub.cons rfl (Sub.cons rfl (Sub.cons rfl (Sub.cons rfl (Sub.cons rfl (Sub.cons rfl Sub.nil)))))))) (SupG.own rfl (SupG.own rfl (SupG.own rfl (SupG.own rfl (SupG.own rfl (SupG.own rfl (SupG.own rfl (SupG.own rfl SupG.nil)))))))) rfl (lkOk rfl) (fun (k:Nat) (o:Option Nat)=>o=bstL E l n ((winT l p q n).take k)) (fun (k:Nat) (o:Option Nat)=>upd (upd (upd (upd (upd (upd (upd (upd (upd (fun _=>none) 3 (some (⟨98,1,false,[.own (.fn 77 [.ptr 120 0])]⟩))) 4 (some (⟨72,3,true,[.val (tWin 0 0 0)]⟩))) 5 (some (⟨34,4,true,[.val (tFr fr0)]⟩))) 6 (some (⟨45,1,false,[.val (tI 0)]⟩))) 7 (some (⟨72,3,true,[.val (tWin 0 0 0)]⟩))) 8 (some (⟨72,3,true,[.val (tWo n o)]⟩))) 9 (some (⟨34,4,true,[.val (tFr (fO E l n o))]⟩))) 10 (some (⟨4,1,false,[.val (tB o.isSome)]⟩))) 120 (some (⟨22,1,false,[.val (tKG KL (tL 8 true tTs l))]⟩))) (fun k x=>(SupH.cons rfl (supJL rfl) (SupH.cons rfl (supJL rfl) (SupH.cons rfl (supJL rfl) (SupH.cons rfl (supJL rfl) (SupH.cons rfl (supJL rfl) (SupH.cons rfl (supJL rfl) (SupH.cons rfl (supJL rfl) (SupH.cons rfl (supJL rfl) (SupH.cons rfl (supJL rfl) SupH.nil)))))))))) (fun k x y hy=>by simp only [List.mem_cons,List.not_mem_nil,or_false] at hy;rcases hy with rfl | rfl | rfl | rfl <;> rfl) (fun _ _=>False) (fun i=>i.elim) (fun _ _ h=>h.elim) (none) rfl ((SubK.consI rfl ImpK.refl) ((SubK.consI rfl ImpK.refl) ((SubK.consI rfl ImpK.refl) ((SubK.consI rfl ImpK.refl) ((SubK.consI rfl ImpK.refl) ((SubK.consI rfl ImpK.refl) ((SubK.consI rfl ImpK.refl) ((SubK.consI rfl ImpK.refl) ((SubK.consI rfl ImpK.refl) SubK.nil))))))))) ?_ ?_ ?_
 ·
  intro D lp o1 o2 O W lη lb V0 k o hk hI
  have hwm:=getD_memN hk
  have hr:=win_rng hp hq hn1 hwm
  have hsw:=short_win hn h hp hq hn1 hwm
  have hnx:=bstL_snoc (D:=E) (l:=l) (n:=n) (k:=((winT l p q n).getD k 0)) (ks:=(winT l p q n).take k)
  rw [←take_next hk,←hI] at hnx
  apply rnd_mk
  ·
   refine A1 ?_
   refine RE (x8 (k:=11) (n:=3) (agg:=true) zr72.1 zr72.2 rfl) trivial trivial ⟨rfl,trivial⟩ ?_
   refine A2 ?_
   exact K_thenF fun _ _ h=>h
  ·
   refine A5 ?_
   refine RE (xj2 (ps:=[.val (tWn n ((winT l p q n).getD k 0))]) (caps:=[.ptr 20 0]) (fun _=>120) (c_best1 E B l hn h hl ((winT l p q n).getD k 0) (startI ((winT l p q n).getD k 0)) (startI (((winT l p q n).getD k 0)+n)) hr.1 hr.2.1 hr.2.2) fi77 rfl (krC (ρ:=fun _=>120) (k:=20) rfl (krN (ρ:=fun _=>120))) (krC (ρ:=fun _=>120) (k:=20) rfl (krN (ρ:=fun _=>120))) ⟨⟨rfl,(SupX.lit rfl)⟩,trivial⟩ rfl) ⟨rfl,rfl,trivial⟩ ⟨rfl,trivial⟩ trivial ?_
   refine A3 ?_
   refine RE (x8 (k:=12) (n:=4) (agg:=true) zr34.1 zr34.2 rfl) trivial trivial ⟨rfl,trivial⟩ ?_
   refine A11 ?_
   refine C_bF rfl (decide_eq_false (by omega)) ?_
   refine A7 ?_
   refine RGcase (t:=29) rfl (fun h106=> ?_) (fun h106=> ?_)
   ·
    have ho:o=none:=by simpa using h106
    subst ho
    refine A16 ?_
    exact K_rnd ((some ((winT l p q n).getD k 0))) (by rw [hnx];rfl) ((SubK.consI rfl ImpK.refl) ((SubK.consI rfl ImpK.refl) ((SubK.consI rfl ImpK.refl) ((SubK.consI rfl ImpK.refl) ((SubK.consI rfl ImpK.refl) ((SubK.consI rfl ImpK.refl) ((SubK.consI rfl ImpK.refl) ((SubK.consI rfl ImpK.refl) ((SubK.consI rfl ImpK.refl) SubK.nil))))))))) (SupH.cons rfl (supJL rfl) (SupH.cons rfl (supJL rfl) (SupH.cons rfl (supJL rfl) (SupH.cons rfl (supJL rfl) (SupH.cons rfl (supJL rfl) (SupH.cons rfl (supJL rfl) (SupH.cons rfl (supJL rfl) (SupH.cons rfl (supJL rfl) (SupH.cons rfl (supJL rfl) SupH.nil))))))))) (lkOk rfl)
   ·
    have ho2:o.isSome=true:=by simpa using h106
    obtain ⟨m,ho⟩:=Option.isSome_iff_exists.1 ho2
    have hmm:m∈winT l p q n:=by
     have hs:=bstL_spec (D:=E) (l:=l) (n:=n) ((winT l p q n).take k) (win_asc.sublist (List.take_sublist ..))
     rw [←hI,ho] at hs
     exact List.mem_of_mem_take hs.1
    subst ho
    refine A2 ?_
    refine RGon h106 rfl (x3 (c_FCmp (avW E l n ((winT l p q n).getD k 0)) (avW E l n m) hsw (short_win hn h hp hq hn1 hmm)) fi110 rfl) rfl ⟨rfl,rfl,trivial⟩ trivial trivial ?_
    refine A4 ?_
    refine xa0 rfl (fun h106_2=> ?_) (fun h106_2=> ?_)
    ·
     refine A8 ?_
     exact K_rnd ((some ((winT l p q n).getD k 0))) (by rw [hnx];exact (if_pos (cmp_gt.1 h106_2)).symm) ((SubK.consI rfl ImpK.refl) ((SubK.consI rfl ImpK.refl) ((SubK.consI rfl ImpK.refl) ((SubK.consI rfl ImpK.refl) ((SubK.consI rfl ImpK.refl) ((SubK.consI rfl ImpK.refl) ((SubK.consI rfl ImpK.refl) ((SubK.consI rfl ImpK.refl) ((SubK.consI rfl ImpK.refl) SubK.nil))))))))) (SupH.cons rfl (supJL rfl) (SupH.cons rfl (supJL rfl) (SupH.cons rfl (supJL rfl) (SupH.cons rfl (supJL rfl) (SupH.cons rfl (supJL rfl) (SupH.cons rfl (supJL rfl) (SupH.cons rfl (supJL rfl) (SupH.cons rfl (supJL rfl) (SupH.cons rfl (supJL rfl) SupH.nil))))))))) (lkOk rfl)
    ·
     refine A2 ?_
     exact K_rnd ((some m)) (by rw [hnx];exact (if_neg (fun hh=>h106_2 (cmp_gt.2 hh))).symm) ((SubK.consI rfl ImpK.refl) ((SubK.consI rfl ImpK.refl) ((SubK.consI rfl ImpK.refl) ((SubK.consI rfl ImpK.refl) ((SubK.consI rfl ImpK.refl) ((SubK.consI rfl ImpK.refl) ((SubK.consI rfl ImpK.refl) ((SubK.consI rfl ImpK.refl) ((SubK.consI rfl ImpK.refl) SubK.nil))))))))) (SupH.cons rfl (supJL rfl) (SupH.cons rfl (supJL rfl) (SupH.cons rfl (supJL rfl) (SupH.cons rfl (supJL rfl) (SupH.cons rfl (supJL rfl) (SupH.cons rfl (supJL rfl) (SupH.cons rfl (supJL rfl) (SupH.cons rfl (supJL rfl) (SupH.cons rfl (supJL rfl) SupH.nil))))))))) (lkOk rfl)
 ·
  intro D hD o hI
  rw [List.take_length] at hI
  have hI:o=bstT E l p q n:=hI
  refine A9 ?_
  refine xc2 rfl (fun h110=> ?_) (fun h110=> ?_)
  ·
   have ho:o=none:=by simpa using h110
   subst ho
   refine A3 ?_
   refine R0 (xb2 (r:=tS [⟨2,true,(tS [⟨1,false,(tE (.bool false))⟩,⟨1,false,(tLm [])⟩])⟩,⟨2,true,(tS [⟨1,false,(tE (.bool false))⟩,⟨1,false,(tLm [])⟩])⟩]) (ts:=[]) bu34 zr34.2 Le.refl) ?_
   refine A7 ?_
   exact E_retGN (LentC.loop LentC.mk' hD) (rs:=[.cell 4 72,.cell 5 34,.cell 6 45]) rfl rfl ⟨⟨_,_,_,_,_,rfl,rfl,ti72,(Le.of (by rw [←hI];rfl))⟩,⟨_,_,_,_,_,rfl,rfl,ti34,(Le.of (by rw [←hI];rfl))⟩,⟨_,_,_,_,_,rfl,rfl,ti45,(Le.int (by rw [←hI];rfl))⟩,trivial⟩ trivial trivial rfl
  ·
   have ho2:o.isSome=true:=by simpa using h110
   obtain ⟨m,ho⟩:=Option.isSome_iff_exists.1 ho2
   subst ho
   refine A12 ?_
   exact E_retGN (LentC.loop LentC.mk' hD) (rs:=[.cell 4 72,.cell 5 34,.cell 6 45]) rfl rfl ⟨⟨_,_,_,_,_,rfl,rfl,ti72,(Le.of (by rw [←hI]))⟩,⟨_,_,_,_,_,rfl,rfl,ti34,(Le.of (by rw [←hI]))⟩,⟨_,_,_,_,_,rfl,rfl,ti45,(Le.int (by rw [←hI];rfl))⟩,trivial⟩ trivial trivial rfl
 ·
  intro D hD e i;exact i.elim
def bO (D:Int) (l:List Tst) (p q n:Int):Option Nat:=if lenOk l p q n then bstT D l p q n.toNat else none
def bE (D:Int) (l:List Tst) (p q n:Int):Int:=if lenOk l p q n then eO (bstT D l p q n.toNat) else 2
theorem c_best (D B:Int) (l:List Tst) (p q n:Int) (hn:nOk D B) (hD: ∀s∈l,s.v.f.dig) (hG:askP l p q=true→isG 3 D B l) (hl:l.length≤200000):
  Ct Tryz.prog 48 [tKG KL (tL 8 true tTs l),tI p,tI q,tI n] (tT [tWo n.toNat (bO D l p q n),tFr (fO D l n.toNat (bO D l p q n)),tI (bE D l p q n)]):=by
 refine Ct.intro Tryz.func48 rfl Tryz.ntmps48 rfl ?_
 intro w F
 refine A3 ?_
 refine RE (x8 (k:=8) (n:=3) (agg:=true) zr72.1 zr72.2 rfl) trivial trivial ⟨rfl,trivial⟩ (RE (x8 (k:=9) (n:=4) (agg:=true) zr34.1 zr34.2 rfl) trivial trivial ⟨rfl,trivial⟩ ?_)
 refine A6 ?_
 refine RE (d_loadG ti22) ⟨rfl,trivial⟩ ⟨rfl,trivial⟩ trivial ?_
 refine A2 ?_
 refine R3 (x3 (c_isAsked l p q hD) fi34 rfl) rfl rfl rfl ?_
 refine A2 ?_
 refine RGcase (t:=16) rfl (fun h118=> ?_) (fun h118=> ?_)
 ·
  have hk:askP l p q=false:=by simpa using h118
  refine A9 ?_
  refine R0 (xb2 (r:=tS [⟨1,false,(tE (.int .i64 0))⟩,⟨1,false,(tE (.int .i64 0))⟩,⟨1,false,(tE (.int .i64 0))⟩]) (ts:=[]) bu72 zr72.2 Le.refl) (R0 (xb2 (r:=tS [⟨2,true,(tS [⟨1,false,(tE (.bool false))⟩,⟨1,false,(tLm [])⟩])⟩,⟨2,true,(tS [⟨1,false,(tE (.bool false))⟩,⟨1,false,(tLm [])⟩])⟩]) (ts:=[]) bu34 zr34.2 Le.refl) ?_)
  refine A7 ?_
  exact xa8 Plain.mk' (rs:=[.cell 8 72,.cell 9 34,.tmp 10]) rfl rfl ⟨⟨_,_,_,_,_,rfl,rfl,ti72,(Le.of (by rw [bO,if_neg (fun h=>by have:=h.1;rw [hk] at this;cases this)];rfl))⟩,⟨_,_,_,_,_,rfl,rfl,ti34,(Le.of (by rw [bO,if_neg (fun h=>by have:=h.1;rw [hk] at this;cases this)];rfl))⟩,⟨_,rfl,(Le.int (by rw [bE,if_neg (fun h=>by have:=h.1;rw [hk] at this;cases this)]))⟩,trivial⟩
 ·
  have hk:askP l p q=true:=by simpa using h118
  have h:=hG hk
  have hk2:=(xo1.1 hk).2
  refine A1 ?_
  refine RGon h118 rfl (x3 (c_isLength n) fi49 rfl) rfl ⟨rfl,trivial⟩ trivial trivial ?_
  refine A4 ?_
  refine xc2 rfl (fun h118_2=> ?_) (fun h118_2=> ?_)
  ·
   have hn0: ¬(1≤n∧n≤1200):=by
    have h1:=h118_2
    simp at h1;omega
   refine A2 ?_
   refine R0 (xb2 (r:=tS [⟨1,false,(tE (.int .i64 0))⟩,⟨1,false,(tE (.int .i64 0))⟩,⟨1,false,(tE (.int .i64 0))⟩]) (ts:=[]) bu72 zr72.2 Le.refl) (R0 (xb2 (r:=tS [⟨2,true,(tS [⟨1,false,(tE (.bool false))⟩,⟨1,false,(tLm [])⟩])⟩,⟨2,true,(tS [⟨1,false,(tE (.bool false))⟩,⟨1,false,(tLm [])⟩])⟩]) (ts:=[]) bu34 zr34.2 Le.refl) ?_)
   refine A7 ?_
   exact xa8 Plain.mk' (rs:=[.cell 8 72,.cell 9 34,.tmp 10]) rfl rfl ⟨⟨_,_,_,_,_,rfl,rfl,ti72,(Le.of (by rw [bO,if_neg (fun h=>hn0 h.2)];rfl))⟩,⟨_,_,_,_,_,rfl,rfl,ti34,(Le.of (by rw [bO,if_neg (fun h=>hn0 h.2)];rfl))⟩,⟨_,rfl,(Le.int (by rw [bE,if_neg (fun h=>hn0 h.2)]))⟩,trivial⟩
  ·
   have hn0:1≤n∧n≤1200:=by simpa using h118_2
   have hok:lenOk l p q n:=⟨hk,hn0⟩
   obtain ⟨k0,rfl⟩: ∃k0:Nat,n=k0:=⟨n.toNat,by omega⟩
   have hn1:1≤k0:=by omega
   have hn2:k0≤1200:=by omega
   refine A8 ?_
   refine RE (xe3 (fun j=>cond (Nat.beq j 6) 2027 (cond (Nat.beq j 5) 1027 (cond (Nat.beq j 4) 27 (3027)))) (c_possible l p q k0) fi50 rfl (krN (ρ:=fun j=>cond (Nat.beq j 6) 2027 (cond (Nat.beq j 5) 1027 (cond (Nat.beq j 4) 27 (3027))))) (krC (ρ:=fun j=>cond (Nat.beq j 6) 2027 (cond (Nat.beq j 5) 1027 (cond (Nat.beq j 4) 27 (3027)))) (k:=4) rfl (krC (ρ:=fun j=>cond (Nat.beq j 6) 2027 (cond (Nat.beq j 5) 1027 (cond (Nat.beq j 4) 27 (3027)))) (k:=7) rfl (krC (ρ:=fun j=>cond (Nat.beq j 6) 2027 (cond (Nat.beq j 5) 1027 (cond (Nat.beq j 4) 27 (3027)))) (k:=5) rfl (krC (ρ:=fun j=>cond (Nat.beq j 6) 2027 (cond (Nat.beq j 5) 1027 (cond (Nat.beq j 4) 27 (3027)))) (k:=6) rfl (krN (ρ:=fun j=>cond (Nat.beq j 6) 2027 (cond (Nat.beq j 5) 1027 (cond (Nat.beq j 4) 27 (3027))))))))) ⟨⟨rfl,(SupX.lit rfl)⟩,⟨rfl,(SupX.lit rfl)⟩,⟨rfl,(SupX.lit rfl)⟩,⟨rfl,(SupX.lit rfl)⟩,trivial⟩ rfl) ⟨rfl,rfl,rfl,rfl,trivial⟩ trivial ⟨rfl,rfl,rfl,rfl,trivial⟩ (R1 (xh1 (ps:=[.ptr 4 0]) rfl) rfl (RE (xe3 (fun j=>cond (Nat.beq j 107) 3027 (cond (Nat.beq j 106) 2027 (cond (Nat.beq j 105) 1027 (cond (Nat.beq j 104) 27 (4))))) (c_greatest D B l p q k0 hn h hl (by omega) (by omega) hn1 hn2) fi76 rfl (krC (ρ:=fun j=>cond (Nat.beq j 107) 3027 (cond (Nat.beq j 106) 2027 (cond (Nat.beq j 105) 1027 (cond (Nat.beq j 104) 27 (4))))) (k:=104) rfl (krC (ρ:=fun j=>cond (Nat.beq j 107) 3027 (cond (Nat.beq j 106) 2027 (cond (Nat.beq j 105) 1027 (cond (Nat.beq j 104) 27 (4))))) (k:=107) rfl (krC (ρ:=fun j=>cond (Nat.beq j 107) 3027 (cond (Nat.beq j 106) 2027 (cond (Nat.beq j 105) 1027 (cond (Nat.beq j 104) 27 (4))))) (k:=105) rfl (krC (ρ:=fun j=>cond (Nat.beq j 107) 3027 (cond (Nat.beq j 106) 2027 (cond (Nat.beq j 105) 1027 (cond (Nat.beq j 104) 27 (4))))) (k:=106) rfl (krC (ρ:=fun j=>cond (Nat.beq j 107) 3027 (cond (Nat.beq j 106) 2027 (cond (Nat.beq j 105) 1027 (cond (Nat.beq j 104) 27 (4))))) (k:=120) rfl (krN (ρ:=fun j=>cond (Nat.beq j 107) 3027 (cond (Nat.beq j 106) 2027 (cond (Nat.beq j 105) 1027 (cond (Nat.beq j 104) 27 (4))))))))))) (krN (ρ:=fun j=>cond (Nat.beq j 107) 3027 (cond (Nat.beq j 106) 2027 (cond (Nat.beq j 105) 1027 (cond (Nat.beq j 104) 27 (4)))))) trivial rfl) ⟨rfl,rfl,trivial⟩ ⟨rfl,rfl,rfl,rfl,rfl,trivial⟩ trivial ?_))
   refine A9 ?_
   exact xa8 Plain.mk' (rs:=[.cell 8 72,.cell 9 34,.tmp 10]) rfl rfl ⟨⟨_,_,_,_,_,rfl,rfl,ti72,(Le.of (by rw [bO,if_pos hok,Int.toNat_natCast]))⟩,⟨_,_,_,_,_,rfl,rfl,ti34,(Le.of (by rw [bO,if_pos hok,Int.toNat_natCast]))⟩,⟨_,rfl,(Le.int (by rw [bE,if_pos hok,Int.toNat_natCast]))⟩,trivial⟩
theorem c_When (D B:Int) (l:List Tst) (p q n:Int) (hn:nOk D B) (hD: ∀s∈l,s.v.f.dig) (hG:askP l p q=true→isG 3 D B l) (hl:l.length≤200000):
  Ct Tryz.prog 26 [tKG KL (tL 8 true tTs l),tI p,tI q,tI n] (tT [tI (wM (bO D l p q n)),tI (bE D l p q n)]):=by
 refine Ct.intro Tryz.func26 rfl Tryz.ntmps26 rfl ?_
 intro w F
 refine A12 ?_
 refine RE (x3 (c_best D B l p q n hn hD hG hl) fi48 rfl) ⟨rfl,rfl,rfl,rfl,trivial⟩ trivial trivial ?_
 refine A4 ?_
 refine RE (x8 (k:=10) (n:=3) (agg:=true) zr72.1 zr72.2 rfl) trivial trivial ⟨rfl,trivial⟩ (RE (x8 (k:=11) (n:=4) (agg:=true) zr34.1 zr34.2 rfl) trivial trivial ⟨rfl,trivial⟩ ?_)
 refine A15 ?_
 exact xe1 Plain.mk' rfl rfl rfl Le.refl Le.refl
theorem c_Best (D B:Int) (l:List Tst) (p q n:Int) (hn:nOk D B) (hD: ∀s∈l,s.v.f.dig) (hG:askP l p q=true→isG 3 D B l) (hl:l.length≤200000):
  Ct Tryz.prog 25 [tKG KL (tL 8 true tTs l),tI p,tI q,tI n] (tT [tFr (fO D l n.toNat (bO D l p q n)),tI (bE D l p q n)]):=by
 refine Ct.intro Tryz.func25 rfl Tryz.ntmps25 rfl ?_
 intro w F
 refine A2 ?_
 refine RE (x8 (k:=8) (n:=4) (agg:=true) zr34.1 zr34.2 rfl) trivial trivial ⟨rfl,trivial⟩ ?_
 refine A9 ?_
 refine RE (x3 (c_best D B l p q n hn hD hG hl) fi48 rfl) ⟨rfl,rfl,rfl,rfl,trivial⟩ trivial trivial ?_
 refine A4 ?_
 refine RE (x8 (k:=10) (n:=3) (agg:=true) zr72.1 zr72.2 rfl) trivial trivial ⟨rfl,trivial⟩ (RE (x8 (k:=11) (n:=4) (agg:=true) zr34.1 zr34.2 rfl) trivial trivial ⟨rfl,trivial⟩ ?_)
 refine A14 ?_
 exact xa8 Plain.mk' (rs:=[.cell 8 34,.tmp 9]) rfl rfl ⟨⟨_,_,_,_,_,rfl,rfl,ti34,Le.refl⟩,⟨_,rfl,Le.refl⟩,trivial⟩
instance fi12:FnI Tryz.prog 12:=⟨_,Tryz.func12,by kernel_rfl,rfl⟩
instance fi13:FnI Tryz.prog 13:=⟨_,Tryz.func13,by kernel_rfl,rfl⟩
def xc (n d:Int):Va:=⟨3,fr (kfr n d),0⟩
theorem xc_ok {D B n d x:Int} (hd:0 < d) (e:n*D=x*d) (hD:0 < D) (hDb:D≤9223372036854775807) (h1: -B≤x) (h2:x≤B) (hB:B≤9223372036854775807):gOk 3 D B (xc n d)∧wt D (xc n d)=x:=by
 have e2:kfr n d=Rat.divInt x D:=by
  rw [kfr_big (by omega)]
  exact (Rat.divInt_eq_divInt_iff (by omega) (by omega)).2 e
 rw [xc,e2]
 exact ⟨gOk.mk (.inr rfl) hD hDb h1 h2 hB,wt_is hD (rat_fr _)⟩
theorem c_pay (a b n d:Int) (h1: -9223372036854775808≤n) (h2:n≤9223372036854775807) (h3: -9223372036854775808≤d) (h4:d≤9223372036854775807):
  Ct Tryz.prog 13 [tI a,tI b,tI n,tI d] (tTs ⟨a,b,xc n d⟩):=by
 refine Ct.intro Tryz.func13 rfl Tryz.ntmps13 rfl ?_
 intro w F
 refine A2 ?_
 refine RE (x8 (k:=8) (n:=8) (agg:=true) zr38.1 zr38.2 rfl) trivial trivial ⟨rfl,trivial⟩ ?_
 refine A8 ?_
 refine R2 (x3 (c_Cash n d h1 h2 h3 h4) fi12 rfl) rfl rfl (R3 (xb2 (r:=tS [⟨1,false,tI a⟩,⟨1,false,tI b⟩,⟨6,true,tVa (xc n d)⟩]) (ts:=[(0,tI a),(1,tI b),(2,tVa (xc n d))]) bu38 zr38.2 (Bc 0 rfl rfl rfl (Bc 1 rfl rfl rfl (Bc 2 rfl rfl rfl Le.refl)))) rfl rfl rfl ?_)
 refine A4 ?_
 exact xb7 Plain.mk' rfl ⟨_,_,_,_,_,rfl,rfl,ti38,Le.refl⟩
def exP:List Tst:=[⟨0,59,xc 100 1⟩,⟨59,90,xc 160 1⟩,⟨90,120,xc 130 1⟩,⟨125,200,xc 900 1⟩]
theorem c_example:
  Ct Tryz.prog 24 [] (tL 8 true tTs exP):=by
 refine Ct.intro Tryz.func24 rfl Tryz.ntmps24 rfl ?_
 intro w F
 refine A7 ?_
 refine RE (x3 (c_pay 0 59 100 1 (by decide) (by decide) (by decide) (by decide)) fi13 rfl) ⟨rfl,rfl,rfl,rfl,trivial⟩ trivial trivial (RE (x3 (c_pay 59 90 160 1 (by decide) (by decide) (by decide) (by decide)) fi13 rfl) ⟨rfl,rfl,rfl,rfl,trivial⟩ trivial trivial (RE (x3 (c_pay 90 120 130 1 (by decide) (by decide) (by decide) (by decide)) fi13 rfl) ⟨rfl,rfl,rfl,rfl,trivial⟩ trivial trivial (RE (x3 (c_pay 125 200 900 1 (by decide) (by decide) (by decide) (by decide)) fi13 rfl) ⟨rfl,rfl,rfl,rfl,trivial⟩ trivial trivial (RE (xd9 (n:=4) (f:=tTs) exP Tryz.underlying22 el38 zf38 rfl (fun _=>inferInstance) rfl rfl rfl) ⟨rfl,rfl,rfl,rfl,trivial⟩ trivial trivial ?_))))
 refine A4 ?_
 exact x4 Plain.mk' rfl rfl Le.refl
instance fi17:FnI Tryz.prog 17:=⟨_,Tryz.func17,by kernel_rfl,rfl⟩
instance fi24:FnI Tryz.prog 24:=⟨_,Tryz.func24,by kernel_rfl,rfl⟩
instance fi25:FnI Tryz.prog 25:=⟨_,Tryz.func25,by kernel_rfl,rfl⟩
instance fi26:FnI Tryz.prog 26:=⟨_,Tryz.func26,by kernel_rfl,rfl⟩
instance fi27:FnI Tryz.prog 27:=⟨_,Tryz.func27,by kernel_rfl,rfl⟩
instance fi28:FnI Tryz.prog 28:=⟨_,Tryz.func28,by kernel_rfl,rfl⟩
theorem nOk3:nOk 3 2700:=⟨⟨by decide,by decide⟩,by decide,by decide⟩
theorem xc1_ok {n:Int} (h:0≤n) (h2:n≤900):gOk 3 3 2700 (xc n 1):=(xc_ok (D:=3) (B:=2700) (n:=n) (d:=1) (x:=n*3) (by decide) (by omega) (by decide) (by decide) (by omega) (by omega) (by decide)).1
theorem xf4:isG 3 3 2700 exP:=⟨by decide+kernel,fun s hs=>by
 simp only [exP,List.mem_cons,List.not_mem_nil,or_false] at hs
 rcases hs with rfl | rfl | rfl | rfl <;> exact xc1_ok (by decide) (by decide)⟩
theorem exAv:avR 3 exP 0 90=(fr (kfr 362 3),0):=by decide+kernel
theorem exAv2:(avR 3 exP 0 121).2=6:=by decide+kernel
theorem exWi:winR exP 0 120 3=([0,1],0):=by decide+kernel
theorem c_exA:Ct Tryz.prog 17 [tL 8 true tTs exP,tI 0,tI 90] (tT [tFr (fr (kfr 362 3)),tI 0]):=by
 have h:=c_Average 3 2700 exP 0 90 nOk3 xf4.dig (fun _=>xf4) (by decide)
 rw [exAv] at h;exact h
theorem c_exA2:Ct Tryz.prog 17 [tL 8 true tTs exP,tI 0,tI 121] (tT [tFr (avR 3 exP 0 121).1,tI 6]):=by
 have h:=c_Average 3 2700 exP 0 121 nOk3 xf4.dig (fun _=>xf4) (by decide)
 rw [exAv2] at h;exact h
theorem c_exW:Ct Tryz.prog 27 [tKG KL (tL 8 true tTs exP),tI 0,tI 120,tI 3] (tT [tL 1 false tI [0,1],tI 0]):=by
 have h:=c_Windows 3 2700 exP 0 120 3 xf4.dig (fun _=>xf4) (by decide)
 rw [exWi] at h;exact h
theorem c_sameFv (f g:Fr) (e:f=g):Ct Tryz.prog 23 [tFr f,tFr g] (tB true):=by
 have h:=xr8 f g
 rw [decide_eq_true e] at h;exact h
theorem c_sameIv (u w:List Int) (e:u=w):Ct Tryz.prog 28 [tL 1 false tI u,tL 1 false tI w] (tB true):=by
 have h:=c_SameInts u w
 rw [decide_eq_true e] at h;exact h
theorem exB1:fO 3 exP ((1:Int).toNat) (bO 3 exP 0 120 1)=fr (kfr 160 1)∧bE 3 exP 0 120 1=0∧wM (bO 3 exP 0 120 1)=2:=by decide+kernel
theorem c_exB1:Ct Tryz.prog 25 [tKG KL (tL 8 true tTs exP),tI 0,tI 120,tI 1] (tT [tFr (fr (kfr 160 1)),tI 0]):=by
 have h:=c_Best 3 2700 exP 0 120 1 nOk3 xf4.dig (fun _=>xf4) (by decide)
 rw [exB1.1,exB1.2.1] at h;exact h
theorem c_exWB1:Ct Tryz.prog 26 [tKG KL (tL 8 true tTs exP),tI 0,tI 120,tI 1] (tT [tI 2,tI 0]):=by
 have h:=c_When 3 2700 exP 0 120 1 nOk3 xf4.dig (fun _=>xf4) (by decide)
 rw [exB1.2.2,exB1.2.1] at h;exact h
theorem exB2:fO 3 exP ((2:Int).toNat) (bO 3 exP 0 120 2)=fr (kfr 8860 61)∧bE 3 exP 0 120 2=0∧wM (bO 3 exP 0 120 2)=2:=by decide+kernel
theorem c_exB2:Ct Tryz.prog 25 [tKG KL (tL 8 true tTs exP),tI 0,tI 120,tI 2] (tT [tFr (fr (kfr 8860 61)),tI 0]):=by
 have h:=c_Best 3 2700 exP 0 120 2 nOk3 xf4.dig (fun _=>xf4) (by decide)
 rw [exB2.1,exB2.2.1] at h;exact h
theorem c_exWB2:Ct Tryz.prog 26 [tKG KL (tL 8 true tTs exP),tI 0,tI 120,tI 2] (tT [tI 2,tI 0]):=by
 have h:=c_When 3 2700 exP 0 120 2 nOk3 xf4.dig (fun _=>xf4) (by decide)
 rw [exB2.2.2,exB2.2.1] at h;exact h
theorem exB3:fO 3 exP ((4:Int).toNat) (bO 3 exP 1 120 4)=fr0∧bE 3 exP 1 120 4=6∧wM (bO 3 exP 1 120 4)=0:=by decide+kernel
theorem c_exB3:Ct Tryz.prog 25 [tKG KL (tL 8 true tTs exP),tI 1,tI 120,tI 4] (tT [tFr (fr0),tI 6]):=by
 have h:=c_Best 3 2700 exP 1 120 4 nOk3 xf4.dig (fun _=>xf4) (by decide)
 rw [exB3.1,exB3.2.1] at h;exact h
theorem exB4:fO 3 exP ((1:Int).toNat) (bO 3 exP 0 200 1)=fr (kfr 900 1)∧bE 3 exP 0 200 1=0∧wM (bO 3 exP 0 200 1)=5:=by decide+kernel
theorem c_exB4:Ct Tryz.prog 25 [tKG KL (tL 8 true tTs exP),tI 0,tI 200,tI 1] (tT [tFr (fr (kfr 900 1)),tI 0]):=by
 have h:=c_Best 3 2700 exP 0 200 1 nOk3 xf4.dig (fun _=>xf4) (by decide)
 rw [exB4.1,exB4.2.1] at h;exact h
theorem c_exWB4:Ct Tryz.prog 26 [tKG KL (tL 8 true tTs exP),tI 0,tI 200,tI 1] (tT [tI 5,tI 0]):=by
 have h:=c_When 3 2700 exP 0 200 1 nOk3 xf4.dig (fun _=>xf4) (by decide)
 rw [exB4.2.2,exB4.2.1] at h;exact h
theorem c_awake09:
  Ct0 KL Tryz.prog 8 (tB true):=by
 refine Ct0.intro 137 Tryz.func8 rfl Tryz.ntmps8 rfl ?_
 intro w F
 refine A7 ?_
 refine R0 (x3 c_example fi24 rfl) ?_
 refine A6 ?_
 refine R3 (x3 c_exA fi17 rfl) rfl rfl rfl ?_
 refine A3 ?_
 refine RE (x8 (k:=2) (n:=4) (agg:=true) zr34.1 zr34.2 rfl) trivial trivial ⟨rfl,trivial⟩ ?_
 refine A7 ?_
 refine R3 (x3 c_exA2 fi17 rfl) rfl rfl rfl ?_
 refine A3 ?_
 refine RE (x8 (k:=4) (n:=4) (agg:=true) zr34.1 zr34.2 rfl) trivial trivial ⟨rfl,trivial⟩ ?_
 refine A7 ?_
 refine RE (xk9 137 car_K c_exB1 fi25 rfl) ⟨rfl,rfl,rfl,rfl,rfl,trivial⟩ trivial trivial ?_
 refine A3 ?_
 refine RE (x8 (k:=6) (n:=4) (agg:=true) zr34.1 zr34.2 rfl) trivial trivial ⟨rfl,trivial⟩ ?_
 refine A7 ?_
 refine RE (xk9 137 car_K c_exB2 fi25 rfl) ⟨rfl,rfl,rfl,rfl,rfl,trivial⟩ trivial trivial ?_
 refine A3 ?_
 refine RE (x8 (k:=8) (n:=4) (agg:=true) zr34.1 zr34.2 rfl) trivial trivial ⟨rfl,trivial⟩ ?_
 refine A7 ?_
 refine RE (xk9 137 car_K c_exB3 fi25 rfl) ⟨rfl,rfl,rfl,rfl,rfl,trivial⟩ trivial trivial ?_
 refine A3 ?_
 refine RE (x8 (k:=10) (n:=4) (agg:=true) zr34.1 zr34.2 rfl) trivial trivial ⟨rfl,trivial⟩ ?_
 refine A7 ?_
 refine RE (xk9 137 car_K c_exB4 fi25 rfl) ⟨rfl,rfl,rfl,rfl,rfl,trivial⟩ trivial trivial ?_
 refine A3 ?_
 refine RE (x8 (k:=12) (n:=4) (agg:=true) zr34.1 zr34.2 rfl) trivial trivial ⟨rfl,trivial⟩ ?_
 refine A7 ?_
 refine RE (xk9 137 car_K c_exWB1 fi26 rfl) ⟨rfl,rfl,rfl,rfl,rfl,trivial⟩ trivial trivial ?_
 refine A10 ?_
 refine RE (xk9 137 car_K c_exWB2 fi26 rfl) ⟨rfl,rfl,rfl,rfl,rfl,trivial⟩ trivial trivial ?_
 refine A10 ?_
 refine RE (xk9 137 car_K c_exWB4 fi26 rfl) ⟨rfl,rfl,rfl,rfl,rfl,trivial⟩ trivial trivial ?_
 refine A10 ?_
 refine RE (xk9 137 car_K c_exW fi27 rfl) ⟨rfl,rfl,rfl,rfl,rfl,trivial⟩ trivial trivial ?_
 refine A18 ?_
 refine A9 ?_
 refine RGon (decide_eq_false (by omega)) rfl xc7 rfl ⟨rfl,trivial⟩ trivial trivial (RGon (decide_eq_false (by omega)) rfl d_neq rfl ⟨rfl,rfl,trivial⟩ trivial trivial (R2 (xd7 (decide_eq_false (by omega))) rfl rfl ?_))
 refine A1 ?_
 refine RGon (decide_eq_false (by omega)) rfl xc7 rfl ⟨rfl,trivial⟩ trivial trivial (RGon (decide_eq_false (by omega)) rfl d_neq rfl ⟨rfl,rfl,trivial⟩ trivial trivial (R2 (xd7 (decide_eq_false (by omega))) rfl rfl ?_))
 refine A1 ?_
 refine RGon (decide_eq_false (by omega)) rfl xc7 rfl ⟨rfl,trivial⟩ trivial trivial (RGon (decide_eq_false (by omega)) rfl d_neq rfl ⟨rfl,rfl,trivial⟩ trivial trivial (R2 (xd7 (decide_eq_false (by omega))) rfl rfl ?_))
 refine A1 ?_
 refine RGon (decide_eq_false (by omega)) rfl xc7 rfl ⟨rfl,trivial⟩ trivial trivial (RGon (decide_eq_false (by omega)) rfl d_neq rfl ⟨rfl,rfl,trivial⟩ trivial trivial (R2 (xd7 (decide_eq_false (by omega))) rfl rfl ?_))
 refine A1 ?_
 refine RGon (decide_eq_false (by omega)) rfl xc7 rfl ⟨rfl,trivial⟩ trivial trivial (RGon (decide_eq_false (by omega)) rfl d_neq rfl ⟨rfl,rfl,trivial⟩ trivial trivial (R2 (xd7 (decide_eq_false (by omega))) rfl rfl ?_))
 refine A1 ?_
 refine RGon (decide_eq_false (by omega)) rfl xc7 rfl ⟨rfl,trivial⟩ trivial trivial (RGon (decide_eq_false (by omega)) rfl (xd9 (n:=2) (f:=fun n:Int=>tI n) [0,1] Tryz.underlying28 el3 zf3 rfl (fun _=>inferInstance) rfl rfl rfl) rfl ⟨rfl,rfl,trivial⟩ trivial trivial (RGon (decide_eq_false (by omega)) rfl (x3 (c_sameIv _ _ rfl) fi28 rfl) rfl ⟨rfl,rfl,trivial⟩ trivial trivial (RGon (decide_eq_false (by omega)) rfl d_not rfl ⟨rfl,trivial⟩ trivial trivial (R2 (xd7 (decide_eq_false (by omega))) rfl rfl ?_))))
 refine A14 ?_
 refine R2 (x3 (c_KFrac 362 3 (by decide) (by decide) (by decide) (by decide)) fi29 rfl) rfl rfl (R3 (d_callF (c_sameFv _ _ rfl) fi23 rfl) rfl rfl rfl ?_)
 refine A3 ?_
 refine RGon rfl rfl (x3 (c_KFrac 160 1 (by decide) (by decide) (by decide) (by decide)) fi29 rfl) rfl ⟨rfl,rfl,trivial⟩ trivial trivial (RGon rfl rfl (d_callF (c_sameFv _ _ rfl) fi23 rfl) rfl ⟨rfl,rfl,rfl,trivial⟩ trivial trivial ?_)
 refine A4 ?_
 refine RGon rfl rfl (x3 (c_KFrac 8860 61 (by decide) (by decide) (by decide) (by decide)) fi29 rfl) rfl ⟨rfl,rfl,trivial⟩ trivial trivial (RGon rfl rfl (d_callF (c_sameFv _ _ rfl) fi23 rfl) rfl ⟨rfl,rfl,rfl,trivial⟩ trivial trivial ?_)
 refine A4 ?_
 refine RGon rfl rfl (x3 (c_KFrac 900 1 (by decide) (by decide) (by decide) (by decide)) fi29 rfl) rfl ⟨rfl,rfl,trivial⟩ trivial trivial (RGon rfl rfl (d_callF (c_sameFv _ _ rfl) fi23 rfl) rfl ⟨rfl,rfl,rfl,trivial⟩ trivial trivial ?_)
 refine A5 ?_
 exact x4 Plain.mk' rfl rfl Le.refl
end An.S
namespace An.S
open Go
@[irreducible] def rowD {α:Type} (f:Nat→α):List α:=(List.range 65536).map f
theorem xm4 {α:Type} {f:Nat→α}:(rowD f).length=65536:=by unfold rowD;rw [List.length_map,List.length_range]
theorem rowD_get {α:Type} {f:Nat→α} {d:Nat} (h:d < 65536):(rowD f)[d]? =some (f d):=by
 unfold rowD;rw [List.getElem?_map,List.getElem?_range h];rfl
theorem rowD_set {α:Type} {f g:Nat→α} {d:Nat} {v:α} (hv:g d=v) (hg: ∀e,e≠d→g e=f e):(rowD f).set d v=rowD g:=by
 apply List.ext_getElem?
 intro e
 rw [List.getElem?_set]
 by_cases he:d=e
 ·subst he
  rw [if_pos rfl]
  by_cases h:d < 65536
  ·rw [if_pos (by rw [xm4];exact h),rowD_get h,hv]
  ·rw [if_neg (by rw [xm4];exact h),List.getElem?_eq_none (by rw [xm4];omega)]
 ·rw [if_neg he]
  by_cases h:e < 65536
  ·rw [rowD_get h,rowD_get h,hg e (fun h'=>he h'.symm)]
  ·rw [List.getElem?_eq_none (by rw [xm4];omega),List.getElem?_eq_none (by rw [xm4];omega)]
theorem rowD_rep {α:Type} (x:α):List.replicate 65536 x=rowD fun _=>x:=by
 unfold rowD
 rw [List.map_const',List.length_range]
def tabI (l:List Tst):Nat→Nat→Int
 | 0,_=>0
 | i+1,d=>if (l.getD i tst0).lo≤d∧(d:Int) < (l.getD i tst0).hi then (i:Int)+1 else tabI l i d
def tabF (l:List Tst) (i:Nat) (e:Int) (d:Nat):Int:=if (l.getD i tst0).lo≤d∧(d:Int) < e then (i:Int)+1 else tabI l i d
theorem tabF_0 {l:List Tst} {i:Nat}:tabF l i (l.getD i tst0).lo=tabI l i:=by
 funext d;rw [tabF,if_neg (by omega)]
theorem tabF_1 {l:List Tst} {i:Nat} {e:Int} (h:e=(l.getD i tst0).hi):tabF l i e=tabI l (i+1):=by
 subst h;funext d;rfl
theorem tab_set {l:List Tst} {i d:Nat} {e:Int} (he:e=(d:Int)) (h:(l.getD i tst0).lo≤d):(rowD (tabF l i e)).set d ((i:Int)+1)=rowD (tabF l i (e+1)):=by
 subst he
 refine rowD_set (by rw [tabF,if_pos (by omega)]) fun x hx=> ?_
 rw [tabF,tabF]
 by_cases h1:(l.getD i tst0).lo≤x∧(x:Int) < d
 ·rw [if_pos h1,if_pos (by omega)]
 ·rw [if_neg h1,if_neg (by omega)]
theorem valT_take {l:List Tst} {i:Nat} (hi:i < l.length) (d:Int):valT (l.take (i+1)) d=(valT (l.take i) d).or (if (l.getD i tst0).lo≤d∧d < (l.getD i tst0).hi then some (l.getD i tst0).v else none):=by
 rw [List.take_succ_eq_append_getElem hi,xq6,xi6,List.getD_eq_getElem?_getD,List.getElem?_eq_getElem hi];rfl
theorem tab_val {l:List Tst} (h:tRight l=true) (d:Nat): ∀i,i≤l.length→(tabI l i d=0∧valT (l.take i) d=none)∨ ∃j,j < i∧tabI l i d=(j:Int)+1∧valT (l.take i) d=some (l.getD j tst0).v
 | 0,_=> .inl ⟨rfl,by simp [valT]⟩
 | i+1,hi=>by
  have ih:=tab_val h d i (by omega)
  rw [valT_take (by omega)]
  by_cases hd:(l.getD i tst0).lo≤d∧(d:Int) < (l.getD i tst0).hi
  ·refine .inr ⟨i,by omega,by rw [tabI,if_pos hd],?_⟩
   have hn:valT (l.take i) d=none:=valT_none.2 fun s hs hsd=>by
    obtain ⟨j,hj,e⟩:=List.getElem_of_mem hs
    rw [List.length_take] at hj
    have h1:=xo4 h (i:=j) (j:=i) (by omega) (by omega)
    rw [List.getElem_take] at e
    have e2:l.getD j tst0=s:=by rw [List.getD_eq_getElem?_getD,List.getElem?_eq_getElem (by omega)];exact e
    rw [e2] at h1;omega
   rw [hn,if_pos hd];rfl
  ·rw [tabI,if_neg hd,if_neg hd,Option.or_none]
   rcases ih with ih | ⟨j,hj,h1,h2⟩
   ·exact .inl ih
   ·exact .inr ⟨j,by omega,h1,h2⟩
abbrev tabT (l:List Tst):Nat→Int:=tabI l l.length
theorem tabT_val {l:List Tst} (h:tRight l=true) (d:Nat):(tabT l d=0∧valT l d=none)∨ ∃j,j < l.length∧tabT l d=(j:Int)+1∧valT l d=some (l.getD j tst0).v:=by
 have:=tab_val h d l.length (Nat.le_refl _)
 rwa [List.take_length] at this
theorem tab0 {l:List Tst}:tabI l 0=fun _=>0:=rfl
attribute [irreducible] tabI
theorem subA_get {l:List Tst} {a b:Int} {j:Nat} (hj:j < (subA l a b).length):(subA l a b).getD j tst0=l.getD (fstA l a+j) tst0∧fstA l a+j < l.length:=by
 have hl:(subA l a b).length=min (endA l b) l.length - fstA l a:=by rw [subA,List.length_drop,List.length_take]
 refine ⟨?_,by omega⟩
 rw [subA,List.getD_eq_getElem?_getD,List.getElem?_drop,List.getElem?_take,if_pos (by omega),List.getD_eq_getElem?_getD]
theorem sub_right {l:List Tst} {a b:Int} (h:tRight l=true):tRight (subA l a b)=true:=by
 refine right_R.2 fun i hi=> ?_
 obtain ⟨g1,g2⟩:=subA_get hi
 obtain ⟨z1,z2⟩:=subA_get (l:=l) (a:=a) (b:=b) (j:=0) (by omega)
 have h1:=right_R.1 h _ g2
 have h0:=right_R.1 h _ z2
 rw [rOk,g1,z1]
 refine ⟨⟨h1.1.1,h1.1.2.1,h1.1.2.2.trans h0.1.2.2.symm⟩,?_⟩
 by_cases hz:i=0
 ·exact .inl hz
 ·right
  obtain ⟨p1,_⟩:=subA_get (l:=l) (a:=a) (b:=b) (j:=i - 1) (by omega)
  rw [p1]
  have:=h1.2.resolve_left (by omega)
  rwa [show fstA l a+i - 1=fstA l a+(i - 1) by omega] at this
theorem parR_fold: ∀(xs acc:List Tst),xs.foldl parR acc=acc++xs.filter fun s=>decide (s.lo < s.hi)
 | [],acc=>by simp
 | s::r,acc=>by
  rw [List.foldl_cons,parR_fold r,parR,List.filter_cons]
  by_cases h:s.lo < s.hi
  ·simp [h]
  ·simp [h]
theorem cutR_eq {l:List Tst} {a b:Int}:cutR l a b=(l.map (clip a b)).filter fun s=>decide (s.lo < s.hi):=by rw [cutR,parR_fold];rfl
theorem sub_cut {l:List Tst} {a b:Int} (h:tRight l=true) (ha:ascT l) (hab:a < b):cutT (subA l a b) a b=cutT l a b:=by
 rw [←cut_R (sub_right h),←cut_R h,cutR_eq,cutR_eq]
 have hfe:=fst_end ha hab
 have s1:=xo2 l.length fun i=>decide (a < (l.getD i tst0).hi)
 have s2:=xo2 l.length fun i=>decide (b≤(l.getD i tst0).lo)
 rw [←fstA] at s1;rw [←endA] at s2
 have e:l=l.take (fstA l a)++(subA l a b++l.drop (endA l b)):=by
  have e1:l.take (fstA l a)=(l.take (endA l b)).take (fstA l a):=by rw [List.take_take,Nat.min_eq_left hfe.1]
  rw [←List.append_assoc,subA,e1,List.take_append_drop,List.take_append_drop]
 have z1:((l.take (fstA l a)).map (clip a b)).filter (fun s=>decide (s.lo < s.hi))=[]:=List.filter_eq_nil_iff.2 fun s hs=>by
  obtain ⟨t,ht,rfl⟩:=List.mem_map.1 hs
  obtain ⟨i,h1,h2,rfl⟩:=mem_take_get ht
  have:=of_decide_eq_false (s1.2.1 i h1)
  intro hh
  have hh:max (_:Int) a < min (_:Int) b:=of_decide_eq_true hh
  omega
 have z2:((l.drop (endA l b)).map (clip a b)).filter (fun s=>decide (s.lo < s.hi))=[]:=List.filter_eq_nil_iff.2 fun s hs=>by
  obtain ⟨t,ht,rfl⟩:=List.mem_map.1 hs
  obtain ⟨i,h1,h2,rfl⟩:=mem_drop_get ht
  have h3:=of_decide_eq_true (s2.2.2 (by omega))
  have h4:=loT_mono ha h1 h2
  intro hh
  have hh:max (_:Int) a < min (_:Int) b:=of_decide_eq_true hh
  omega
 conv=>rhs;rw [e]
 rw [List.map_append,List.map_append,List.filter_append,List.filter_append,z1,z2,List.nil_append,List.append_nil]
def dvO (q:Rat) (n:Int):Option Rat:=if short (q / (n:Rat)) then some (q / (n:Rat)) else none
theorem resF_dvO {q:Rat} {n:Int}:resF (q / (n:Rat))=sumF (dvO q n):=by rw [resF,dvO];split <;> rfl
theorem resFE_dvO {q:Rat} {n:Int}:resFE (q / (n:Rat))=sumE (dvO q n):=by rw [resFE,dvO];split <;> rfl
def avO (l:List Tst) (a b:Int):Option Rat:=(sumT (cutT l a b)).bind fun q=>dvO q (b - a)
theorem cov_yes {l:List Tst} {a b:Int} (h:tRight l=true) (ha:ascT l) (h0:0≤a) (hab:a≤b) (hc: ∀d:Nat,a≤(d:Int)→(d:Int) < b→tabT l d≠0):nD l a b=b - a:=by
 refine (nD_iff ha hab).2 fun d h1 h2=> ?_
 have e:((d.toNat:Nat):Int)=d:=by omega
 have h3:=hc d.toNat (by omega) (by omega)
 rcases tabT_val h d.toNat with ⟨q,_⟩ | ⟨j,_,_,q⟩
 ·exact absurd q h3
 ·rw [e] at q;rw [q];rfl
theorem cov_no {l:List Tst} {a b:Int} {d:Nat} (h:tRight l=true) (ha:ascT l) (hab:a≤b) (h1:a≤(d:Int)) (h2:(d:Int) < b) (hz:tabT l d=0):nD l a b≠b - a:=fun hn=>by
 have h3:=(nD_iff ha hab).1 hn d h1 h2
 rcases tabT_val h d with ⟨_,q⟩ | ⟨j,_,q,_⟩
 ·rw [q] at h3;cases h3
 ·omega
end An.S
namespace An.S
open Go Go.Proofs An
theorem c_FDivN (a b:Rat) (ha:short a) (hb:short b) (hb0:b≠0):
  CtN Tryz.prog 62 [tFr (fr a),tFr (fr b)] (fun nw=>tT [tG (up nw) (tFr (resF (a / b))),tI (resFE (a / b))]):=by
 obtain ⟨an,ad⟩:=ha
 obtain ⟨bn,bd⟩:=hb
 have hbd:=b.den_nz
 have had:=a.den_nz
 have m1:len16 (a.num*(b.den:Int))≤256+256:=len16_mul an bd
 have m2:len16 ((a.den:Int)*b.num)≤256+256:=len16_mul ad bn
 have ha:short a:=⟨an,ad⟩
 have hb:short b:=⟨bn,bd⟩
 have hbn:b.num≠0:=fun h=>hb0 (Rat.num_eq_zero.1 h)
 have hd0:(a.den:Int)*b.num≠0:=Int.mul_ne_zero (by omega) hbn
 refine CtN.intro Tryz.func62 rfl Tryz.ntmps62 rfl ?_
 intro w F
 refine A4 ?_
 refine RE (x8 (k:=4) (n:=4) (agg:=true) zr34.1 zr34.2 rfl) trivial trivial ⟨rfl,trivial⟩ ?_
 refine A8 ?_
 refine R2 (xd9 (n:=2) (f:=fun q:Rat=>tFr (fr q)) [a,b] Tryz.underlying127 el34 zf34 rfl (fun _=>inferInstance) rfl rfl rfl) rfl rfl (R1 (x3 (xm0 [a,b] (by simp;exact ⟨ha,hb⟩)) fi91 rfl) rfl ?_)
 refine A10 ?_
 refine R1 (xb2 (r:=tS [⟨4,true,tFr (fr b)⟩]) (ts:=[(0,tFr (fr b))]) bu110 zr110.2 (Bc 0 rfl rfl rfl Le.refl)) rfl (R1 (x3 (c_Tzero (fr b)) fi92 rfl) rfl ?_)
 refine A2 ?_
 refine C_bF rfl (decide_eq_false (by exact fun h=>hb0 (Rat.num_eq_zero.1 (wh_nil (.inr h))))) ?_
 refine A8 ?_
 refine R2 (xe9 (ts:=[_,_]) (r:=tG (up w.heap.size) _) (c_ftimesN (a.num) ((b.den:Int)) (by omega) (by omega) (by omega)) fi94 (fun m hm=>xh8 hm) ⟨Le.refl,Le.refl,trivial⟩ rfl) rfl rfl ?_
 refine A4 ?_
 refine R2 (xe9 (ts:=[_,_]) (r:=tG (up w.heap.size) _) (c_ftimesN ((a.den:Int)) (b.num) (by omega) (by omega) (by omega)) fi94 (fun m hm=>xh8 hm) ⟨Le.refl,Le.refl,trivial⟩ rfl) rfl rfl (R2 (xo6 (ts:=[_,_]) (up w.heap.size) (c_lowest _ _ (by omega) (by omega) hd0) fi93 (fun _ h=>h) ⟨Le.refl,Le.refl,trivial⟩ Le.refl rfl) rfl rfl (R1 (xo6 (ts:=[_]) (r':=tT [_,_]) (up w.heap.size) (xr2 _) fi95 (fun _ h=>h) ⟨Le.refl,trivial⟩ (geG_T ⟨Le.refl,tG_E',trivial⟩) rfl) rfl ?_))
 refine A7 ?_
 exact xa8 Plain.mk' (rs:=[.cell 4 34,.tmp 5]) rfl rfl ⟨⟨_,_,_,_,_,rfl,rfl,ti34,(Le.of (by rw [sh_fr,xp1];by_cases hs:short (a / b) <;> simp [resF,hs]))⟩,⟨_,rfl,(Le.int (by rw [sh_fr,xp1];by_cases hs:short (a / b) <;> simp [resFE,hs]))⟩,trivial⟩
theorem xm3 {l:List Tst} (h:payR l=true):tRight l=true:=by
 rw [payR,Bool.and_eq_true] at h;exact h.1
theorem pay_kind {l:List Tst} (h:payR l=true) {i:Nat} (hi:i < l.length):(l.getD i tst0).v.kind=3:=by
 have h2:=h
 rw [payR,Bool.and_eq_true,Bool.or_eq_true,decide_eq_true_eq,decide_eq_true_eq] at h2
 rw [kind_at h2.1 hi]
 rcases h2.2 with h3 | h3
 ·omega
 ·exact h3
theorem sumC_pay {l:List Tst} {a b:Int} (h:payR l=true) (ha:0≤a) (hab:a≤b) (hb:b≤65536):sumC l a b:=by
 refine ⟨⟨xm3 h,by simp [Sn.ok];omega⟩,?_⟩
 rcases Nat.eq_zero_or_pos l.length with h0 | h0
 ·exact .inl h0
 ·exact .inr (.inr (pay_kind h h0))
theorem sumC_sub {l:List Tst} {a b:Int} (h:payR l=true) (ha:0≤a) (hab:a≤b) (hb:b≤65536):sumC (subA l a b) a b:=by
 refine ⟨⟨sub_right (xm3 h),by simp [Sn.ok];omega⟩,?_⟩
 rcases Nat.eq_zero_or_pos (subA l a b).length with h0 | h0
 ·exact .inl h0
 ·obtain ⟨g1,g2⟩:=subA_get (l:=l) (a:=a) (b:=b) h0
  rw [numK,g1]
  exact .inr (.inr (pay_kind h g2))
theorem subA_le {l:List Tst} {a b:Int}:(subA l a b).length≤l.length:=by rw [subA,List.length_drop,List.length_take];omega
theorem subA_sub {l:List Tst} {a b:Int}: ∀s∈subA l a b,s∈l:=fun s hs=>((List.drop_sublist ..).trans (List.take_sublist ..)).subset hs
theorem c_SumSubN (l:List Tst) (a b:Int) (h:payR l=true) (hD: ∀s∈l,s.v.f.dig) (hl:l.length≤200000) (ha:0≤a) (hab:a < b) (hb:b≤65536):CtN Tryz.prog 61 [tL 8 true tTs (subA l a b),tI a,tI b] (fun nw=>tT [tG (up nw) (tFr (sumF (sumT (cutT l a b)))),tI (sumE (sumT (cutT l a b)))]):=by
 have hle:=subA_le (l:=l) (a:=a) (b:=b)
 have:=c_TSumOkN (subA l a b) a b (by omega) (fun s hs=>hD s (subA_sub s hs)) (sumC_sub h ha (Int.le_of_lt hab) hb)
 rw [sub_cut (xm3 h) (xn3 (xm3 h)) hab] at this;exact this
theorem short_sm {n:Int} (h1: -9223372036854775808≤n) (h2:n≤9223372036854775807):short (n:Rat):=xk0 (Nat.le_trans (len16_64 h1 h2) (by decide))
theorem c_FDivAN {o:Option Rat} {q:Rat} (n:Int) (ho:o=some q) (hq:short q) (h0:n≠0) (h1: -9223372036854775808≤n) (h2:n≤9223372036854775807):CtN Tryz.prog 62 [tFr (sumF o),tFr (fr (n:Rat))] (fun nw=>tT [tG (up nw) (tFr (sumF (dvO q n))),tI (sumE (dvO q n))]):=by
 have h:=c_FDivN q (n:Rat) hq (short_sm h1 h2) (fun h=>h0 (by exact_mod_cast h))
 rw [resF_dvO,resFE_dvO] at h
 rw [ho];exact h
theorem sumE_none {o:Option Rat} (h:sumE o≠0):o=none:=by
 cases o with
 | none=>rfl
 | some q=>exact absurd rfl h
theorem c_CoversR (l:List Tst) (h:tRight l=true) (hl:l.length≤200000) (hD: ∀s∈l,s.v.f.dig):Ct Tryz.prog 36 [tL 8 true tTs l] (tL 2 true tSn (cvT l)):=by
 have:=c_Covers l hl hD
 rw [if_pos h] at this;exact this
def avC (l:List Tst) (a b:Int):Prop:=askP l a b=true∧a < b∧nD l a b=b - a
instance (l:List Tst) (a b:Int):Decidable (avC l a b):=inferInstanceAs (Decidable (_∧_))
def avF (l:List Tst) (a b:Int):Fr:=if avC l a b then sumF (avO l a b) else fr0
def avE (l:List Tst) (a b:Int):Int:=if avC l a b then sumE (avO l a b) else if askP l a b=true then 6 else 2
theorem c_averageN (l:List Tst) (a b:Int) (h:payR l=true) (hD: ∀s∈l,s.v.f.dig) (hl:l.length≤200000) (ha:0≤a) (hab:a < b) (hb:b≤65536):
  CtN Tryz.prog 37 [tL 8 true tTs l,tI a,tI b] (fun nw=>tT [tG (up nw) (tFr (sumF (avO l a b))),tI (sumE (avO l a b))]):=by
 have ht:=xm3 h
 have hasc:=xn3 ht
 have hfe:=fst_end hasc hab
 refine CtN.intro Tryz.func37 rfl Tryz.ntmps37 rfl ?_
 intro w F
 refine A5 ?_
 refine RE (x8 (k:=6) (n:=4) (agg:=true) zr34.1 zr34.2 rfl) trivial trivial ⟨rfl,trivial⟩ ?_
 refine A7 ?_
 refine R2 (xh1 (ps:=[.ptr 3 0,.ptr 4 0]) rfl) rfl rfl (RE (xe3 (fun j=>cond (Nat.beq j 3) 3 (4)) (c_SearchA l a hasc (by omega)) fi56 rfl (krC (ρ:=fun j=>cond (Nat.beq j 3) 3 (4)) (k:=3) rfl (krC (ρ:=fun j=>cond (Nat.beq j 3) 3 (4)) (k:=4) rfl (krN (ρ:=fun j=>cond (Nat.beq j 3) 3 (4))))) (krC (ρ:=fun j=>cond (Nat.beq j 3) 3 (4)) (k:=3) rfl (krC (ρ:=fun j=>cond (Nat.beq j 3) 3 (4)) (k:=4) rfl (krN (ρ:=fun j=>cond (Nat.beq j 3) 3 (4))))) ⟨⟨rfl,(SupX.lit rfl)⟩,⟨rfl,(SupX.lit rfl)⟩,trivial⟩ rfl) ⟨rfl,rfl,trivial⟩ ⟨rfl,rfl,trivial⟩ trivial ?_)
 refine A7 ?_
 refine R2 (xh1 (ps:=[.ptr 3 0,.ptr 5 0]) rfl) rfl rfl (RE (xe3 (fun j=>cond (Nat.beq j 3) 3 (5)) (c_SearchB l b hasc (by omega)) fi56 rfl (krC (ρ:=fun j=>cond (Nat.beq j 3) 3 (5)) (k:=3) rfl (krC (ρ:=fun j=>cond (Nat.beq j 3) 3 (5)) (k:=5) rfl (krN (ρ:=fun j=>cond (Nat.beq j 3) 3 (5))))) (krC (ρ:=fun j=>cond (Nat.beq j 3) 3 (5)) (k:=3) rfl (krC (ρ:=fun j=>cond (Nat.beq j 3) 3 (5)) (k:=5) rfl (krN (ρ:=fun j=>cond (Nat.beq j 3) 3 (5))))) ⟨⟨rfl,(SupX.lit rfl)⟩,⟨rfl,(SupX.lit rfl)⟩,trivial⟩ rfl) ⟨rfl,rfl,trivial⟩ ⟨rfl,rfl,trivial⟩ trivial ?_)
 refine A8 ?_
 refine R3 (d_sliceFT sl22 (fstA l a) (endA l b) rfl rfl hfe.1 hfe.2 rfl) rfl rfl rfl ?_
 refine A2 ?_
 refine R3 (xe9 (ts:=[_,_,_]) (r:=tT [tG (up w.heap.size) _,_]) (c_SumSubN l a b h hD hl ha hab hb) fi61 (fun m hm=>le_T ⟨xh8 hm,Le.refl,trivial⟩) ⟨Le.refl,Le.refl,Le.refl,trivial⟩ rfl) rfl rfl rfl ?_
 refine A3 ?_
 refine RE (x8 (k:=10) (n:=4) (agg:=true) zr34.1 zr34.2 rfl) trivial trivial ⟨rfl,trivial⟩ ?_
 refine A11 ?_
 refine xa0 rfl (fun h40=> ?_) (fun h40=> ?_)
 ·
  have hs:=sumE_none h40
  refine A2 ?_
  refine R0 (xb2 (r:=tS [⟨2,true,(tS [⟨1,false,(tE (.bool false))⟩,⟨1,false,(tLm [])⟩])⟩,⟨2,true,(tS [⟨1,false,(tE (.bool false))⟩,⟨1,false,(tLm [])⟩])⟩]) (ts:=[]) bu34 zr34.2 Le.refl) ?_
  refine A7 ?_
  exact xa8 Plain.mk' (rs:=[.cell 6 34,.tmp 7]) rfl rfl ⟨⟨_,_,_,_,_,rfl,rfl,ti34,(fr0L (by rw [avO,hs];rfl))⟩,⟨_,rfl,(Le.int (by rw [avO,hs];rfl))⟩,trivial⟩
 ·
  obtain ⟨q,hq,hqs⟩:=sumF_short (fun q h=>sumT_short h) (Decidable.not_not.1 h40)
  refine A8 ?_
  refine R1 (x3 (xm7 (b - a) (by omega) (by omega)) fi63 rfl) rfl (R2 (xe9 (ts:=[_,_]) (r:=tT [tG (up w.heap.size) _,_]) (c_FDivAN (b - a) hq hqs (by omega) (by omega) (by omega)) fi62 (fun m hm=>le_T ⟨xh8 hm,Le.refl,trivial⟩) ⟨tG_le,Le.refl,trivial⟩ rfl) rfl rfl ?_)
  refine A7 ?_
  exact xa8 Plain.mk' (rs:=[.cell 6 34,.tmp 7]) rfl rfl ⟨⟨_,_,_,_,_,rfl,rfl,ti34,(Le.of (by rw [avO,hq,Option.bind_some]))⟩,⟨_,rfl,(Le.int (by rw [avO,hq,Option.bind_some]))⟩,trivial⟩
theorem c_AverageN (l:List Tst) (a b:Int) (hD: ∀s∈l,s.v.f.dig) (hl:l.length≤200000):
  CtN Tryz.prog 17 [tL 8 true tTs l,tI a,tI b] (fun nw=>tT [tG (up nw) (tFr (avF l a b)),tI (avE l a b)]):=by
 refine CtN.intro Tryz.func17 rfl Tryz.ntmps17 rfl ?_
 intro w F
 refine A2 ?_
 refine RE (x8 (k:=6) (n:=4) (agg:=true) zr34.1 zr34.2 rfl) trivial trivial ⟨rfl,trivial⟩ ?_
 refine A9 ?_
 refine R3 (x3 (c_isAsked l a b hD) fi34 rfl) rfl rfl rfl ?_
 refine A3 ?_
 refine xc2 rfl (fun h48=> ?_) (fun h48=> ?_)
 ·
  have hk:askP l a b=false:=by simpa using h48
  refine A2 ?_
  refine R0 (xb2 (r:=tS [⟨2,true,(tS [⟨1,false,(tE (.bool false))⟩,⟨1,false,(tLm [])⟩])⟩,⟨2,true,(tS [⟨1,false,(tE (.bool false))⟩,⟨1,false,(tLm [])⟩])⟩]) (ts:=[]) bu34 zr34.2 Le.refl) ?_
  refine A6 ?_
  exact xa8 Plain.mk' (rs:=[.cell 6 34,.tmp 7]) rfl rfl ⟨⟨_,_,_,_,_,rfl,rfl,ti34,(fr0L (by rw [avF,if_neg (fun h=>by have h1:=h.1;rw [hk] at h1;cases h1)]))⟩,⟨_,rfl,(Le.int (by rw [avE,if_neg (fun h=>by have h1:=h.1;rw [hk] at h1;cases h1),if_neg (by rw [hk];decide)]))⟩,trivial⟩
 ·
  have hk:askP l a b=true:=by simpa using h48
  have hk2:=(xo1.1 hk).2
  have h:=(xo1.1 hk).1
  have ht:=xm3 h
  refine A9 ?_
  refine RGcaseD (t:=17) rfl (fun h51=> ?_) (fun h51=> ?_)
  ·
   refine A12 ?_
   refine R0 (xb2 (r:=tS [⟨2,true,(tS [⟨1,false,(tE (.bool false))⟩,⟨1,false,(tLm [])⟩])⟩,⟨2,true,(tS [⟨1,false,(tE (.bool false))⟩,⟨1,false,(tLm [])⟩])⟩]) (ts:=[]) bu34 zr34.2 Le.refl) ?_
   refine A6 ?_
   exact xa8 Plain.mk' (rs:=[.cell 6 34,.tmp 7]) rfl rfl ⟨⟨_,_,_,_,_,rfl,rfl,ti34,(fr0L (by rw [avF,if_neg (fun h=>by have:=h.2.1;omega)]))⟩,⟨_,rfl,(Le.int (by rw [avE,if_neg (fun h=>by have:=h.2.1;omega),if_pos hk]))⟩,trivial⟩
  ·
   refine A1 ?_
   refine RGon (decide_eq_false h51) rfl (x3 (c_CoversR l ht hl hD) fi36 rfl) rfl ⟨rfl,trivial⟩ trivial trivial ?_
   refine A2 ?_
   refine RGon (decide_eq_false h51) rfl (x3 (c_isCov (cvT l) a b (cvT_set ht).1 (by have:=cvT_len (l:=l);omega)) fi35 rfl) rfl ⟨rfl,rfl,rfl,trivial⟩ trivial trivial ?_
   refine A4 ?_
   refine xc2 rfl (fun h51_2=> ?_) (fun h51_2=> ?_)
   ·
    have hc:nD l a b≠b - a:=by
     have h1:cvB (cvT l) a b=false:=by simpa using h51_2
     rw [cvB_nD ht (by omega)] at h1;exact of_decide_eq_false h1
    refine A2 ?_
    refine R0 (xb2 (r:=tS [⟨2,true,(tS [⟨1,false,(tE (.bool false))⟩,⟨1,false,(tLm [])⟩])⟩,⟨2,true,(tS [⟨1,false,(tE (.bool false))⟩,⟨1,false,(tLm [])⟩])⟩]) (ts:=[]) bu34 zr34.2 Le.refl) ?_
    refine A6 ?_
    exact xa8 Plain.mk' (rs:=[.cell 6 34,.tmp 7]) rfl rfl ⟨⟨_,_,_,_,_,rfl,rfl,ti34,(fr0L (by rw [avF,if_neg (fun h=>hc h.2.2)]))⟩,⟨_,rfl,(Le.int (by rw [avE,if_neg (fun h=>hc h.2.2),if_pos hk]))⟩,trivial⟩
   ·
    have hc:nD l a b=b - a:=by
     have h1:cvB (cvT l) a b=true:=by simpa using h51_2
     rw [cvB_nD ht (by omega)] at h1;exact of_decide_eq_true h1
    refine A7 ?_
    refine R3 (xe9 (ts:=[_,_,_]) (r:=tT [tG (up w.heap.size) _,_]) (c_averageN l a b h hD hl (by omega) (by omega) (by omega)) fi37 (fun m hm=>le_T ⟨xh8 hm,Le.refl,trivial⟩) ⟨Le.refl,Le.refl,Le.refl,trivial⟩ rfl) rfl rfl rfl ?_
    refine A7 ?_
    exact xa8 Plain.mk' (rs:=[.cell 6 34,.tmp 7]) rfl rfl ⟨⟨_,_,_,_,_,rfl,rfl,ti34,(Le.of (by rw [avF,if_pos ⟨hk,by omega,hc⟩]))⟩,⟨_,rfl,(Le.int (by rw [avE,if_pos ⟨hk,by omega,hc⟩]))⟩,trivial⟩
theorem c_R5Table (l:List Tst) (hl:l.length≤500000) (hok:tRight l=true):
  Ct Tryz.prog 40 [tL 8 true tTs l] (tL 1 false tI (rowD (tabT l))):=by
 obtain ⟨n,hn⟩: ∃n:Nat,n=65536:=⟨_,rfl⟩
 refine Ct.intro Tryz.func40 rfl Tryz.ntmps40 rfl ?_
 intro w F
 refine A7 ?_
 refine RE (xg4 (k:=6) (t:=tI 0) (ts:=rV tI (List.replicate n 0)) n n Tryz.underlying28 el3 (fun _ _=>rfl) rfl (by omega) (by omega) (Nat.le_refl _) (by omega) (by omega) (rV_rep _ _ rfl)) ⟨rfl,rfl,trivial⟩ trivial ⟨rfl,trivial⟩ ?_
 refine A10 ?_
 refine cL (fun (i:Nat)=>i≤l.length) (fun (i:Nat)=>upd (upd (upd (fun _=>none) 0 (some (.val (tL 8 true tTs l)))) 3 (some (.own (.sl 6 1 0 n)))) 4 (some (.val (tI i)))) (fun (i:Nat)=>upd (fun _=>none) 6 (some (⟨3,1,false,rV tI (rowD (tabI l i))⟩))) [6] (fun (i:Nat)=>l.length - i) (0) (Nat.zero_le _) (hh:=((SubK.consI rfl (ImpK.of (by rw [hn,rowD_rep,tab0]))) SubK.nil)) ?_
 intro i hI
 refine A9 ?_
 refine xa0 rfl (fun h65=> ?_) (fun h65=> ?_)
 ·
  refine A8 ?_
  refine R2 (x6 sl22 (i) (by omega) (gD (l:=l) (n:=i) (d:=tst0) (by omega))) rfl rfl (R1 (xa7 fo38_0.h (At.f 0 rfl rfl) rfl) rfl ?_)
  refine A5 ?_
  have hat:=xg5 hok (i:=i) (by omega)
  refine cL (fun (e:Int)=>(l.getD i tst0).lo≤e∧e≤(l.getD i tst0).hi) (fun (e:Int)=>upd (upd (upd (upd (fun _=>none) 0 (some (.val (tL 8 true tTs l)))) 3 (some (.own (.sl 6 1 0 n)))) 4 (some (.val (tI i)))) 5 (some (.val (tI e)))) (fun (e:Int)=>upd (fun _=>none) 6 (some (⟨3,1,false,rV tI (rowD (tabF l i e))⟩))) [6] (fun (e:Int)=>((l.getD i tst0).hi - e).toNat) ((l.getD i tst0).lo) ⟨by omega,by omega⟩ (hh:=((SubK.consI rfl (ImpK.of (by rw [tabF_0]))) SubK.nil)) ?_
  intro e hI2
  obtain ⟨he1,he2⟩:=hI2
  refine A6 ?_
  refine R2 (x6 sl22 (i) (by omega) (gD (l:=l) (n:=i) (d:=tst0) (by omega))) rfl rfl (R1 (xa7 fo38_1.h (At.f 1 rfl rfl) rfl) rfl ?_)
  refine A4 ?_
  refine xa0 rfl (fun h66=> ?_) (fun h66=> ?_)
  ·
   refine A9 ?_
   refine R2 (xa4 sl28 (by omega) (by omega) rfl) rfl rfl (RE (xb9 (e.toNat) ti3 (rV_lt (by rw [xm4];omega)) (by omega) (rV_set (f:=tI) (m:=(i:Int)+1) rfl)) ⟨rfl,rfl,trivial⟩ ⟨rfl,trivial⟩ trivial ?_)
   refine A8 ?_
   exact kF (e+1) ⟨⟨by omega,by omega⟩,(by omega)⟩ (hh:=((SubK.consI rfl (ImpK.of (by rw [tab_set (by omega) (by omega)]))) SubK.nil))
  ·
   refine A11 ?_
   exact kF (i+1) ⟨(by omega),(by omega)⟩ (hh:=((SubK.consI rfl (ImpK.of (by rw [tabF_1 (by omega)]))) SubK.nil))
 ·
  refine A7 ?_
  refine RE (xf5 (f:=tI) (xs:=rowD (tabI l i)) (fun _ h=>h) (rV_all (by rw [xm4];omega)) (by rw [xm4];omega)) ⟨rfl,trivial⟩ ⟨rfl,trivial⟩ trivial ?_
  refine A4 ?_
  exact x4 Plain.mk' rfl rfl (Le.of (by rw [show i=l.length by omega]))
end An.S
namespace An
open Go
section
variable {P:Program} {c:Base} {d ty:Nat} {pos:String} {af:Array Edge} {gd:Option (Nat×Bool)}
end
section
variable {P:Program} {c:Base} {g:Slots} {h:Keys} {al:Names} {Q:Exit→Act→World→Prop}
end
section
variable {P:Program} {c:Base} {d ty:Nat} {pos:String} {af:Array Edge} {gd:Option (Nat×Bool)}
end
end An
namespace An.S
open Go Go.Proofs An
instance fi6:FnI Tryz.prog 6:=⟨_,Tryz.func6,by kernel_rfl,rfl⟩
instance fi7:FnI Tryz.prog 7:=⟨_,Tryz.func7,by kernel_rfl,rfl⟩
instance fi8:FnI Tryz.prog 8:=⟨_,Tryz.func8,by kernel_rfl,rfl⟩
instance fi16:FnI Tryz.prog 16:=⟨_,Tryz.func16,by kernel_rfl,rfl⟩
instance fi18:FnI Tryz.prog 18:=⟨_,Tryz.func18,by kernel_rfl,rfl⟩
instance fi20:FnI Tryz.prog 20:=⟨_,Tryz.func20,by kernel_rfl,rfl⟩
instance fi21:FnI Tryz.prog 21:=⟨_,Tryz.func21,by kernel_rfl,rfl⟩
instance fi22:FnI Tryz.prog 22:=⟨_,Tryz.func22,by kernel_rfl,rfl⟩
instance fi38:FnI Tryz.prog 38:=⟨_,Tryz.func38,by kernel_rfl,rfl⟩
instance fi39:FnI Tryz.prog 39:=⟨_,Tryz.func39,by kernel_rfl,rfl⟩
instance fi40:FnI Tryz.prog 40:=⟨_,Tryz.func40,by kernel_rfl,rfl⟩
instance fi41:FnI Tryz.prog 41:=⟨_,Tryz.func41,by kernel_rfl,rfl⟩
instance fi64:FnI Tryz.prog 64:=⟨_,Tryz.func64,by kernel_rfl,rfl⟩
instance fi65:FnI Tryz.prog 65:=⟨_,Tryz.func65,by kernel_rfl,rfl⟩
instance fi100:FnI Tryz.prog 100:=⟨_,Tryz.func100,by kernel_rfl,rfl⟩
instance fi102:FnI Tryz.prog 102:=⟨_,Tryz.func102,by kernel_rfl,rfl⟩
theorem c_R2Zero (f:Fr):
  Ct Tryz.prog 100 [tFr f] (tB (decide ((f.n.l.length:Int)=0))):=by
 refine Ct.intro Tryz.func100 rfl Tryz.ntmps100 rfl ?_
 intro w F
 refine A10 ?_
 refine xg3 (0) ti30 rfl rfl rfl (At.t (At.g 0 rfl rfl) (At.g 1 rfl rfl)) rfl ?_
 refine A6 ?_
 exact x4 Plain.mk' rfl rfl Le.refl
theorem c_R2Over (a b:Rat) (ha:short a) (hb:short b) (hb0:b≠0):
  Ct Tryz.prog 102 [tFr (fr a),tFr (fr b)] (tFr (fr (a / b))):=by
 obtain ⟨an,ad⟩:=ha
 obtain ⟨bn,bd⟩:=hb
 have ha:short a:=⟨an,ad⟩
 have hb:short b:=⟨bn,bd⟩
 have da:=a.den_nz
 have db:=b.den_nz
 have hbn:b.num≠0:=fun h=>hb0 (Rat.num_eq_zero.1 h)
 have hd0:(a.den:Int)*b.num≠0:=Int.mul_ne_zero (by omega) hbn
 have l1:=len16_mul an bd
 have l2:=len16_mul ad bn
 refine Ct.intro Tryz.func102 rfl Tryz.ntmps102 rfl ?_
 intro w F
 refine A4 ?_
 refine RE (x8 (k:=4) (n:=4) (agg:=true) zr34.1 zr34.2 rfl) trivial trivial ⟨rfl,trivial⟩ ?_
 refine A8 ?_
 refine R2 (x3 (xk1 a.num (b.den:Int) (by omega) (by omega)) fi119 rfl) rfl rfl ?_
 refine A4 ?_
 refine R2 (x3 (xk1 (a.den:Int) b.num (by omega) (by omega)) fi119 rfl) rfl rfl (R2 (x3 (c_RLowest (a.num*(b.den:Int)) ((a.den:Int)*b.num) (by omega) (by omega) hd0) fi139 rfl) rfl rfl ?_)
 refine A4 ?_
 exact xb7 Plain.mk' rfl ⟨_,_,_,_,_,rfl,rfl,ti34,(Le.of (by rw [xp1]))⟩
theorem c_R2Div (a b:Rat) (ha:short a) (hb:short b) (hb0:b≠0):
  Ct Tryz.prog 65 [tFr (fr a),tFr (fr b)] (tT [tFr (resF (a / b)),tI (resFE (a / b))]):=by
 refine Ct.intro Tryz.func65 rfl Tryz.ntmps65 rfl ?_
 intro w F
 refine A4 ?_
 refine RE (x8 (k:=4) (n:=4) (agg:=true) zr34.1 zr34.2 rfl) trivial trivial ⟨rfl,trivial⟩ ?_
 refine A7 ?_
 refine R1 (x3 (xn0 a ha) fi81 rfl) rfl ?_
 refine A3 ?_
 refine RGon rfl rfl (x3 (xn0 b hb) fi81 rfl) rfl ⟨rfl,trivial⟩ trivial trivial ?_
 refine A11 ?_
 refine R1 (x3 (c_R2Zero _) fi100 rfl) rfl ?_
 refine A2 ?_
 refine C_bF rfl (decide_eq_false (by exact fun h=>hb0 (Rat.num_eq_zero.1 (wh_nil (.inl h))))) ?_
 refine A6 ?_
 refine R2 (x3 (c_R2Over a b ha hb hb0) fi102 rfl) rfl rfl (R1 (x3 (c_R2told (a / b)) fi101 rfl) rfl ?_)
 refine A7 ?_
 exact xa8 Plain.mk' (rs:=[.cell 4 34,.tmp 5]) rfl rfl ⟨⟨_,_,_,_,_,rfl,rfl,ti34,Le.refl⟩,⟨_,rfl,Le.refl⟩,trivial⟩
theorem c_R2DivA {o:Option Rat} {q:Rat} (n:Int) (ho:o=some q) (hq:short q) (h0:n≠0) (h1: -9223372036854775808≤n) (h2:n≤9223372036854775807):Ct Tryz.prog 65 [tFr (sumF o),tFr (fr (n:Rat))] (tT [tFr (sumF (dvO q n)),tI (sumE (dvO q n))]):=by
 have h:=c_R2Div q (n:Rat) hq (short_sm h1 h2) (fun h=>h0 (by exact_mod_cast h))
 rw [resF_dvO,resFE_dvO] at h
 rw [ho];exact h
theorem pay_bad {l:List Tst} {i:Nat} (hi:i < l.length) (h:((l.getD i tst0).v.kind:Int)≠3):false=payR l:=by
 cases hp:payR l with
 | false=>rfl
 | true=>have:=pay_kind hp hi;omega
theorem pay_all {l:List Tst} {i:Nat} (hi:i=l.length) (h: ∀j,j < i→(l.getD j tst0).v.kind=3):tRight l=payR l:=by
 rw [payR]
 rcases Nat.eq_zero_or_pos l.length with h0 | h0
 ·rw [decide_eq_true h0];simp
 ·rw [decide_eq_true (h 0 (by omega))];simp
theorem c_R9Right (l:List Tst) (hl:l.length≤200000) (hD: ∀s∈l,s.v.f.dig) (hs: ∀s∈l,s.v.f.n.l.length≤1048576∧s.v.f.d.l.length≤1048576):
  Ct Tryz.prog 20 [tL 8 true tTs l] (tB (payR l)):=by
 refine Ct.intro Tryz.func20 rfl Tryz.ntmps20 rfl ?_
 intro w F
 refine A12 ?_
 refine cL (fun (i:Nat)=>i≤l.length∧ ∀j,j < i→(l.getD j tst0).v.kind=3) (fun (i:Nat)=>upd (upd (fun _=>none) 0 (some (.val (tL 8 true tTs l)))) 3 (some (.val (tI i)))) (fun (i:Nat)=>fun _=>none) [] (fun (i:Nat)=>l.length - i) (0) ⟨Nat.zero_le _,fun j hj=>by omega⟩ ?_
 intro i hI
 obtain ⟨hi,hok⟩:=hI
 refine A9 ?_
 refine xa0 rfl (fun h15=> ?_) (fun h15=> ?_)
 ·
  refine A8 ?_
  refine R2 (x6 sl22 (i) (by omega) (gD (l:=l) (n:=i) (d:=tst0) (by omega))) rfl rfl (R1 (xa7 fo38_2.h (At.f 2 rfl rfl) rfl) rfl (R1 (xa7 fo36_0.h (At.f 0 rfl rfl) rfl) rfl ?_))
  refine A4 ?_
  refine xa0 rfl (fun h16=> ?_) (fun h16=> ?_)
  ·
   refine A11 ?_
   exact x4 Plain.mk' rfl rfl (Le.bool (pay_bad (i:=i) (by omega) (by omega)))
  ·
   refine A8 ?_
   exact K_fam (i+1) ⟨⟨by omega,fun j hj=>by
  by_cases hji:j=i
  ·subst hji;omega
  ·exact hok j (by omega)⟩,(by omega)⟩ (Sub.int rfl (by first | omega | rfl | (dsimp only;omega)) (Sub.cons rfl Sub.nil)) SubK.nil (SupG.val (SupG.val SupG.nil)) SupH.nil (lkOk rfl)
 ·
  refine A8 ?_
  refine R1 (x3 (c_R5Right l (by omega) hD hs) fi43 rfl) rfl ?_
  refine A4 ?_
  exact x4 Plain.mk' rfl rfl (Le.bool (pay_all (i:=i) (by omega) hok))
theorem c_R9may (l:List Tst) (hl:l.length≤200000) (a b:Int) (hD: ∀s∈l,s.v.f.dig) (hs: ∀s∈l,s.v.f.n.l.length≤1048576∧s.v.f.d.l.length≤1048576):
  Ct Tryz.prog 38 [tL 8 true tTs l,tI a,tI b] (tB (askP l a b)):=by
 refine Ct.intro Tryz.func38 rfl Tryz.ntmps38 rfl ?_
 intro w F
 refine A8 ?_
 refine R1 (x3 (c_R9Right l hl hD hs) fi20 rfl) rfl ?_
 refine A1 ?_
 refine RGcase (t:=9) rfl (fun h25=> ?_) (fun h25=> ?_)
 ·
  refine A4 ?_
  refine RGcaseD (t:=13) rfl (fun h25_2=> ?_) (fun h25_2=> ?_)
  ·
   refine A4 ?_
   refine RGcaseD (t:=17) rfl (fun h25_3=> ?_) (fun h25_3=> ?_)
   ·
    refine A4 ?_
    refine RGcaseD (t:=21) rfl (fun h25_4=> ?_) (fun h25_4=> ?_)
    ·
     refine A7 ?_
     exact x4 Plain.mk' rfl rfl (Le.bool (by simp only [askP];simp [*]))
    ·
     refine A7 ?_
     exact x4 Plain.mk' rfl rfl (Le.bool (by simp only [askP];simp [*]))
   ·
    refine A11 ?_
    exact x4 Plain.mk' rfl rfl (Le.bool (by simp only [askP];simp [*]))
  ·
   refine A15 ?_
   exact x4 Plain.mk' rfl rfl (Le.bool (by simp only [askP];simp [*]))
 ·
  refine A18 ?_
  refine A1 ?_
  exact x4 Plain.mk' rfl rfl (Le.bool (by simp only [askP];simp [*]))
theorem c_R9covered (l:List Tst) (a b:Int) (h:tRight l=true) (h0:0≤a) (hab:a≤b) (hb:b≤65536):
  Ct Tryz.prog 39 [tL 1 false tI (rowD (tabT l)),tI a,tI b] (tB (decide (nD l a b=b - a))):=by
 refine Ct.intro Tryz.func39 rfl Tryz.ntmps39 rfl ?_
 intro w F
 refine A13 ?_
 refine cL (fun (e:Int)=>a≤e∧e≤b∧ ∀d:Nat,a≤(d:Int)→(d:Int) < e→tabT l d≠0) (fun (e:Int)=>upd (upd (upd (fun _=>none) 0 (some (.val (tL 1 false tI (rowD (tabT l)))))) 2 (some (.val (tI b)))) 7 (some (.val (tI e)))) (fun (e:Int)=>fun _=>none) [] (fun (e:Int)=>(b - e).toNat) (a) ⟨Int.le_refl _,hab,fun d h1 h2=>by omega⟩ ?_
 intro e hI
 obtain ⟨he1,he2,hc⟩:=hI
 refine A8 ?_
 refine xa0 rfl (fun h30=> ?_) (fun h30=> ?_)
 ·
  refine A8 ?_
  refine R2 (x6 sl28 ((e.toNat)) (by omega) (rowD_get (by omega))) rfl rfl ?_
  refine A4 ?_
  refine xa0 rfl (fun h31=> ?_) (fun h31=> ?_)
  ·
   refine A11 ?_
   exact x4 Plain.mk' rfl rfl (Le.bool (decide_eq_false (cov_no (d:=e.toNat) h (xn3 h) hab (by omega) (by omega) h31)).symm)
  ·
   refine A8 ?_
   exact K_fam (e+1) ⟨⟨by omega,by omega,fun d h1 h2=>by
  by_cases hd:(d:Int)=e
  ·have e2:d=e.toNat:=by omega
   rw [e2];exact h31
  ·exact hc d h1 (by omega)⟩,(by omega)⟩ (Sub.int rfl (by first | omega | rfl | (dsimp only;omega)) (Sub.int rfl (by first | omega | rfl | (dsimp only;omega)) (Sub.cons rfl Sub.nil))) SubK.nil (SupG.val (SupG.val (SupG.val SupG.nil))) SupH.nil (lkOk rfl)
 ·
  refine A11 ?_
  exact x4 Plain.mk' rfl rfl (Le.bool (decide_eq_true (cov_yes h (xn3 h) h0 hab fun d h1 h2=>hc d h1 (by omega))).symm)
theorem c_R5SumC (l:List Tst) (a b:Int) (hl:l.length≤200000) (hD: ∀s∈l,s.v.f.dig) (hs: ∀s∈l,s.v.f.n.l.length≤1048576∧s.v.f.d.l.length≤1048576) (h:sumC l a b):Ct Tryz.prog 64 [tL 8 true tTs l,tI a,tI b] (tT [tFr (sumF (sumT (cutT l a b))),tI (sumE (sumT (cutT l a b)))]):=by
 have:=c_R5Sum l (by omega) a b hD hs
 rw [if_pos h,if_pos h] at this;exact this
theorem c_R9mean (l:List Tst) (hl:l.length≤200000) (a b:Int) (hD: ∀s∈l,s.v.f.dig) (hs: ∀s∈l,s.v.f.n.l.length≤1048576∧s.v.f.d.l.length≤1048576) (h:payR l=true) (ha:0≤a) (hab:a < b) (hb:b≤65536):
  Ct Tryz.prog 41 [tL 8 true tTs l,tI a,tI b] (tT [tFr (sumF (avO l a b)),tI (sumE (avO l a b))]):=by
 refine Ct.intro Tryz.func41 rfl Tryz.ntmps41 rfl ?_
 intro w F
 refine A2 ?_
 refine RE (x8 (k:=6) (n:=4) (agg:=true) zr34.1 zr34.2 rfl) trivial trivial ⟨rfl,trivial⟩ ?_
 refine A8 ?_
 refine R3 (x3 (c_R5SumC l a b hl hD hs (sumC_pay h ha (Int.le_of_lt hab) hb)) fi64 rfl) rfl rfl rfl ?_
 refine A3 ?_
 refine RE (x8 (k:=8) (n:=4) (agg:=true) zr34.1 zr34.2 rfl) trivial trivial ⟨rfl,trivial⟩ ?_
 refine A11 ?_
 refine xa0 rfl (fun h41=> ?_) (fun h41=> ?_)
 ·
  have hs:=sumE_none h41
  refine A2 ?_
  refine R0 (xb2 (r:=tS [⟨2,true,(tS [⟨1,false,(tE (.bool false))⟩,⟨1,false,(tLm [])⟩])⟩,⟨2,true,(tS [⟨1,false,(tE (.bool false))⟩,⟨1,false,(tLm [])⟩])⟩]) (ts:=[]) bu34 zr34.2 Le.refl) ?_
  refine A7 ?_
  exact xa8 Plain.mk' (rs:=[.cell 6 34,.tmp 7]) rfl rfl ⟨⟨_,_,_,_,_,rfl,rfl,ti34,(Le.of (by rw [avO,hs];rfl))⟩,⟨_,rfl,(Le.int (by rw [avO,hs];rfl))⟩,trivial⟩
 ·
  obtain ⟨q,hq,hqs⟩:=sumF_short (fun q h=>sumT_short h) (Decidable.not_not.1 h41)
  refine A8 ?_
  refine R1 (x3 (xs6 (b - a) (by omega) (by omega)) fi66 rfl) rfl (R2 (x3 (c_R2DivA (b - a) hq hqs (by omega) (by omega) (by omega)) fi65 rfl) rfl rfl ?_)
  refine A7 ?_
  exact xa8 Plain.mk' (rs:=[.cell 6 34,.tmp 7]) rfl rfl ⟨⟨_,_,_,_,_,rfl,rfl,ti34,(Le.of (by rw [avO,hq,Option.bind_some]))⟩,⟨_,rfl,(Le.int (by rw [avO,hq,Option.bind_some]))⟩,trivial⟩
theorem c_R9Average (l:List Tst) (hl:l.length≤200000) (a b:Int) (hD: ∀s∈l,s.v.f.dig) (hs: ∀s∈l,s.v.f.n.l.length≤1048576∧s.v.f.d.l.length≤1048576):
  Ct Tryz.prog 18 [tL 8 true tTs l,tI a,tI b] (tT [tFr (avF l a b),tI (avE l a b)]):=by
 refine Ct.intro Tryz.func18 rfl Tryz.ntmps18 rfl ?_
 intro w F
 refine A2 ?_
 refine RE (x8 (k:=6) (n:=4) (agg:=true) zr34.1 zr34.2 rfl) trivial trivial ⟨rfl,trivial⟩ ?_
 refine A9 ?_
 refine R3 (x3 (c_R9may l hl a b hD hs) fi38 rfl) rfl rfl rfl ?_
 refine A3 ?_
 refine xc2 rfl (fun h49=> ?_) (fun h49=> ?_)
 ·
  have hk:askP l a b=false:=by simpa using h49
  refine A2 ?_
  refine R0 (xb2 (r:=tS [⟨2,true,(tS [⟨1,false,(tE (.bool false))⟩,⟨1,false,(tLm [])⟩])⟩,⟨2,true,(tS [⟨1,false,(tE (.bool false))⟩,⟨1,false,(tLm [])⟩])⟩]) (ts:=[]) bu34 zr34.2 Le.refl) ?_
  refine A6 ?_
  exact xa8 Plain.mk' (rs:=[.cell 6 34,.tmp 7]) rfl rfl ⟨⟨_,_,_,_,_,rfl,rfl,ti34,(Le.of (by rw [avF,if_neg (fun h=>by have h1:=h.1;rw [hk] at h1;cases h1)];rfl))⟩,⟨_,rfl,(Le.int (by rw [avE,if_neg (fun h=>by have h1:=h.1;rw [hk] at h1;cases h1),if_neg (by rw [hk];decide)]))⟩,trivial⟩
 ·
  have hk:askP l a b=true:=by simpa using h49
  have hk2:=(xo1.1 hk).2
  have h:=(xo1.1 hk).1
  have ht:=xm3 h
  refine A9 ?_
  refine RGcaseD (t:=17) rfl (fun h52=> ?_) (fun h52=> ?_)
  ·
   refine A12 ?_
   refine R0 (xb2 (r:=tS [⟨2,true,(tS [⟨1,false,(tE (.bool false))⟩,⟨1,false,(tLm [])⟩])⟩,⟨2,true,(tS [⟨1,false,(tE (.bool false))⟩,⟨1,false,(tLm [])⟩])⟩]) (ts:=[]) bu34 zr34.2 Le.refl) ?_
   refine A6 ?_
   exact xa8 Plain.mk' (rs:=[.cell 6 34,.tmp 7]) rfl rfl ⟨⟨_,_,_,_,_,rfl,rfl,ti34,(Le.of (by rw [avF,if_neg (fun h=>by have:=h.2.1;omega)];rfl))⟩,⟨_,rfl,(Le.int (by rw [avE,if_neg (fun h=>by have:=h.2.1;omega),if_pos hk]))⟩,trivial⟩
  ·
   refine A1 ?_
   refine RGon (decide_eq_false h52) rfl (x3 (c_R5Table l (by omega) ht) fi40 rfl) rfl ⟨rfl,trivial⟩ trivial trivial ?_
   refine A2 ?_
   refine RGon (decide_eq_false h52) rfl (x3 (c_R9covered l a b ht (by omega) (by omega) (by omega)) fi39 rfl) rfl ⟨rfl,rfl,rfl,trivial⟩ trivial trivial ?_
   refine A4 ?_
   refine C_ifn rfl (fun h52_2=> ?_) (fun h52_2=> ?_)
   ·
    refine A2 ?_
    refine R0 (xb2 (r:=tS [⟨2,true,(tS [⟨1,false,(tE (.bool false))⟩,⟨1,false,(tLm [])⟩])⟩,⟨2,true,(tS [⟨1,false,(tE (.bool false))⟩,⟨1,false,(tLm [])⟩])⟩]) (ts:=[]) bu34 zr34.2 Le.refl) ?_
    refine A6 ?_
    exact xa8 Plain.mk' (rs:=[.cell 6 34,.tmp 7]) rfl rfl ⟨⟨_,_,_,_,_,rfl,rfl,ti34,(Le.of (by rw [avF,if_neg (fun h=>h52_2 h.2.2)];rfl))⟩,⟨_,rfl,(Le.int (by rw [avE,if_neg (fun h=>h52_2 h.2.2),if_pos hk]))⟩,trivial⟩
   ·
    refine A7 ?_
    refine R3 (x3 (c_R9mean l hl a b hD hs h (by omega) (by omega) (by omega)) fi41 rfl) rfl rfl rfl ?_
    refine A7 ?_
    exact xa8 Plain.mk' (rs:=[.cell 6 34,.tmp 7]) rfl rfl ⟨⟨_,_,_,_,_,rfl,rfl,ti34,(Le.of (by rw [avF,if_pos ⟨hk,by omega,h52_2⟩]))⟩,⟨_,rfl,(Le.int (by rw [avE,if_pos ⟨hk,by omega,h52_2⟩]))⟩,trivial⟩
theorem c_means9 (l:List Tst) (a b:Int) (hl:l.length≤60) (hD: ∀s∈l,s.v.f.dig) (hs: ∀s∈l,s.v.f.n.l.length≤1200∧s.v.f.d.l.length≤1200):
  Ct Tryz.prog 7 [tL 8 true tTs l,tI a,tI b] (tB true):=by
 refine Ct.introO Tryz.func7 rfl Tryz.ntmps7 rfl ?_
 intro w F
 refine A8 ?_
 refine R1 (xe9 (ts:=[_]) (r:=tG (up w.heap.size) _) (c_LentStepsN l hl (fun s hsm=>by have:=hs s hsm;omega)) fi16 (fun m hm=>xh8 hm) ⟨tG_le,trivial⟩ rfl) rfl ?_
 refine A4 ?_
 refine C_lent (W:=tStW l) 99 42 7 (g':=fun v=>upd (upd (upd (upd (upd (fun _=>none) 0 (some (.val (tL 8 true tTs l)))) 1 (some (.val (tI a)))) 2 (some (.val (tI b)))) 6 (some (.val (tB false)))) 7 (some (.val (tE v)))) (h':=fun _=>none) rfl rfl (fun _ L hL=>SlC.cons rfl .cst (SlC.cons rfl (.val tG_E) (SlC.cons rfl (.val tG_E) (SlC.cons rfl (.val tG_E) (SlC.cons rfl (.val (tG_old hL)) (SlC.nil)))))) (fun _ _ _ _=>KyC.nil) ?_
 intro L w1 v hv hL1 hL2
 refine A4 ?_
 refine RE (d_callH (us':=[tE v,tI a,tI b]) (r:=tT [tFr (avF l a b),tI (avE l a b)]) OvC.mk' (c_AverageN l a b hD (by omega)) fi17 hrT ⟨.inr ⟨_,rfl,stW_le _ _ _ hv⟩,.inl Le.refl,.inl Le.refl,trivial⟩ rfl) ⟨rfl,rfl,rfl,trivial⟩ ⟨rfl,trivial⟩ trivial ?_
 refine A3 ?_
 refine RE (x8 (k:=8) (n:=4) (agg:=true) zr34.1 zr34.2 rfl) trivial trivial ⟨rfl,trivial⟩ ?_
 refine A9 ?_
 refine R3 (x3 (c_R9Average l (by omega) a b hD (fun s hsm=>by have:=hs s hsm;omega)) fi18 rfl) rfl rfl rfl ?_
 refine A3 ?_
 refine RE (x8 (k:=10) (n:=4) (agg:=true) zr34.1 zr34.2 rfl) trivial trivial ⟨rfl,trivial⟩ ?_
 refine A11 ?_
 refine RGon (decide_eq_false (by simp)) rfl xc7 rfl ⟨rfl,trivial⟩ trivial trivial (RGon (decide_eq_false (by simp)) rfl (d_callH (us':=[tE v]) (r:=tB (payR l)) (rr:=fun _=>tB (payR l)) OvC.mk' (c_PRight l hD) fi19 (hrE fun _=>rfl) ⟨.inr ⟨_,rfl,stW_le _ _ _ hv⟩,trivial⟩ rfl) rfl ⟨rfl,trivial⟩ ⟨rfl,trivial⟩ trivial (RGon (decide_eq_false (by simp)) rfl xc7 rfl ⟨rfl,trivial⟩ trivial trivial (RGon (decide_eq_false (by simp)) rfl (x3 (c_R9Right l (by omega) hD (fun s hsm=>by have:=hs s hsm;omega)) fi20 rfl) rfl ⟨rfl,trivial⟩ trivial trivial (RGon (decide_eq_false (by simp)) rfl (d_neqB Tryz.underlying4) rfl ⟨rfl,rfl,trivial⟩ trivial trivial (R2 (xd7 (decide_eq_false (by simp))) rfl rfl ?_)))))
 refine A1 ?_
 refine RGon (by simp) rfl xc7 rfl ⟨rfl,trivial⟩ trivial trivial (RGon (by simp) rfl xc7 rfl ⟨rfl,trivial⟩ trivial trivial (RGon (by simp) rfl (d_callH (us':=[tE v,tL 8 true tTs l]) (r:=tB true) (rr:=fun _=>tB true) OvC.mk' (c_KeptSteps l hl (fun s hsm=>by have:=hs s hsm;omega)) fi21 (hrE fun _=>rfl) ⟨.inr ⟨_,rfl,hv⟩,.inl Le.refl,trivial⟩ rfl) rfl ⟨rfl,rfl,trivial⟩ ⟨rfl,trivial⟩ trivial (RGon (by simp) rfl d_not rfl ⟨rfl,trivial⟩ trivial trivial (R2 (xd7 (by simp)) rfl rfl ?_))))
 refine A8 ?_
 refine RE (xq0 (us:=[tE v]) OvC.mk' (v_OverStepsL L w1 l hl (fun s hsm=>by have:=hs s hsm;omega) v hv) fi22 ⟨Free.E,trivial⟩ rfl) ⟨rfl,trivial⟩ ⟨rfl,trivial⟩ trivial ?_
 refine A6 ?_
 refine R2 (x3 (c_SameFracT _) fi23 rfl) rfl rfl ?_
 refine A4 ?_
 exact E_retB (RBase.ov hL2) trivial rfl rfl
theorem c_SlMeans (l:List Tst) (a b:Int) (hD: ∀s∈l,s.v.f.dig) (hr: ∀s∈l,s.v.f.n.l.length≤70368744177664∧s.v.f.d.l.length≤70368744177664):
  Ct Tryz.prog 3 [tKG KL (tL 8 true tTs l),tI a,tI b] (tB true):=by
 refine Ct.intro Tryz.func3 rfl Tryz.ntmps3 rfl ?_
 intro w F
 refine C_know (i:=0) (q:=3) rfl rfl ?_
 refine A8 ?_
 refine R1 (x3 (c_Few l hr) fi6 rfl) rfl ?_
 refine A2 ?_
 refine RGcase (t:=10) rfl (fun h76=> ?_) (fun h76=> ?_)
 ·
  refine A6 ?_
  refine RGon rfl rfl (d_call0 3 car_K c_awake09 fi8) rfl ⟨rfl,trivial⟩ trivial trivial ?_
  refine A5 ?_
  exact x4 Plain.mk' rfl rfl Le.refl
 ·
  have hf:=few_of (l:=l) (by simpa using h76)
  refine A3 ?_
  refine RGon h76 rfl (x3 (c_means9 l a b hf.1 hD hf.2) fi7 rfl) rfl ⟨rfl,rfl,rfl,trivial⟩ trivial trivial ?_
  refine A2 ?_
  refine RGon rfl rfl (d_call0 3 car_K c_awake09 fi8) rfl ⟨rfl,trivial⟩ trivial trivial ?_
  refine A5 ?_
  exact x4 Plain.mk' rfl rfl Le.refl
end An.S
