/- Part 5 of a proof: Q3, Q4, Q5, Q6, Q7, Q8, R5b, Sal2, R1, Y3, LibN2, LibAt, R2, LibAw, R3, Y2, R4, Svc, S12, S13, Svc2, LibAp, LibAq, LibAr, LibAs, R6. -/
import Derived.Test.YtjcoiplkcabipaaGreatDoorR4
set_option maxHeartbeats 4000000
set_option maxRecDepth 100000
namespace An.S
open Go Go.Proofs An
instance ti22:TyI Tryz.prog 22 1 false:=⟨by kernel_rfl,by kernel_rfl⟩
instance ti79:TyI Tryz.prog 79 1 false:=⟨by kernel_rfl,by kernel_rfl⟩
instance fi29:FnI Tryz.prog 29:=⟨_,Tryz.func29,by kernel_rfl,rfl⟩
instance fi33:FnI Tryz.prog 33:=⟨_,Tryz.func33,by kernel_rfl,rfl⟩
instance fi47:FnI Tryz.prog 47:=⟨_,Tryz.func47,by kernel_rfl,rfl⟩
instance fi48:FnI Tryz.prog 48:=⟨_,Tryz.func48,by kernel_rfl,rfl⟩
instance fi49:FnI Tryz.prog 49:=⟨_,Tryz.func49,by kernel_rfl,rfl⟩
instance fi68:FnI Tryz.prog 68:=⟨_,Tryz.func68,by kernel_rfl,rfl⟩
instance fi69:FnI Tryz.prog 69:=⟨_,Tryz.func69,by kernel_rfl,rfl⟩
instance fi71:FnI Tryz.prog 71:=⟨_,Tryz.func71,by kernel_rfl,rfl⟩
instance fi72:FnI Tryz.prog 72:=⟨_,Tryz.func72,by kernel_rfl,rfl⟩
instance fi73:FnI Tryz.prog 73:=⟨_,Tryz.func73,by kernel_rfl,rfl⟩
instance fi74:FnI Tryz.prog 74:=⟨_,Tryz.func74,by kernel_rfl,rfl⟩
section
variable {K:Nat} {D B:Int} {l a b:List Tst}
theorem c_CoversG (h:isG K D B l) (hl:l.length≤200000):Ct Tryz.prog 48 [tL 8 true tTs l] (tL 2 true tSn (cvT l)):=by
 have:=c_Covers l hl h.dig
 rw [if_pos h.1] at this;exact this
theorem c_SumA (x y:Int) (hn:nOk D B) (h:isG 3 D B l) (hl:l.length≤200000) (hx:0≤x) (hxy:x < y) (hy:y≤65536):Ct Tryz.prog 73 [tL 8 true tTs (subA l x y),tI x,tI y] (tT [tFr (fr (Rat.divInt (gS (wt D) l x y) D)),tI 0]):=by
 have ok:Sn.ok ⟨x,y⟩=true:=by simp [Sn.ok];omega
 have hs:(subA l x y).length≤200000:=by rw [subA,List.length_drop,List.length_take];omega
 have h2:=(h.sub (a:=x) (b:=y)).sum (.inr rfl) hn.1.1 (by have:=hn.1.2;omega) hn.2.1 hn.2.2 ok
 have:=c_TSum (subA l x y) x y (by omega) (h.sub (a:=x) (b:=y)).dig
 rw [if_pos h2.1,if_pos h2.1,h2.2,gS_sub h.asc hxy] at this;exact this
theorem c_DivA (x y:Int) (hn:nOk D B) (h:isG 3 D B l) (hx:0≤x) (hxy:x < y) (hy:y≤65536):Ct Tryz.prog 74 [tFr (fr (Rat.divInt (gS (wt D) l x y) D)),tFr (fr ((y - x:Int):Rat))] (tT [tFr (fr (avQ D l x y)),tI 0]):=by
 have h1:=gS_in hn h hx (Int.le_of_lt hxy) hy
 have s1:short (Rat.divInt (gS (wt D) l x y) D):=xt3 hn.1.1 h1.1 h1.2 (by have:=hn.1.2;omega)
 have s2:short ((y - x:Int):Rat):=by rw [int_div];exact xt3 (by decide) (by omega) (by omega) (by decide)
 have h3:=c_FDiv (Rat.divInt (gS (wt D) l x y) D) ((y - x:Int):Rat) s1 s2 (fun h0=>absurd (show y - x=0 by exact_mod_cast h0) (by omega))
 have s3:=short_av (a:=x) (b:=y) hn h hx hxy hy
 rw [div_int,←avQ,resF,resFE,if_pos s3,if_pos s3] at h3;exact h3
end
def payR (l:List Tst):Bool:=tRight l && (decide (l.length=0) || decide ((l.getD 0 tst0).v.kind=3))
def askP (l:List Tst) (a b:Int):Bool:=payR l && decide (0≤a) && decide (a≤65536) && decide (0≤b) && decide (b≤65536)
theorem xg9 {l:List Tst} {a b:Int}:askP l a b=true↔payR l=true∧(0≤a∧a≤65536)∧0≤b∧b≤65536:=by
 simp [askP,and_assoc]
def avR (D:Int) (l:List Tst) (a b:Int):Fr×Int:=if askP l a b=true then (if a < b∧nD l a b=b - a then (fr (avQ D l a b),0) else (fr0,6)) else (fr0,2)
theorem c_PRight (l:List Tst) (hD: ∀s∈l,s.v.f.dig):
  Ct Tryz.prog 29 [tL 8 true tTs l] (tB (payR l)):=by
 refine Ct.intro Tryz.func29 rfl Tryz.ntmps29 rfl ?_
 intro w F
 refine xk1 (s:=0) rfl (fun hl0=> ?_)
 refine A8 ?_
 refine R1 (x3 (c_TRight l hD) fi51 rfl) rfl ?_
 refine A1 ?_
 refine RGcase (t:=5) rfl (fun h16=> ?_) (fun h16=> ?_)
 ·
  refine A4 ?_
  refine RGcaseD (t:=9) rfl (fun h16_2=> ?_) (fun h16_2=> ?_)
  ·
   refine A6 ?_
   refine RGon h16 rfl (xe3 (decide_eq_true h16_2)) rfl ⟨rfl,rfl,trivial⟩ trivial trivial ?_
   refine A5 ?_
   exact x4 Plain.mk' rfl rfl (Le.bool (by rw [payR,h16,decide_eq_true (show l.length=0 by omega)];rfl))
  ·
   refine A1 ?_
   refine RGon (decide_eq_false h16_2) rfl (x6 sl22 (0) (by omega) (gD (l:=l) (n:=0) (d:=tst0) (by omega))) rfl ⟨rfl,rfl,trivial⟩ trivial trivial (RGon (decide_eq_false h16_2) rfl (xb4 fo37_2.h (At.f 2 rfl rfl) rfl) rfl ⟨rfl,trivial⟩ trivial trivial (RGon (decide_eq_false h16_2) rfl (xb4 fo35_0.h (At.f 0 rfl rfl) rfl) rfl ⟨rfl,trivial⟩ trivial trivial ?_))
   refine A2 ?_
   refine RGon h16 rfl (xc4 (decide_eq_false h16_2)) rfl ⟨rfl,rfl,trivial⟩ trivial trivial ?_
   refine A5 ?_
   exact x4 Plain.mk' rfl rfl (Le.bool (by rw [payR,h16,decide_eq_false (show ¬l.length=0 by omega)];simp;omega))
 ·
  refine A16 ?_
  exact x4 Plain.mk' rfl rfl (Le.bool (by rw [payR,h16];rfl))
theorem xq8 (l:List Tst) (a b:Int) (hD: ∀s∈l,s.v.f.dig):
  Ct Tryz.prog 33 [tL 8 true tTs l,tI a,tI b] (tB (askP l a b)):=by
 refine Ct.intro Tryz.func33 rfl Tryz.ntmps33 rfl ?_
 intro w F
 refine A8 ?_
 refine R1 (x3 (c_PRight l hD) fi29 rfl) rfl ?_
 refine A1 ?_
 refine RGcase (t:=9) rfl (fun h21=> ?_) (fun h21=> ?_)
 ·
  refine A4 ?_
  refine RGcaseD (t:=13) rfl (fun h21_2=> ?_) (fun h21_2=> ?_)
  ·
   refine A4 ?_
   refine RGcaseD (t:=17) rfl (fun h21_3=> ?_) (fun h21_3=> ?_)
   ·
    refine A4 ?_
    refine RGcaseD (t:=21) rfl (fun h21_4=> ?_) (fun h21_4=> ?_)
    ·
     refine A7 ?_
     exact x4 Plain.mk' rfl rfl (Le.bool (by simp [askP, *]))
    ·
     refine A7 ?_
     exact x4 Plain.mk' rfl rfl (Le.bool (by simp [askP, *]))
   ·
    refine A11 ?_
    exact x4 Plain.mk' rfl rfl (Le.bool (by simp [askP, *]))
  ·
   refine A15 ?_
   exact x4 Plain.mk' rfl rfl (Le.bool (by simp [askP, *]))
 ·
  refine A18 ?_
  refine A1 ?_
  exact x4 Plain.mk' rfl rfl (Le.bool (by simp [askP, *]))
theorem xu9 (n:Int):
  Ct Tryz.prog 34 [tI n] (tB (decide (1≤n∧n≤1200))):=by
 refine Ct.intro Tryz.func34 rfl Tryz.ntmps34 rfl ?_
 intro w F
 refine A10 ?_
 refine RGcaseD (t:=5) rfl (fun h26=> ?_) (fun h26=> ?_)
 ·
  refine A7 ?_
  exact x4 Plain.mk' rfl rfl (Le.bool (by simp;omega))
 ·
  refine A7 ?_
  exact x4 Plain.mk' rfl rfl (Le.bool (by simp;omega))
theorem c_isCov1 (l:List Sn) (d:Int) (i:Nat) (hi:i < l.length):
  CtG Tryz.prog 69 [(3,⟨79,1,false,[.val (tL 2 true tSn l)]⟩),(4,⟨3,1,false,[.val (tI d)]⟩)] [.val (tI i),.own (.ptr 3 0),.own (.ptr 4 0)] (.val (tB (decide (d < (l.getD i sn0).hi)))) [(3,⟨79,1,false,[.val (tL 2 true tSn l)]⟩),(4,⟨3,1,false,[.val (tI d)]⟩)] []:=by
 refine CtG.intro [3,4] Tryz.func69 rfl Tryz.ntmps69 rfl rfl ⟨⟨rfl,(SupX.lit rfl)⟩,⟨rfl,(SupX.lit rfl)⟩,trivial⟩ ?_
 intro w F η
 refine A9 ?_
 refine R2 (x6 sl79 (i) (by omega) (gD (l:=l) (n:=i) (d:=sn0) (by omega))) rfl rfl (R1 (xb4 fo96_1.h (At.f 1 rfl rfl) rfl) rfl ?_)
 refine A7 ?_
 exact xf9 LentC.mk' rfl rfl Imp.refl ⟨rfl,rfl,trivial⟩ rfl ⟨⟨rfl,(SupX.lit rfl)⟩,⟨rfl,(SupX.lit rfl)⟩,trivial⟩ rfl
theorem c_SearchC (l:List Sn) (d:Int) (hv:sVal l=true) (hl:l.length≤1000000):
  CtG Tryz.prog 68 [(3,⟨79,1,false,[.val (tL 2 true tSn l)]⟩),(4,⟨3,1,false,[.val (tI d)]⟩)] [.val (tI l.length),.own (.fn 69 [.ptr 3 0,.ptr 4 0])] (.val (tI (fndS l d))) [(3,⟨79,1,false,[.val (tL 2 true tSn l)]⟩),(4,⟨3,1,false,[.val (tI d)]⟩)] []:=by
 refine CtG.intro [3,4] Tryz.func68 rfl Tryz.ntmps68 rfl rfl ⟨⟨rfl,(SupX.lit rfl)⟩,⟨rfl,(SupX.lit rfl)⟩,trivial⟩ ?_
 intro w F η
 refine A14 ?_
 refine cL (fun (fm:(Nat)×(Nat))=>(fun (p:Nat) (q:Nat)=>p≤q∧q≤l.length∧(∀i,i < p→(l.getD i sn0).hi≤d)∧ ∀i,q≤i→i < l.length→d < (l.getD i sn0).hi) fm.1 fm.2) (fun (fm:(Nat)×(Nat))=>(fun (p:Nat) (q:Nat)=>upd (upd (upd (fun _=>none) 1 (some (.own (.fn 69 [.ptr 3 0,.ptr 4 0])))) 5 (some (.val (tI p)))) 6 (some (.val (tI q)))) fm.1 fm.2) (fun (fm:(Nat)×(Nat))=>(fun (p:Nat) (q:Nat)=>upd (upd (fun _=>none) 3 (some (⟨79,1,false,[.val (tL 2 true tSn l)]⟩))) 4 (some (⟨3,1,false,[.val (tI d)]⟩))) fm.1 fm.2) [3,4] (fun (fm:(Nat)×(Nat))=>(fun (p:Nat) (q:Nat)=>q - p) fm.1 fm.2) ((0,l.length)) (by dsimp only;exact ⟨Nat.zero_le _,Nat.le_refl _,fun i hi=>by omega,fun i hi hi2=>by omega⟩) (hh:=((SubK.consI rfl ImpK.refl) ((SubK.consI rfl ImpK.refl) SubK.nil))) ?_
 intro fm hI
 obtain ⟨p,q⟩:=fm
 replace hI:p≤q∧q≤l.length∧(∀i,i < p→(l.getD i sn0).hi≤d)∧ ∀i,q≤i→i < l.length→d < (l.getD i sn0).hi:=hI
 show wc _ _ _ _ (upd (upd (upd (fun _=>none) 1 (some (.own (.fn 69 [.ptr 3 0,.ptr 4 0])))) 5 (some (.val (tI p)))) 6 (some (.val (tI q)))) (upd (upd (fun _=>none) 3 (some (⟨79,1,false,[.val (tL 2 true tSn l)]⟩))) 4 (some (⟨3,1,false,[.val (tI d)]⟩))) _
 obtain ⟨hp,hq,h1,h2⟩:=hI
 refine A8 ?_
 refine x9 rfl (fun h62=> ?_) (fun h62=> ?_)
 ·
  refine A8 ?_
  refine R1 (x7 Tryz.underlying28 (isS Tryz.underlying3) (by first | exact wu64 (by omega) (by omega) | exact mu64)) rfl (R2 (xh4 (r:=((((p+q) / 2):Nat):Int)) (by decide) ((shrN (s:=1) rfl (by decide)).trans (by simp))) rfl rfl (R1 (x7 Tryz.underlying3 (isS Tryz.underlying28) (wr64 (by omega) (by omega))) rfl ?_))
  refine A7 ?_
  refine RE (xm0 (ps:=[.val (tI _)]) (caps:=[.ptr 3 0,.ptr 4 0]) (fun j=>cond (Nat.beq j 3) 3 (4)) (c_isCov1 l d ((p+q) / 2) (by omega)) fi69 rfl (krC (ρ:=fun j=>cond (Nat.beq j 3) 3 (4)) (k:=3) rfl (krC (ρ:=fun j=>cond (Nat.beq j 3) 3 (4)) (k:=4) rfl (krN (ρ:=fun j=>cond (Nat.beq j 3) 3 (4))))) (krC (ρ:=fun j=>cond (Nat.beq j 3) 3 (4)) (k:=3) rfl (krC (ρ:=fun j=>cond (Nat.beq j 3) 3 (4)) (k:=4) rfl (krN (ρ:=fun j=>cond (Nat.beq j 3) 3 (4))))) ⟨⟨rfl,(SupX.lit rfl)⟩,⟨rfl,(SupX.lit rfl)⟩,trivial⟩ rfl) ⟨rfl,rfl,trivial⟩ ⟨rfl,rfl,trivial⟩ trivial ?_
  refine A3 ?_
  refine C_ifn rfl (fun h65=> ?_) (fun h65=> ?_)
  ·
   refine A6 ?_
   exact kF ((((p+q) / 2)+1,q)) ⟨(by dsimp only;exact ⟨by omega,hq,fun i hi=>by have:=hiS_mono hv (show i≤((p+q) / 2) by omega) (by omega);omega,h2⟩),(by dsimp only;omega)⟩ (hh:=((SubK.consI rfl ImpK.refl) ((SubK.consI rfl ImpK.refl) SubK.nil)))
  ·
   refine A5 ?_
   exact kF ((p,((p+q) / 2))) ⟨(by dsimp only;exact ⟨by omega,by omega,h1,fun i hi hi2=>by have:=hiS_mono hv hi hi2;omega⟩),(by dsimp only;omega)⟩ (hh:=((SubK.consI rfl ImpK.refl) ((SubK.consI rfl ImpK.refl) SubK.nil)))
 ·
  refine A12 ?_
  exact xf9 LentC.mk' rfl rfl (Imp.int (congrArg Int.ofNat (fst_is (n:=l.length) (f:=fun i=>decide (d < (l.getD i sn0).hi)) (by omega) (fun i hi=>decide_eq_false (by have:=h1 i hi;omega)) (fun hp2=>decide_eq_true (h2 p (by omega) hp2))).symm)) ⟨rfl,rfl,trivial⟩ rfl ⟨⟨rfl,(SupX.lit rfl)⟩,⟨rfl,(SupX.lit rfl)⟩,trivial⟩ rfl
theorem c_isCov (l:List Sn) (a b:Int) (hv:sVal l=true) (hl:l.length≤1000000):
  Ct Tryz.prog 47 [tL 2 true tSn l,tI a,tI b] (tB (cvB l a b)):=by
 refine Ct.intro Tryz.func47 rfl Tryz.ntmps47 rfl ?_
 intro w F
 refine A11 ?_
 refine R2 (xh9 (ps:=[.ptr 3 0,.ptr 4 0]) rfl) rfl rfl (RE (xf0 (fun j=>cond (Nat.beq j 3) 3 (4)) (c_SearchC l a hv hl) fi68 rfl (krC (ρ:=fun j=>cond (Nat.beq j 3) 3 (4)) (k:=3) rfl (krC (ρ:=fun j=>cond (Nat.beq j 3) 3 (4)) (k:=4) rfl (krN (ρ:=fun j=>cond (Nat.beq j 3) 3 (4))))) (krC (ρ:=fun j=>cond (Nat.beq j 3) 3 (4)) (k:=3) rfl (krC (ρ:=fun j=>cond (Nat.beq j 3) 3 (4)) (k:=4) rfl (krN (ρ:=fun j=>cond (Nat.beq j 3) 3 (4))))) ⟨⟨rfl,(SupX.lit rfl)⟩,⟨rfl,(SupX.lit rfl)⟩,trivial⟩ rfl) ⟨rfl,rfl,trivial⟩ ⟨rfl,rfl,trivial⟩ trivial ?_)
 refine A10 ?_
 refine RGcaseD (t:=16) rfl (fun h32=> ?_) (fun h32=> ?_)
 ·
  refine A2 ?_
  refine RGon (decide_eq_true h32) rfl (x6 sl79 (fndS l a) (by omega) (gD (l:=l) (n:=fndS l a) (d:=sn0) (by omega))) rfl ⟨rfl,rfl,trivial⟩ trivial trivial (RGon (decide_eq_true h32) rfl (xb4 fo96_0.h (At.f 0 rfl rfl) rfl) rfl ⟨rfl,trivial⟩ trivial trivial ?_)
  refine A5 ?_
  refine RGcaseD (t:=25) rfl (fun h32_2=> ?_) (fun h32_2=> ?_)
  ·
   refine A3 ?_
   refine RGon (decide_eq_true h32_2) rfl (x6 sl79 (fndS l a) (by omega) (gD (l:=l) (n:=fndS l a) (d:=sn0) (by omega))) rfl ⟨rfl,rfl,trivial⟩ trivial trivial (RGon (decide_eq_true h32_2) rfl (xb4 fo96_1.h (At.f 1 rfl rfl) rfl) rfl ⟨rfl,trivial⟩ trivial trivial ?_)
   refine A7 ?_
   exact x4 Plain.mk' rfl rfl (Le.bool (by rw [cvB,decide_eq_true (show fndS l a < l.length by omega),decide_eq_true h32_2];rfl))
  ·
   refine A12 ?_
   exact x4 Plain.mk' rfl rfl (Le.bool (by rw [cvB,decide_eq_true (show fndS l a < l.length by omega),decide_eq_false h32_2];rfl))
 ·
  refine A18 ?_
  refine A3 ?_
  exact x4 Plain.mk' rfl rfl (Le.bool (by rw [cvB,decide_eq_false (show ¬fndS l a < l.length by omega)];rfl))
theorem c_avg1 (l:List Tst) (d:Int) (i:Nat) (hi:i < l.length):
  CtG Tryz.prog 71 [(3,⟨22,1,false,[.val (tL 8 true tTs l)]⟩),(4,⟨3,1,false,[.val (tI d)]⟩)] [.val (tI i),.own (.ptr 3 0),.own (.ptr 4 0)] (.val (tB (decide (d < (l.getD i tst0).hi)))) [(3,⟨22,1,false,[.val (tL 8 true tTs l)]⟩),(4,⟨3,1,false,[.val (tI d)]⟩)] []:=by
 refine CtG.intro [3,4] Tryz.func71 rfl Tryz.ntmps71 rfl rfl ⟨⟨rfl,(SupX.lit rfl)⟩,⟨rfl,(SupX.lit rfl)⟩,trivial⟩ ?_
 intro w F η
 refine A9 ?_
 refine R2 (x6 sl22 (i) (by omega) (gD (l:=l) (n:=i) (d:=tst0) (by omega))) rfl rfl (R1 (xb4 fo37_1.h (At.f 1 rfl rfl) rfl) rfl ?_)
 refine A7 ?_
 exact xf9 LentC.mk' rfl rfl Imp.refl ⟨rfl,rfl,trivial⟩ rfl ⟨⟨rfl,(SupX.lit rfl)⟩,⟨rfl,(SupX.lit rfl)⟩,trivial⟩ rfl
theorem c_avg2 (l:List Tst) (d:Int) (i:Nat) (hi:i < l.length):
  CtG Tryz.prog 72 [(3,⟨22,1,false,[.val (tL 8 true tTs l)]⟩),(5,⟨3,1,false,[.val (tI d)]⟩)] [.val (tI i),.own (.ptr 3 0),.own (.ptr 5 0)] (.val (tB (decide (d≤(l.getD i tst0).lo)))) [(3,⟨22,1,false,[.val (tL 8 true tTs l)]⟩),(5,⟨3,1,false,[.val (tI d)]⟩)] []:=by
 refine CtG.intro [3,5] Tryz.func72 rfl Tryz.ntmps72 rfl rfl ⟨⟨rfl,(SupX.lit rfl)⟩,⟨rfl,(SupX.lit rfl)⟩,trivial⟩ ?_
 intro w F η
 refine A9 ?_
 refine R2 (x6 sl22 (i) (by omega) (gD (l:=l) (n:=i) (d:=tst0) (by omega))) rfl rfl (R1 (xb4 fo37_0.h (At.f 0 rfl rfl) rfl) rfl ?_)
 refine A7 ?_
 exact xf9 LentC.mk' rfl rfl Imp.refl ⟨rfl,rfl,trivial⟩ rfl ⟨⟨rfl,(SupX.lit rfl)⟩,⟨rfl,(SupX.lit rfl)⟩,trivial⟩ rfl
theorem c_SearchA (l:List Tst) (d:Int) (hv:ascT l) (hl:l.length≤1000000):
  CtG Tryz.prog 68 [(3,⟨22,1,false,[.val (tL 8 true tTs l)]⟩),(4,⟨3,1,false,[.val (tI d)]⟩)] [.val (tI l.length),.own (.fn 71 [.ptr 3 0,.ptr 4 0])] (.val (tI (fstA l d))) [(3,⟨22,1,false,[.val (tL 8 true tTs l)]⟩),(4,⟨3,1,false,[.val (tI d)]⟩)] []:=by
 refine CtG.intro [3,4] Tryz.func68 rfl Tryz.ntmps68 rfl rfl ⟨⟨rfl,(SupX.lit rfl)⟩,⟨rfl,(SupX.lit rfl)⟩,trivial⟩ ?_
 intro w F η
 refine A14 ?_
 refine cL (fun (fm:(Nat)×(Nat))=>(fun (p:Nat) (q:Nat)=>p≤q∧q≤l.length∧(∀i,i < p→(l.getD i tst0).hi≤d)∧ ∀i,q≤i→i < l.length→d < (l.getD i tst0).hi) fm.1 fm.2) (fun (fm:(Nat)×(Nat))=>(fun (p:Nat) (q:Nat)=>upd (upd (upd (fun _=>none) 1 (some (.own (.fn 71 [.ptr 3 0,.ptr 4 0])))) 5 (some (.val (tI p)))) 6 (some (.val (tI q)))) fm.1 fm.2) (fun (fm:(Nat)×(Nat))=>(fun (p:Nat) (q:Nat)=>upd (upd (fun _=>none) 3 (some (⟨22,1,false,[.val (tL 8 true tTs l)]⟩))) 4 (some (⟨3,1,false,[.val (tI d)]⟩))) fm.1 fm.2) [3,4] (fun (fm:(Nat)×(Nat))=>(fun (p:Nat) (q:Nat)=>q - p) fm.1 fm.2) ((0,l.length)) (by dsimp only;exact ⟨Nat.zero_le _,Nat.le_refl _,fun i hi=>by omega,fun i hi hi2=>by omega⟩) (hh:=((SubK.consI rfl ImpK.refl) ((SubK.consI rfl ImpK.refl) SubK.nil))) ?_
 intro fm hI
 obtain ⟨p,q⟩:=fm
 replace hI:p≤q∧q≤l.length∧(∀i,i < p→(l.getD i tst0).hi≤d)∧ ∀i,q≤i→i < l.length→d < (l.getD i tst0).hi:=hI
 show wc _ _ _ _ (upd (upd (upd (fun _=>none) 1 (some (.own (.fn 71 [.ptr 3 0,.ptr 4 0])))) 5 (some (.val (tI p)))) 6 (some (.val (tI q)))) (upd (upd (fun _=>none) 3 (some (⟨22,1,false,[.val (tL 8 true tTs l)]⟩))) 4 (some (⟨3,1,false,[.val (tI d)]⟩))) _
 obtain ⟨hp,hq,h1,h2⟩:=hI
 refine A8 ?_
 refine x9 rfl (fun h62=> ?_) (fun h62=> ?_)
 ·
  refine A8 ?_
  refine R1 (x7 Tryz.underlying28 (isS Tryz.underlying3) (by first | exact wu64 (by omega) (by omega) | exact mu64)) rfl (R2 (xh4 (r:=((((p+q) / 2):Nat):Int)) (by decide) ((shrN (s:=1) rfl (by decide)).trans (by simp))) rfl rfl (R1 (x7 Tryz.underlying3 (isS Tryz.underlying28) (wr64 (by omega) (by omega))) rfl ?_))
  refine A7 ?_
  refine RE (xm0 (ps:=[.val (tI _)]) (caps:=[.ptr 3 0,.ptr 4 0]) (fun j=>cond (Nat.beq j 3) 3 (4)) (c_avg1 l d ((p+q) / 2) (by omega)) fi71 rfl (krC (ρ:=fun j=>cond (Nat.beq j 3) 3 (4)) (k:=3) rfl (krC (ρ:=fun j=>cond (Nat.beq j 3) 3 (4)) (k:=4) rfl (krN (ρ:=fun j=>cond (Nat.beq j 3) 3 (4))))) (krC (ρ:=fun j=>cond (Nat.beq j 3) 3 (4)) (k:=3) rfl (krC (ρ:=fun j=>cond (Nat.beq j 3) 3 (4)) (k:=4) rfl (krN (ρ:=fun j=>cond (Nat.beq j 3) 3 (4))))) ⟨⟨rfl,(SupX.lit rfl)⟩,⟨rfl,(SupX.lit rfl)⟩,trivial⟩ rfl) ⟨rfl,rfl,trivial⟩ ⟨rfl,rfl,trivial⟩ trivial ?_
  refine A3 ?_
  refine C_ifn rfl (fun h65=> ?_) (fun h65=> ?_)
  ·
   refine A6 ?_
   exact kF ((((p+q) / 2)+1,q)) ⟨(by dsimp only;exact ⟨by omega,hq,fun i hi=>by have:=hiT_asc hv (show i≤((p+q) / 2) by omega) (by omega);omega,h2⟩),(by dsimp only;omega)⟩ (hh:=((SubK.consI rfl ImpK.refl) ((SubK.consI rfl ImpK.refl) SubK.nil)))
  ·
   refine A5 ?_
   exact kF ((p,((p+q) / 2))) ⟨(by dsimp only;exact ⟨by omega,by omega,h1,fun i hi hi2=>by have:=hiT_asc hv hi hi2;omega⟩),(by dsimp only;omega)⟩ (hh:=((SubK.consI rfl ImpK.refl) ((SubK.consI rfl ImpK.refl) SubK.nil)))
 ·
  refine A12 ?_
  exact xf9 LentC.mk' rfl rfl (Imp.int (congrArg Int.ofNat (fst_is (n:=l.length) (f:=fun i=>decide (d < (l.getD i tst0).hi)) (by omega) (fun i hi=>decide_eq_false (by have:=h1 i hi;omega)) (fun hp2=>decide_eq_true (h2 p (by omega) hp2))).symm)) ⟨rfl,rfl,trivial⟩ rfl ⟨⟨rfl,(SupX.lit rfl)⟩,⟨rfl,(SupX.lit rfl)⟩,trivial⟩ rfl
theorem c_SearchB (l:List Tst) (d:Int) (hv:ascT l) (hl:l.length≤1000000):
  CtG Tryz.prog 68 [(3,⟨22,1,false,[.val (tL 8 true tTs l)]⟩),(5,⟨3,1,false,[.val (tI d)]⟩)] [.val (tI l.length),.own (.fn 72 [.ptr 3 0,.ptr 5 0])] (.val (tI (endA l d))) [(3,⟨22,1,false,[.val (tL 8 true tTs l)]⟩),(5,⟨3,1,false,[.val (tI d)]⟩)] []:=by
 refine CtG.intro [3,5] Tryz.func68 rfl Tryz.ntmps68 rfl rfl ⟨⟨rfl,(SupX.lit rfl)⟩,⟨rfl,(SupX.lit rfl)⟩,trivial⟩ ?_
 intro w F η
 refine A14 ?_
 refine cL (fun (fm:(Nat)×(Nat))=>(fun (p:Nat) (q:Nat)=>p≤q∧q≤l.length∧(∀i,i < p→(l.getD i tst0).lo < d)∧ ∀i,q≤i→i < l.length→d≤(l.getD i tst0).lo) fm.1 fm.2) (fun (fm:(Nat)×(Nat))=>(fun (p:Nat) (q:Nat)=>upd (upd (upd (fun _=>none) 1 (some (.own (.fn 72 [.ptr 3 0,.ptr 5 0])))) 5 (some (.val (tI p)))) 6 (some (.val (tI q)))) fm.1 fm.2) (fun (fm:(Nat)×(Nat))=>(fun (p:Nat) (q:Nat)=>upd (upd (fun _=>none) 3 (some (⟨22,1,false,[.val (tL 8 true tTs l)]⟩))) 5 (some (⟨3,1,false,[.val (tI d)]⟩))) fm.1 fm.2) [3,5] (fun (fm:(Nat)×(Nat))=>(fun (p:Nat) (q:Nat)=>q - p) fm.1 fm.2) ((0,l.length)) (by dsimp only;exact ⟨Nat.zero_le _,Nat.le_refl _,fun i hi=>by omega,fun i hi hi2=>by omega⟩) (hh:=((SubK.consI rfl ImpK.refl) ((SubK.consI rfl ImpK.refl) SubK.nil))) ?_
 intro fm hI
 obtain ⟨p,q⟩:=fm
 replace hI:p≤q∧q≤l.length∧(∀i,i < p→(l.getD i tst0).lo < d)∧ ∀i,q≤i→i < l.length→d≤(l.getD i tst0).lo:=hI
 show wc _ _ _ _ (upd (upd (upd (fun _=>none) 1 (some (.own (.fn 72 [.ptr 3 0,.ptr 5 0])))) 5 (some (.val (tI p)))) 6 (some (.val (tI q)))) (upd (upd (fun _=>none) 3 (some (⟨22,1,false,[.val (tL 8 true tTs l)]⟩))) 5 (some (⟨3,1,false,[.val (tI d)]⟩))) _
 obtain ⟨hp,hq,h1,h2⟩:=hI
 refine A8 ?_
 refine x9 rfl (fun h62=> ?_) (fun h62=> ?_)
 ·
  refine A8 ?_
  refine R1 (x7 Tryz.underlying28 (isS Tryz.underlying3) (by first | exact wu64 (by omega) (by omega) | exact mu64)) rfl (R2 (xh4 (r:=((((p+q) / 2):Nat):Int)) (by decide) ((shrN (s:=1) rfl (by decide)).trans (by simp))) rfl rfl (R1 (x7 Tryz.underlying3 (isS Tryz.underlying28) (wr64 (by omega) (by omega))) rfl ?_))
  refine A7 ?_
  refine RE (xm0 (ps:=[.val (tI _)]) (caps:=[.ptr 3 0,.ptr 5 0]) (fun j=>cond (Nat.beq j 3) 3 (5)) (c_avg2 l d ((p+q) / 2) (by omega)) fi72 rfl (krC (ρ:=fun j=>cond (Nat.beq j 3) 3 (5)) (k:=3) rfl (krC (ρ:=fun j=>cond (Nat.beq j 3) 3 (5)) (k:=5) rfl (krN (ρ:=fun j=>cond (Nat.beq j 3) 3 (5))))) (krC (ρ:=fun j=>cond (Nat.beq j 3) 3 (5)) (k:=3) rfl (krC (ρ:=fun j=>cond (Nat.beq j 3) 3 (5)) (k:=5) rfl (krN (ρ:=fun j=>cond (Nat.beq j 3) 3 (5))))) ⟨⟨rfl,(SupX.lit rfl)⟩,⟨rfl,(SupX.lit rfl)⟩,trivial⟩ rfl) ⟨rfl,rfl,trivial⟩ ⟨rfl,rfl,trivial⟩ trivial ?_
  refine A3 ?_
  refine C_ifn rfl (fun h65=> ?_) (fun h65=> ?_)
  ·
   refine A6 ?_
   exact kF ((((p+q) / 2)+1,q)) ⟨(by dsimp only;exact ⟨by omega,hq,fun i hi=>by have:=loT_mono hv (show i≤((p+q) / 2) by omega) (by omega);omega,h2⟩),(by dsimp only;omega)⟩ (hh:=((SubK.consI rfl ImpK.refl) ((SubK.consI rfl ImpK.refl) SubK.nil)))
  ·
   refine A5 ?_
   exact kF ((p,((p+q) / 2))) ⟨(by dsimp only;exact ⟨by omega,by omega,h1,fun i hi hi2=>by have:=loT_mono hv hi hi2;omega⟩),(by dsimp only;omega)⟩ (hh:=((SubK.consI rfl ImpK.refl) ((SubK.consI rfl ImpK.refl) SubK.nil)))
 ·
  refine A12 ?_
  exact xf9 LentC.mk' rfl rfl (Imp.int (congrArg Int.ofNat (fst_is (n:=l.length) (f:=fun i=>decide (d≤(l.getD i tst0).lo)) (by omega) (fun i hi=>decide_eq_false (by have:=h1 i hi;omega)) (fun hp2=>decide_eq_true (h2 p (by omega) hp2))).symm)) ⟨rfl,rfl,trivial⟩ rfl ⟨⟨rfl,(SupX.lit rfl)⟩,⟨rfl,(SupX.lit rfl)⟩,trivial⟩ rfl
theorem c_average (D B:Int) (l:List Tst) (a b:Int) (hn:nOk D B) (h:isG 3 D B l) (hl:l.length≤200000) (ha:0≤a) (hab:a < b) (hb:b≤65536):
  Ct Tryz.prog 49 [tL 8 true tTs l,tI a,tI b] (tT [tFr (fr (avQ D l a b)),tI 0]):=by
 have hfe:=fst_end h.asc hab
 refine Ct.intro Tryz.func49 rfl Tryz.ntmps49 rfl ?_
 intro w F
 refine A5 ?_
 refine RE (x5 (k:=6) (n:=4) (agg:=true) zr33.1 zr33.2 rfl) trivial trivial ⟨rfl,trivial⟩ ?_
 refine A7 ?_
 refine R2 (xh9 (ps:=[.ptr 3 0,.ptr 4 0]) rfl) rfl rfl (RE (xf0 (fun j=>cond (Nat.beq j 3) 3 (4)) (c_SearchA l a h.asc (by omega)) fi68 rfl (krC (ρ:=fun j=>cond (Nat.beq j 3) 3 (4)) (k:=3) rfl (krC (ρ:=fun j=>cond (Nat.beq j 3) 3 (4)) (k:=4) rfl (krN (ρ:=fun j=>cond (Nat.beq j 3) 3 (4))))) (krC (ρ:=fun j=>cond (Nat.beq j 3) 3 (4)) (k:=3) rfl (krC (ρ:=fun j=>cond (Nat.beq j 3) 3 (4)) (k:=4) rfl (krN (ρ:=fun j=>cond (Nat.beq j 3) 3 (4))))) ⟨⟨rfl,(SupX.lit rfl)⟩,⟨rfl,(SupX.lit rfl)⟩,trivial⟩ rfl) ⟨rfl,rfl,trivial⟩ ⟨rfl,rfl,trivial⟩ trivial ?_)
 refine A7 ?_
 refine R2 (xh9 (ps:=[.ptr 3 0,.ptr 5 0]) rfl) rfl rfl (RE (xf0 (fun j=>cond (Nat.beq j 3) 3 (5)) (c_SearchB l b h.asc (by omega)) fi68 rfl (krC (ρ:=fun j=>cond (Nat.beq j 3) 3 (5)) (k:=3) rfl (krC (ρ:=fun j=>cond (Nat.beq j 3) 3 (5)) (k:=5) rfl (krN (ρ:=fun j=>cond (Nat.beq j 3) 3 (5))))) (krC (ρ:=fun j=>cond (Nat.beq j 3) 3 (5)) (k:=3) rfl (krC (ρ:=fun j=>cond (Nat.beq j 3) 3 (5)) (k:=5) rfl (krN (ρ:=fun j=>cond (Nat.beq j 3) 3 (5))))) ⟨⟨rfl,(SupX.lit rfl)⟩,⟨rfl,(SupX.lit rfl)⟩,trivial⟩ rfl) ⟨rfl,rfl,trivial⟩ ⟨rfl,rfl,trivial⟩ trivial ?_)
 refine A8 ?_
 refine R3 (d_sliceFT sl22 (fstA l a) (endA l b) rfl rfl hfe.1 hfe.2 rfl) rfl rfl rfl ?_
 refine A2 ?_
 refine R3 (x3 (c_SumA a b hn h hl ha hab hb) fi73 rfl) rfl rfl rfl ?_
 refine A3 ?_
 refine RE (x5 (k:=10) (n:=4) (agg:=true) zr33.1 zr33.2 rfl) trivial trivial ⟨rfl,trivial⟩ ?_
 refine A11 ?_
 refine C_bF rfl (decide_eq_false (by omega)) ?_
 refine A8 ?_
 refine R1 (x3 (xp1 (b - a) (by omega) (by omega)) fi75 rfl) rfl (R2 (x3 (c_DivA a b hn h ha hab hb) fi74 rfl) rfl rfl ?_)
 refine A7 ?_
 exact xa8 Plain.mk' (rs:=[.cell 6 33,.tmp 7]) rfl rfl ⟨⟨_,_,_,_,_,rfl,rfl,ti33,Le.refl⟩,⟨_,rfl,Le.refl⟩,trivial⟩
theorem c_Average (D B:Int) (l:List Tst) (a b:Int) (hn:nOk D B) (hD: ∀s∈l,s.v.f.dig) (hG:askP l a b=true→isG 3 D B l) (hl:l.length≤200000):
  Ct Tryz.prog 26 [tL 8 true tTs l,tI a,tI b] (tT [tFr (avR D l a b).1,tI (avR D l a b).2]):=by
 refine Ct.intro Tryz.func26 rfl Tryz.ntmps26 rfl ?_
 intro w F
 refine A2 ?_
 refine RE (x5 (k:=6) (n:=4) (agg:=true) zr33.1 zr33.2 rfl) trivial trivial ⟨rfl,trivial⟩ ?_
 refine A9 ?_
 refine R3 (x3 (xq8 l a b hD) fi33 rfl) rfl rfl rfl ?_
 refine A3 ?_
 refine xc0 rfl (fun h48=> ?_) (fun h48=> ?_)
 ·
  have hk:askP l a b=false:=by simpa using h48
  refine A2 ?_
  refine R0 (xa7 (r:=tS [⟨2,true,(tS [⟨1,false,(tE (.bool false))⟩,⟨1,false,(tLm [])⟩])⟩,⟨2,true,(tS [⟨1,false,(tE (.bool false))⟩,⟨1,false,(tLm [])⟩])⟩]) (ts:=[]) bu33 zr33.2 Le.refl) ?_
  refine A6 ?_
  exact xa8 Plain.mk' (rs:=[.cell 6 33,.tmp 7]) rfl rfl ⟨⟨_,_,_,_,_,rfl,rfl,ti33,(Le.of (by rw [avR,if_neg (by rw [hk];simp)];rfl))⟩,⟨_,rfl,(Le.int (by rw [avR,if_neg (by rw [hk];simp)]))⟩,trivial⟩
 ·
  have hk:askP l a b=true:=by simpa using h48
  have h:=hG hk
  have hk2:=(xg9.1 hk).2
  refine A9 ?_
  refine RGcaseD (t:=17) rfl (fun h51=> ?_) (fun h51=> ?_)
  ·
   refine A12 ?_
   refine R0 (xa7 (r:=tS [⟨2,true,(tS [⟨1,false,(tE (.bool false))⟩,⟨1,false,(tLm [])⟩])⟩,⟨2,true,(tS [⟨1,false,(tE (.bool false))⟩,⟨1,false,(tLm [])⟩])⟩]) (ts:=[]) bu33 zr33.2 Le.refl) ?_
   refine A6 ?_
   exact xa8 Plain.mk' (rs:=[.cell 6 33,.tmp 7]) rfl rfl ⟨⟨_,_,_,_,_,rfl,rfl,ti33,(Le.of (by rw [avR,if_pos hk,if_neg (by omega)];rfl))⟩,⟨_,rfl,(Le.int (by rw [avR,if_pos hk,if_neg (by omega)]))⟩,trivial⟩
  ·
   refine A1 ?_
   refine RGon (decide_eq_false h51) rfl (x3 (c_CoversG h hl) fi48 rfl) rfl ⟨rfl,trivial⟩ trivial trivial ?_
   refine A2 ?_
   refine RGon (decide_eq_false h51) rfl (x3 (c_isCov (cvT l) a b (cvT_set h.1).1 (by have:=cvT_len (l:=l);omega)) fi47 rfl) rfl ⟨rfl,rfl,rfl,trivial⟩ trivial trivial ?_
   refine A4 ?_
   refine xc0 rfl (fun h51_2=> ?_) (fun h51_2=> ?_)
   ·
    have hc:nD l a b≠b - a:=by
     have h1:cvB (cvT l) a b=false:=by simpa using h51_2
     rw [cvB_nD h.1 (by omega)] at h1;exact of_decide_eq_false h1
    refine A2 ?_
    refine R0 (xa7 (r:=tS [⟨2,true,(tS [⟨1,false,(tE (.bool false))⟩,⟨1,false,(tLm [])⟩])⟩,⟨2,true,(tS [⟨1,false,(tE (.bool false))⟩,⟨1,false,(tLm [])⟩])⟩]) (ts:=[]) bu33 zr33.2 Le.refl) ?_
    refine A6 ?_
    exact xa8 Plain.mk' (rs:=[.cell 6 33,.tmp 7]) rfl rfl ⟨⟨_,_,_,_,_,rfl,rfl,ti33,(Le.of (by rw [avR,if_pos hk,if_neg (fun h=>hc h.2)];rfl))⟩,⟨_,rfl,(Le.int (by rw [avR,if_pos hk,if_neg (fun h=>hc h.2)]))⟩,trivial⟩
   ·
    have hc:nD l a b=b - a:=by
     have h1:cvB (cvT l) a b=true:=by simpa using h51_2
     rw [cvB_nD h.1 (by omega)] at h1;exact of_decide_eq_true h1
    refine A7 ?_
    refine R3 (x3 (c_average D B l a b hn h hl (by omega) (by omega) (by omega)) fi49 rfl) rfl rfl rfl ?_
    refine A7 ?_
    exact xa8 Plain.mk' (rs:=[.cell 6 33,.tmp 7]) rfl rfl ⟨⟨_,_,_,_,_,rfl,rfl,ti33,(Le.of (by rw [avR,if_pos hk,if_pos ⟨by omega,hc⟩]))⟩,⟨_,rfl,(Le.int (by rw [avR,if_pos hk,if_pos ⟨by omega,hc⟩]))⟩,trivial⟩
instance fi56:FnI Tryz.prog 56:=⟨_,Tryz.func56,by kernel_rfl,rfl⟩
theorem zr68:(Tryz.prog.info? 68).bind (·.zero)=some (.agg #[.int .i64 0,.int .i64 0,.int .i64 0])∧ ∀F w,(tS [⟨1,false,(tE (.int .i64 0))⟩,⟨1,false,(tE (.int .i64 0))⟩,⟨1,false,(tE (.int .i64 0))⟩]).p F w (.agg #[.int .i64 0,.int .i64 0,.int .i64 0]):=⟨by kernel_rfl,fun _ _=>⟨_,rfl,rfl,⟨fun _=>rfl,rfl⟩,⟨fun _=>rfl,rfl⟩,⟨fun _=>rfl,rfl⟩,trivial⟩⟩
theorem bu68:BuI Tryz.prog 68 (fun i=>[(0,1),(1,1),(2,1)][i]?) (.agg #[.int .i64 0,.int .i64 0,.int .i64 0]):=BuI.struct Tryz.underlying68 (by kernel_rfl) (by kernel_rfl)
def fstD (m:Int):Int:=if 0≤m∧m < 2154 then startI m.toNat else 0
def fstE (m:Int):Int:=if 0≤m∧m < 2154 then 0 else 2
theorem c_FirstZ (m:Int):Ct Tryz.prog 56 [tKG KL (tI m)] (tT [tI (fstD m),tI (fstE m)]):=c_First m
theorem xs5 {m:Int} (h:0≤m):fstE m=0↔m < 2154:=by
 unfold fstE;split <;> omega
theorem fstD_is {k:Nat} (h:k < 2154):fstD (k:Int)=startI k:=by rw [fstD,if_pos ⟨by omega,by omega⟩,Int.toNat_natCast]
theorem xq4 {k n:Nat} (h:k+n < 2154):fstD ((k:Int)+(n:Int))=startI (k+n):=by rw [←Int.natCast_add];exact fstD_is h
abbrev tWin (m a b:Int):Ty:=tS [⟨1,false,tI m⟩,⟨1,false,tI a⟩,⟨1,false,tI b⟩]
abbrev tWn (n k:Nat):Ty:=tWin k (startI k) (startI (k+n))
def psY (l:List Tst) (p q:Int) (n j:Nat):List Ty:=[tWn n ((winT l p q n).getD j 0)]
theorem ps_le {l:List Tst} {p q:Int} {n k j:Nat} {a b:Int} (h:(winT l p q n).getD j 0=k) (ha:a=startI k) (hb:b=startI (k+n)):LeL [tWin (k:Int) a b] (psY l p q n j):=by
 subst ha hb;rw [psY,h];exact ⟨Le.refl,trivial⟩
theorem okW_of {D B:Int} {l:List Tst} {p q:Int} {n k:Nat} (h:isG 3 D B l) (hk:k+n < 2154) (hn:1≤n) (h1:p≤startI k) (h2:startI (k+n)≤q) (h3:cvB (cvT l) (startI k) (startI (k+n))=true):okW l p q n k=true:=by
 have hlt:=xq6 (show k < k+n by omega) (by omega)
 rw [cvB_nD h.1 (by omega)] at h3
 rw [okW,decide_eq_true hk,decide_eq_true h1,decide_eq_true h2,h3];rfl
theorem okW_not {D B:Int} {l:List Tst} {p q:Int} {n k:Nat} (h:isG 3 D B l) (hn:1≤n) (h1:k+n < 2154→startI k < p∨q < startI (k+n)∨cvB (cvT l) (startI k) (startI (k+n))=false): ¬okW l p q n k=true:=fun hw=>by
 simp only [okW,Bool.and_eq_true,decide_eq_true_eq] at hw
 have hlt:=xq6 (show k < k+n by omega) (by omega)
 rcases h1 hw.1.1.1 with h2 | h2 | h2
 ·omega
 ·omega
 ·rw [cvB_nD h.1 (by omega),decide_eq_true hw.2] at h2;cases h2
theorem xm6 {l:List Tst} {p q:Int} {n k:Nat} (h: ¬okW l p q n k=true):winP l p q n (k+1)=winP l p q n k:=by rw [xr1,if_neg h,List.append_nil]
theorem winP_yes {l:List Tst} {p q:Int} {n k:Nat} (h:okW l p q n k=true):(winP l p q n (k+1)).length=(winP l p q n k).length+1:=by rw [xr1,if_pos h];simp
theorem xu4 (a:List Tst) (p q:Int) (n:Nat):
  CtG Tryz.prog 35 [] [.val (tKG KL (tL 8 true tTs a)),.val (tI p),.val (tI q),.val (tI (n:Int))] (.own (.fn 55 [.ptr 4 0,.ptr 7 0,.ptr 5 0,.ptr 6 0])) [(4,⟨22,1,false,[.val (tKG KL (tL 8 true tTs a))]⟩),(7,⟨3,1,false,[.val (tI (n:Int))]⟩),(5,⟨3,1,false,[.val (tI p)]⟩),(6,⟨3,1,false,[.val (tI q)]⟩)] [4,5,6,7]:=by
 refine CtG.intro [] Tryz.func35 rfl Tryz.ntmps35 rfl rfl trivial ?_
 intro w F η
 refine A11 ?_
 refine RE (xh9 (ps:=[.ptr 4 0,.ptr 7 0,.ptr 5 0,.ptr 6 0]) rfl) ⟨rfl,rfl,rfl,rfl,trivial⟩ trivial trivial ?_
 refine A4 ?_
 exact xf9 LentC.mk' rfl rfl Imp.refl ⟨rfl,rfl,rfl,rfl,trivial⟩ rfl ⟨⟨rfl,(SupX.lit rfl)⟩,⟨rfl,(SupX.lit rfl)⟩,⟨rfl,(SupX.lit rfl)⟩,⟨rfl,(SupX.lit rfl)⟩,trivial⟩ rfl
theorem i_possible (D B:Int) (a:List Tst) (p q:Int) (n:Nat) (h:isG 3 D B a) (hl:a.length≤200000) (hn1:1≤n) (hn2:n≤1200):
  ItC Tryz.prog 55 [(4,⟨22,1,false,[.val (tKG KL (tL 8 true tTs a))]⟩),(7,⟨3,1,false,[.val (tI (n:Int))]⟩),(5,⟨3,1,false,[.val (tI p)]⟩),(6,⟨3,1,false,[.val (tI q)]⟩)] [.ptr 4 0,.ptr 7 0,.ptr 5 0,.ptr 6 0] ((winT a p q n).length) (psY a p q n):=by
 refine ItC.intro (K:=99) [4,7,5,6] Tryz.func55 rfl Tryz.ntmps55 rfl rfl ⟨⟨rfl,(SupX.lit rfl)⟩,⟨rfl,(SupX.lit rfl)⟩,⟨rfl,(SupX.lit rfl)⟩,⟨rfl,(SupX.lit rfl)⟩,trivial⟩ rfl ?_
 intro w F η l V J Jc hB
 refine A2 ?_
 refine RE (d_loadG ti22) ⟨rfl,trivial⟩ ⟨rfl,trivial⟩ trivial (R1 (x3 (c_CoversG h hl) fi48 rfl) rfl ?_)
 refine A9 ?_
 refine cL (fun (fm:(Nat)×(Nat))=>(fun (m:Nat) (j:Nat)=>m≤2154∧j=(winP a p q n m).length) fm.1 fm.2) (fun (fm:(Nat)×(Nat))=>(fun (m:Nat) (j:Nat)=>upd (upd (upd (upd (upd (upd (upd (fun _=>none) 0 (some (.val (tE (.func (.yield l) #[] #[]))))) 1 (some (.own (.ptr 4 0)))) 2 (some (.own (.ptr 7 0)))) 3 (some (.own (.ptr 5 0)))) 4 (some (.own (.ptr 6 0)))) 6 (some (.val (tL 2 true tSn (cvT a))))) 7 (some (.val (tI m)))) fm.1 fm.2) (fun (fm:(Nat)×(Nat))=>(fun (m:Nat) (j:Nat)=>upd (upd (upd (upd (upd (fun _=>none) 4 (some (⟨22,1,false,[.val (tKG KL (tL 8 true tTs a))]⟩))) 7 (some (⟨3,1,false,[.val (tI (n:Int))]⟩))) 5 (some (⟨3,1,false,[.val (tI p)]⟩))) 6 (some (⟨3,1,false,[.val (tI q)]⟩))) 99 (some (⟨2*j,1,false,[]⟩))) fm.1 fm.2) [4,7,5,6,99] (fun (fm:(Nat)×(Nat))=>(fun (m:Nat) (j:Nat)=>2154 - m) fm.1 fm.2) ((0,0)) (by dsimp only;exact ⟨Nat.zero_le _,rfl⟩) (hh:=((SubK.consI rfl ImpK.refl) ((SubK.consI rfl ImpK.refl) ((SubK.consI rfl ImpK.refl) ((SubK.consI rfl ImpK.refl) ((SubK.consI rfl ImpK.refl) SubK.nil)))))) ?_
 intro fm hI
 obtain ⟨m,j⟩:=fm
 replace hI:m≤2154∧j=(winP a p q n m).length:=hI
 show wc _ _ _ _ (upd (upd (upd (upd (upd (upd (upd (fun _=>none) 0 (some (.val (tE (.func (.yield l) #[] #[]))))) 1 (some (.own (.ptr 4 0)))) 2 (some (.own (.ptr 7 0)))) 3 (some (.own (.ptr 5 0)))) 4 (some (.own (.ptr 6 0)))) 6 (some (.val (tL 2 true tSn (cvT a))))) 7 (some (.val (tI m)))) (upd (upd (upd (upd (upd (fun _=>none) 4 (some (⟨22,1,false,[.val (tKG KL (tL 8 true tTs a))]⟩))) 7 (some (⟨3,1,false,[.val (tI (n:Int))]⟩))) 5 (some (⟨3,1,false,[.val (tI p)]⟩))) 6 (some (⟨3,1,false,[.val (tI q)]⟩))) 99 (some (⟨2*j,1,false,[]⟩))) _
 obtain ⟨hm0,hj⟩:=hI
 refine A5 ?_
 refine RE (d_callTK 4 22 1 false car_G full_one (c_FirstZ (m:Int)) fi56 rfl) ⟨rfl,trivial⟩ ⟨rfl,trivial⟩ trivial ?_
 refine A12 ?_
 refine RE (d_callTK 4 22 1 false car_G full_one (c_FirstZ ((m:Int)+(n:Int))) fi56 rfl) ⟨rfl,trivial⟩ ⟨rfl,trivial⟩ trivial ?_
 refine A9 ?_
 have f1:=xs5 (m:=(m:Int)) (by omega)
 have f2:=xs5 (m:=(m:Int)+(n:Int)) (by omega)
 refine A4 ?_
 refine RGcaseD (t:=30) rfl (fun h70=> ?_) (fun h70=> ?_)
 ·
  refine A12 ?_
  exact E_it hB rfl trivial rfl (.inl rfl) rfl (.inl (by rw [hj,win_end hm0 (by omega)]))
 ·
  refine A5 ?_
  refine x9 rfl (fun h70_2=> ?_) (fun h70_2=> ?_)
  ·
   refine A6 ?_
   exact E_it hB rfl trivial rfl (.inl rfl) rfl (.inl (by rw [hj,win_end hm0 (by omega)]))
  ·
   refine A4 ?_
   have hm:m < 2154:=by omega
   have hmn:m+n < 2154:=by omega
   have e1:=fstD_is hm
   have e2:=xq4 hmn
   refine A5 ?_
   refine RGcaseD (t:=37) rfl (fun h73=> ?_) (fun h73=> ?_)
   ·
    refine A18 ?_
    refine A5 ?_
    exact kF ((m+1,j)) ⟨(by dsimp only;exact ⟨by omega,by rw [xm6 (okW_not h hn1 (fun _=> .inl (by omega)))];exact hj⟩),(by dsimp only;omega)⟩ (hh:=((SubK.consI rfl ImpK.refl) ((SubK.consI rfl ImpK.refl) ((SubK.consI rfl ImpK.refl) ((SubK.consI rfl ImpK.refl) ((SubK.consI rfl ImpK.refl) SubK.nil))))))
   ·
    refine A5 ?_
    refine RGcaseD (t:=42) rfl (fun h73_2=> ?_) (fun h73_2=> ?_)
    ·
     refine A18 ?_
     exact kF ((m+1,j)) ⟨(by dsimp only;exact ⟨by omega,by rw [xm6 (okW_not h hn1 (fun _=> .inr (.inl (by omega))))];exact hj⟩),(by dsimp only;omega)⟩ (hh:=((SubK.consI rfl ImpK.refl) ((SubK.consI rfl ImpK.refl) ((SubK.consI rfl ImpK.refl) ((SubK.consI rfl ImpK.refl) ((SubK.consI rfl ImpK.refl) SubK.nil))))))
    ·
     refine A3 ?_
     refine RGon (decide_eq_false h73_2) rfl (x3 (c_isCov (cvT a) (fstD (m:Int)) (fstD ((m:Int)+(n:Int))) (cvT_set h.1).1 (by have:=cvT_len (l:=a);omega)) fi47 rfl) rfl ⟨rfl,rfl,rfl,trivial⟩ trivial trivial ?_
     refine A4 ?_
     refine xc0 rfl (fun h73_3=> ?_) (fun h73_3=> ?_)
     ·
      refine A9 ?_
      exact kF ((m+1,j)) ⟨(by dsimp only;exact ⟨by omega,by rw [xm6 (okW_not h hn1 (fun _=> .inr (.inr (by rw [←e1,←e2];simpa using h73_3))))];exact hj⟩),(by dsimp only;omega)⟩ (hh:=((SubK.consI rfl ImpK.refl) ((SubK.consI rfl ImpK.refl) ((SubK.consI rfl ImpK.refl) ((SubK.consI rfl ImpK.refl) ((SubK.consI rfl ImpK.refl) SubK.nil))))))
     ·
      refine A3 ?_
      refine C_regY ?_
      refine xh6 xa0 ⟨rfl,trivial⟩ trivial trivial rfl (xh6 xa0 ⟨rfl,trivial⟩ trivial trivial rfl (xh6 xa0 ⟨rfl,trivial⟩ trivial trivial rfl (xh6 xa0 ⟨rfl,trivial⟩ trivial trivial rfl (xh6 (xa7 (r:=tS [⟨1,false,tI (m:Int)⟩,⟨1,false,tI (fstD (m:Int))⟩,⟨1,false,tI (fstD ((m:Int)+(n:Int)))⟩]) (ts:=[(0,tI (m:Int)),(1,tI (fstD (m:Int))),(2,tI (fstD ((m:Int)+(n:Int))))]) bu68 zr68.2 (Bc 0 rfl rfl rfl (Bc 1 rfl rfl rfl (Bc 2 rfl rfl rfl Le.refl)))) ⟨rfl,rfl,rfl,trivial⟩ trivial trivial rfl ?_))))
      have hok:=okW_of (p:=p) (q:=q) h hmn hn1 (by omega) (by omega) (by rw [←e1,←e2];simpa using h73_3)
      have hwa:=win_at (by omega) hok
      rw [←hj] at hwa
      have hwy:=winP_yes hok
      refine wl_yield (ts:=[tWin (m:Int) (fstD (m:Int)) (fstD ((m:Int)+(n:Int)))]) hB (xw0 rfl) rfl rfl ⟨rfl,trivial⟩ rfl rfl hwa.1 (ps_le hwa.2 e1 e2) ?_ ?_
      ·
       refine xh6 xj4 ⟨rfl,trivial⟩ trivial trivial rfl (wl_nil ?_)
       refine A10 ?_
       exact kF ((m+1,j+1)) ⟨(by dsimp only;exact ⟨by omega,by rw [hwy,hj]⟩),(by dsimp only;omega)⟩ (hh:=((SubK.consI rfl ImpK.refl) ((SubK.consI rfl ImpK.refl) ((SubK.consI rfl ImpK.refl) ((SubK.consI rfl ImpK.refl) ((SubK.consI rfl ImpK.refl) SubK.nil))))))
      ·
       refine xh6 xj4 ⟨rfl,trivial⟩ trivial trivial rfl (wl_nil ?_)
       refine A7 ?_
       exact E_it hB rfl trivial rfl (.inl rfl) rfl (.inr ⟨j,hwa.1,rfl⟩)
instance ti27:TyI Tryz.prog 27 1 false:=⟨by kernel_rfl,by kernel_rfl⟩
instance ti68:TyI Tryz.prog 68 3 true:=⟨by kernel_rfl,by kernel_rfl⟩
instance fo68_0:FoI Tryz.prog 68 0 0:=⟨by kernel_rfl⟩
instance fi34:FnI Tryz.prog 34:=⟨_,Tryz.func34,by kernel_rfl,rfl⟩
instance fi35:FnI Tryz.prog 35:=⟨_,Tryz.func35,by kernel_rfl,rfl⟩
instance fi55:FnI Tryz.prog 55:=⟨_,Tryz.func55,by kernel_rfl,rfl⟩
theorem el3:ElI Tryz.prog 3 1 8 false (.int .i64 0):=⟨ti3,by kernel_rfl,by kernel_rfl⟩
theorem zf3:Flat 1 false (.int .i64 0):=xf1 rfl
theorem znI:(Tryz.prog.info? 27).bind (·.zero)=some (.slice none 0 0)∧ ∀F w,(tE (.slice none 0 0)).p F w (.slice none 0 0):=⟨by kernel_rfl,fun _ _=>rfl⟩
def iL (ks:List Nat):List Int:=ks.map fun (k:Nat)=>(k:Int)
theorem xo8 {ks:List Nat}:(iL ks).length=ks.length:=List.length_map ..
theorem win_len {l:List Tst} {p q:Int} {n:Nat}:(winT l p q n).length≤2154:=by
 have:=List.length_filter_le (okW l p q n) (List.range 2154)
 rw [List.length_range] at this;exact this
theorem xu2 {ks:List Nat} {k:Nat} (h:k < ks.length):ks.take (k+1)=ks.take k++[ks.getD k 0]:=by
 rw [List.take_succ_eq_append_getElem h,List.getD_eq_getElem?_getD,List.getElem?_eq_getElem h];rfl
theorem getD_memN {ks:List Nat} {k:Nat} (h:k < ks.length):ks.getD k 0∈ks:=by
 rw [List.getD_eq_getElem?_getD,List.getElem?_eq_getElem h];exact List.getElem_mem h
def lenOk (l:List Tst) (p q n:Int):Prop:=askP l p q=true∧1≤n∧n≤1200
instance (l:List Tst) (p q n:Int):Decidable (lenOk l p q n):=inferInstanceAs (Decidable (_∧_))
def winR (l:List Tst) (p q n:Int):List Int×Int:=if lenOk l p q n then (iL (winT l p q n.toNat),0) else ([],2)
theorem c_Windows (D B:Int) (l:List Tst) (p q n:Int) (hD: ∀s∈l,s.v.f.dig) (hG:askP l p q=true→isG 3 D B l) (hl:l.length≤200000):
  Ct Tryz.prog 16 [tKG KL (tL 8 true tTs l),tI p,tI q,tI n] (tT [tL 1 false tI (winR l p q n).1,tI (winR l p q n).2]):=by
 refine Ct.intro Tryz.func16 rfl Tryz.ntmps16 rfl ?_
 intro w F
 refine A9 ?_
 refine R1 (d_moveG) rfl ?_
 refine A2 ?_
 refine R3 (x3 (xq8 l p q hD) fi33 rfl) rfl rfl rfl ?_
 refine A2 ?_
 refine RGcase (t:=17) rfl (fun h85=> ?_) (fun h85=> ?_)
 ·
  have hk:askP l p q=false:=by simpa using h85
  refine A15 ?_
  exact xc5 Plain.mk' rfl rfl rfl (leNil (by rw [winR,if_neg (fun h=>by have:=h.1;rw [hk] at this;cases this)])) (Le.int (by rw [winR,if_neg (fun h=>by have:=h.1;rw [hk] at this;cases this)]))
 ·
  have hk:askP l p q=true:=by simpa using h85
  have h:=hG hk
  have hk2:=(xg9.1 hk).2
  refine A1 ?_
  refine RGon h85 rfl (x3 (xu9 n) fi34 rfl) rfl ⟨rfl,trivial⟩ trivial trivial ?_
  refine A4 ?_
  refine xc0 rfl (fun h85_2=> ?_) (fun h85_2=> ?_)
  ·
   have hn0: ¬(1≤n∧n≤1200):=by
    have h1:=h85_2
    simp at h1;omega
   refine A8 ?_
   exact xc5 Plain.mk' rfl rfl rfl (leNil (by rw [winR,if_neg (fun h=>hn0 h.2)])) (Le.int (by rw [winR,if_neg (fun h=>hn0 h.2)]))
  ·
   have hn0:1≤n∧n≤1200:=by simpa using h85_2
   have hok:lenOk l p q n:=⟨hk,hn0⟩
   obtain ⟨k0,rfl⟩: ∃k0:Nat,n=k0:=⟨n.toNat,by omega⟩
   have hn1:1≤k0:=by omega
   have hn2:k0≤1200:=by omega
   refine A4 ?_
   refine RE (x5 (k:=10) (n:=1) (agg:=false) znI.1 znI.2 rfl) trivial trivial ⟨rfl,trivial⟩ ?_
   refine A4 ?_
   refine C_nilC (q:=10) 60 3 1 false 0 rfl rfl rfl rfl (fun _=>rfl) rfl rfl ?_
   refine A5 ?_
   refine RE (xf0 (fun j=>cond (Nat.beq j 6) 2026 (cond (Nat.beq j 5) 1026 (cond (Nat.beq j 4) 26 (3026)))) (xu4 l p q k0) fi35 rfl (krN (ρ:=fun j=>cond (Nat.beq j 6) 2026 (cond (Nat.beq j 5) 1026 (cond (Nat.beq j 4) 26 (3026))))) (krC (ρ:=fun j=>cond (Nat.beq j 6) 2026 (cond (Nat.beq j 5) 1026 (cond (Nat.beq j 4) 26 (3026)))) (k:=4) rfl (krC (ρ:=fun j=>cond (Nat.beq j 6) 2026 (cond (Nat.beq j 5) 1026 (cond (Nat.beq j 4) 26 (3026)))) (k:=7) rfl (krC (ρ:=fun j=>cond (Nat.beq j 6) 2026 (cond (Nat.beq j 5) 1026 (cond (Nat.beq j 4) 26 (3026)))) (k:=5) rfl (krC (ρ:=fun j=>cond (Nat.beq j 6) 2026 (cond (Nat.beq j 5) 1026 (cond (Nat.beq j 4) 26 (3026)))) (k:=6) rfl (krN (ρ:=fun j=>cond (Nat.beq j 6) 2026 (cond (Nat.beq j 5) 1026 (cond (Nat.beq j 4) 26 (3026))))))))) ⟨⟨rfl,(SupX.lit rfl)⟩,⟨rfl,(SupX.lit rfl)⟩,⟨rfl,(SupX.lit rfl)⟩,⟨rfl,(SupX.lit rfl)⟩,trivial⟩ rfl) ⟨rfl,rfl,rfl,rfl,trivial⟩ trivial ⟨rfl,rfl,rfl,rfl,trivial⟩ ?_
   refine A3 ?_
   refine C_range (caps:=[.ptr 4 0,.ptr 7 0,.ptr 5 0,.ptr 6 0]) (κ:=Empty) (fun j=>cond (Nat.beq j 7) 3026 (cond (Nat.beq j 6) 2026 (cond (Nat.beq j 5) 1026 (cond (Nat.beq j 4) 26 (j))))) rfl (fun _ h=>h) trivial (i_possible D B l p q k0 h hl hn1 hn2) fi55 rfl ⟨rfl,rfl,rfl,rfl,trivial⟩ rfl rfl (fun _ _=>rfl) (upd (fun _=>none) 10 (some (.own (.ptr 10 0)))) [10,60] [10] (Sub.cons rfl Sub.nil) (SupG.own rfl SupG.nil) rfl (lkOk rfl) (fun (k:Nat) (xs:List Int)=>xs=iL ((winT l p q k0).take k)) (fun (k:Nat) (xs:List Int)=>upd (upd (fun _=>none) 10 (some (⟨27,1,false,[.own (.sl 60 1 0 xs.length)]⟩))) 60 (some (⟨3,1,false,rV tI xs⟩))) (fun k x=>(SupH.cons rfl (supJ xd3) (SupH.cons rfl (supJL rfl) SupH.nil))) (fun k x y hy=>by simp only [List.mem_cons,List.not_mem_nil,or_false] at hy;rcases hy with rfl | rfl | rfl | rfl <;> rfl) (fun _ _=>False) (fun i=>i.elim) (fun _ _ h=>h.elim) ([]) rfl ((SubK.consI rfl ImpK.refl) ((SubK.consI rfl ImpK.refl) SubK.nil)) ?_ ?_ ?_
   ·
    intro D lp o1 o2 O W lη lb V0 k xs hk hI
    have hwl:=win_len (l:=l) (p:=p) (q:=q) (n:=k0)
    have hxl:xs.length≤2154:=by rw [hI,xo8,List.length_take];omega
    apply rnd_mk
    ·
     refine A1 ?_
     refine RE (x5 (k:=11) (n:=3) (agg:=true) zr68.1 zr68.2 rfl) trivial trivial ⟨rfl,trivial⟩ ?_
     refine A2 ?_
     exact K_thenF fun _ _ h=>h
    ·
     refine A2 ?_
     refine RE (xd8 (ts:=[.own (.sl 60 1 0 xs.length)]) (0) ti27 rfl rfl) ⟨rfl,trivial⟩ ⟨rfl,trivial⟩ trivial ?_
     refine A2 ?_
     refine R1 (xc6 (n:=1) (f:=fun n:Int=>tI n) [(((winT l p q k0).getD k 0):Int)] Tryz.underlying27 el3 zf3 rfl (fun _=>inferInstance) rfl rfl rfl) rfl (RE (xc2 (k:=60) (k':=32) (f:=fun n:Int=>tI n) (ys:=[(((winT l p q k0).getD k 0):Int)]) (ts':=rV tI (xs++[(((winT l p q k0).getD k 0):Int)])) Tryz.underlying27 el3 zf3 rfl rfl (fun _=>inferInstance) xg3 (by simp;omega) (by simp;omega) (by simp [rV]) (n':=xs.length+1) rfl) ⟨rfl,rfl,trivial⟩ ⟨rfl,trivial⟩ ⟨rfl,trivial⟩ (RE (xc3 (es:=1) (agg:=false) (e:= .own (.sl 32 1 0 (xs.length+1))) (0) ti27 rfl rfl rfl) ⟨rfl,rfl,trivial⟩ ⟨rfl,trivial⟩ trivial ?_))
     refine A2 ?_
     exact K_ren (g':=fun _=>none) [10,60] (fun j=>cond (Nat.beq j 60) 32 (j)) SubR.nil ((SubKR.consI rfl (ImpK.of xf4.symm)) ((SubKR.consI rfl (ImpK.of (by rw [List.length_append];rfl))) SubKR.nil)) SupG.nil (SupH.cons rfl (supJ xd3) (SupH.cons rfl (supJL rfl) SupH.nil)) (lkOk rfl) rfl rfl (fun _ h=>by cases h) (K_rnd ((xs++[(((winT l p q k0).getD k 0):Int)])) (by rw [xu2 hk,hI];simp [iL]) SubK.refl (SupH.cons rfl (supJ xd3) (SupH.cons rfl (supJL rfl) SupH.nil)) (lkOk rfl))
   ·
    intro D hD xs hI
    rw [List.take_length] at hI
    refine A4 ?_
    refine RE (Does.giveL (k:=60) (es:=1) (off:=0) (len:=xs.length) (xs:=xs) (f:=tI) (ts:=rV tI xs) (xd8 (ts:=[.own (.sl 60 1 0 xs.length)]) (0) ti27 rfl rfl) (fun _ h=>h) (xn8 rfl) rfl) ⟨rfl,trivial⟩ ⟨rfl,rfl,trivial⟩ trivial ?_
    refine A5 ?_
    exact xc5 (Plain.loop Plain.mk' hD) rfl rfl rfl (Le.of (by rw [winR,if_pos hok,Int.toNat_natCast,hI])) (Le.int (by rw [winR,if_pos hok]))
   ·
    intro D hD e i;exact i.elim
instance ti45:TyI Tryz.prog 45 1 false:=⟨by kernel_rfl,by kernel_rfl⟩
instance ti87:TyI Tryz.prog 87 1 false:=⟨by kernel_rfl,by kernel_rfl⟩
instance fo68_1:FoI Tryz.prog 68 1 1:=⟨by kernel_rfl⟩
instance fo68_2:FoI Tryz.prog 68 2 2:=⟨by kernel_rfl⟩
instance fi36:FnI Tryz.prog 36:=⟨_,Tryz.func36,by kernel_rfl,rfl⟩
instance fi57:FnI Tryz.prog 57:=⟨_,Tryz.func57,by kernel_rfl,rfl⟩
instance fi58:FnI Tryz.prog 58:=⟨_,Tryz.func58,by kernel_rfl,rfl⟩
instance fi84:FnI Tryz.prog 84:=⟨_,Tryz.func84,by kernel_rfl,rfl⟩
theorem zr4:(Tryz.prog.info? 4).bind (·.zero)=some (.bool false)∧ ∀F w,(tE (.bool false)).p F w (.bool false):=⟨by kernel_rfl,fun _ _=>rfl⟩
theorem zr45:(Tryz.prog.info? 45).bind (·.zero)=some (.int .i64 0)∧ ∀F w,(tE (.int .i64 0)).p F w (.int .i64 0):=⟨by kernel_rfl,fun _ _=>rfl⟩
def wM (o:Option Nat):Int:=(o.map fun (k:Nat)=>(k:Int)).getD 0
def wA (o:Option Nat):Int:=(o.map startI).getD 0
def wB (n:Nat) (o:Option Nat):Int:=(o.map fun k=>startI (k+n)).getD 0
abbrev tWo (n:Nat) (o:Option Nat):Ty:=tWin (wM o) (wA o) (wB n o)
def fO (D:Int) (l:List Tst) (n:Nat) (o:Option Nat):Fr:=match o with
 | none=>fr0
 | some k=>fr (avW D l n k)
def eO (o:Option Nat):Int:=match o with
 | none=>6
 | some _=>0
theorem win_rng {l:List Tst} {p q:Int} {n k:Nat} (hp:0≤p) (hq:q≤65536) (hn:1≤n) (h:k∈winT l p q n):0≤startI k∧startI k < startI (k+n)∧startI (k+n)≤65536:=by
 have h1:=win_is h
 have:=xq6 (show k < k+n by omega) (by omega)
 omega
theorem short_win {D B:Int} {l:List Tst} {p q:Int} {n k:Nat} (hn:nOk D B) (hl:isG 3 D B l) (hp:0≤p) (hq:q≤65536) (h1:1≤n) (h:k∈winT l p q n):short (avW D l n k):=by
 have:=win_rng hp hq h1 h
 exact short_av hn hl this.1 this.2.1 this.2.2
theorem cmp_gt {a b:Rat}:0 < cmpQ a b↔b < a:=by
 unfold cmpQ
 by_cases h1:a < b
 ·rw [if_pos h1]
  exact ⟨fun h=>by omega,fun h=>absurd h (Rat.not_lt.2 (Rat.le_of_lt h1))⟩
 ·rw [if_neg h1]
  by_cases h2:a=b
  ·rw [if_pos h2];subst h2
   exact ⟨fun h=>by omega,fun h=>absurd h (Rat.not_lt.2 Rat.le_refl)⟩
  ·rw [if_neg h2]
   refine ⟨fun _=>Rat.not_le.1 fun h=> ?_,fun _=>by decide⟩
   rcases Rat.le_iff_lt_or_eq.1 h with h3 | h3
   ·exact h1 h3
   ·exact h2 h3
theorem c_best1 (D B:Int) (l:List Tst) (hn:nOk D B) (h:isG 3 D B l) (hl:l.length≤200000) (m:Int) (x y:Int) (hx:0≤x) (hxy:x < y) (hy:y≤65536):
  CtG Tryz.prog 58 [(20,⟨22,1,false,[.val (tKG KL (tL 8 true tTs l))]⟩)] [.val (tWin m x y),.own (.ptr 20 0)] (.val (tT [tFr (fr (avQ D l x y)),tI 0])) [(20,⟨22,1,false,[.val (tKG KL (tL 8 true tTs l))]⟩)] []:=by
 refine CtG.intro [20] Tryz.func58 rfl Tryz.ntmps58 rfl rfl ⟨⟨rfl,(SupX.lit rfl)⟩,trivial⟩ ?_
 intro w F η
 refine A3 ?_
 refine RE (x5 (k:=3) (n:=4) (agg:=true) zr33.1 zr33.2 rfl) trivial trivial ⟨rfl,trivial⟩ ?_
 refine A5 ?_
 refine RE (d_loadG ti22) ⟨rfl,trivial⟩ ⟨rfl,trivial⟩ trivial ?_
 refine A4 ?_
 refine R3 (x3 (c_average D B l x y hn h hl hx hxy hy) fi49 rfl) rfl rfl rfl ?_
 refine A7 ?_
 exact xs2 LentC.mk' (rs:=[.cell 3 33,.tmp 4]) rfl rfl ⟨⟨_,_,_,_,_,rfl,rfl,ti33,Le.refl⟩,⟨_,rfl,Le.refl⟩,trivial⟩ ⟨rfl,trivial⟩ ⟨⟨rfl,(SupX.lit rfl)⟩,trivial⟩ rfl
theorem c_greatest (E B:Int) (l:List Tst) (p q:Int) (n:Nat) (hn:nOk E B) (h:isG 3 E B l) (hl:l.length≤200000) (hp:0≤p) (hq:q≤65536) (hn1:1≤n) (hn2:n≤1200):
  CtG Tryz.prog 57 [(104,⟨22,1,false,[.val (tKG KL (tL 8 true tTs l))]⟩),(107,⟨3,1,false,[.val (tI (n:Int))]⟩),(105,⟨3,1,false,[.val (tI p)]⟩),(106,⟨3,1,false,[.val (tI q)]⟩),(120,⟨22,1,false,[.val (tKG KL (tL 8 true tTs l))]⟩)] [.own (.fn 55 [.ptr 104 0,.ptr 107 0,.ptr 105 0,.ptr 106 0]),.own (.fn 58 [.ptr 120 0])] (.val (tT [tWo n (bstT E l p q n),tFr (fO E l n (bstT E l p q n)),tI (eO (bstT E l p q n))])) [] []:=by
 refine CtG.intro [104,107,105,106,120] Tryz.func57 rfl Tryz.ntmps57 rfl rfl ⟨⟨rfl,(SupX.lit rfl)⟩,⟨rfl,(SupX.lit rfl)⟩,⟨rfl,(SupX.lit rfl)⟩,⟨rfl,(SupX.lit rfl)⟩,⟨rfl,(SupX.lit rfl)⟩,trivial⟩ ?_
 intro w F η
 refine A3 ?_
 refine RE (x5 (k:=4) (n:=3) (agg:=true) zr68.1 zr68.2 rfl) trivial trivial ⟨rfl,trivial⟩ (RE (x5 (k:=5) (n:=4) (agg:=true) zr33.1 zr33.2 rfl) trivial trivial ⟨rfl,trivial⟩ (RE (x5 (k:=6) (n:=1) (agg:=false) zr45.1 zr45.2 rfl) trivial trivial ⟨rfl,trivial⟩ ?_))
 refine A4 ?_
 refine RE (x5 (k:=7) (n:=3) (agg:=true) zr68.1 zr68.2 rfl) trivial trivial ⟨rfl,trivial⟩ (RE (x5 (k:=8) (n:=3) (agg:=true) zr68.1 zr68.2 rfl) trivial trivial ⟨rfl,trivial⟩ ?_)
 refine A4 ?_
 refine RE (x5 (k:=9) (n:=4) (agg:=true) zr33.1 zr33.2 rfl) trivial trivial ⟨rfl,trivial⟩ ?_
 refine A4 ?_
 refine RE (x5 (k:=10) (n:=1) (agg:=false) zr4.1 zr4.2 rfl) trivial trivial ⟨rfl,trivial⟩ ?_
 refine A10 ?_
 refine C_range (caps:=[.ptr 4 0,.ptr 7 0,.ptr 5 0,.ptr 6 0]) (κ:=Empty) (fun j=>cond (Nat.beq j 7) 107 (cond (Nat.beq j 6) 106 (cond (Nat.beq j 5) 105 (cond (Nat.beq j 4) 104 (j))))) rfl (fun _ h=>h) trivial (i_possible E B l p q n h hl hn1 hn2) fi55 rfl ⟨rfl,rfl,rfl,rfl,trivial⟩ rfl rfl (fun _ _=>rfl) (upd (upd (upd (upd (upd (upd (upd (upd (fun _=>none) 3 (some (.own (.ptr 3 0)))) 4 (some (.own (.ptr 4 0)))) 5 (some (.own (.ptr 5 0)))) 6 (some (.own (.ptr 6 0)))) 7 (some (.own (.ptr 7 0)))) 8 (some (.own (.ptr 8 0)))) 9 (some (.own (.ptr 9 0)))) 10 (some (.own (.ptr 10 0)))) [3,4,5,6,7,8,9,10,104,107,105,106,120] [3,4,5,6,7,8,9,10] (Sub.cons rfl (Sub.cons rfl (Sub.cons rfl (Sub.cons rfl (Sub.cons rfl (Sub.cons rfl (Sub.cons rfl (Sub.cons rfl Sub.nil)))))))) (SupG.own rfl (SupG.own rfl (SupG.own rfl (SupG.own rfl (SupG.own rfl (SupG.own rfl (SupG.own rfl (SupG.own rfl SupG.nil)))))))) rfl (lkOk rfl) (fun (k:Nat) (o:Option Nat)=>o=bstL E l n ((winT l p q n).take k)) (fun (k:Nat) (o:Option Nat)=>upd (upd (upd (upd (upd (upd (upd (upd (upd (fun _=>none) 3 (some (⟨87,1,false,[.own (.fn 58 [.ptr 120 0])]⟩))) 4 (some (⟨68,3,true,[.val (tWin 0 0 0)]⟩))) 5 (some (⟨33,4,true,[.val (tFr fr0)]⟩))) 6 (some (⟨45,1,false,[.val (tI 0)]⟩))) 7 (some (⟨68,3,true,[.val (tWin 0 0 0)]⟩))) 8 (some (⟨68,3,true,[.val (tWo n o)]⟩))) 9 (some (⟨33,4,true,[.val (tFr (fO E l n o))]⟩))) 10 (some (⟨4,1,false,[.val (tB o.isSome)]⟩))) 120 (some (⟨22,1,false,[.val (tKG KL (tL 8 true tTs l))]⟩))) (fun k x=>(SupH.cons rfl (supJL rfl) (SupH.cons rfl (supJL rfl) (SupH.cons rfl (supJL rfl) (SupH.cons rfl (supJL rfl) (SupH.cons rfl (supJL rfl) (SupH.cons rfl (supJL rfl) (SupH.cons rfl (supJL rfl) (SupH.cons rfl (supJL rfl) (SupH.cons rfl (supJL rfl) SupH.nil)))))))))) (fun k x y hy=>by simp only [List.mem_cons,List.not_mem_nil,or_false] at hy;rcases hy with rfl | rfl | rfl | rfl <;> rfl) (fun _ _=>False) (fun i=>i.elim) (fun _ _ h=>h.elim) (none) rfl ((SubK.consI rfl ImpK.refl) ((SubK.consI rfl ImpK.refl) ((SubK.consI rfl ImpK.refl) ((SubK.consI rfl ImpK.refl) ((SubK.consI rfl ImpK.refl) ((SubK.consI rfl ImpK.refl) ((SubK.consI rfl ImpK.refl) ((SubK.consI rfl ImpK.refl) ((SubK.consI rfl ImpK.refl) SubK.nil))))))))) ?_ ?_ ?_
 ·
  intro D lp o1 o2 O W lη lb V0 k o hk hI
  have hwm:=getD_memN hk
  have hr:=win_rng hp hq hn1 hwm
  have hsw:=short_win hn h hp hq hn1 hwm
  have hnx:=bstL_snoc (D:=E) (l:=l) (n:=n) (k:=((winT l p q n).getD k 0)) (ks:=(winT l p q n).take k)
  rw [←xu2 hk,←hI] at hnx
  apply rnd_mk
  ·
   refine A1 ?_
   refine RE (x5 (k:=11) (n:=3) (agg:=true) zr68.1 zr68.2 rfl) trivial trivial ⟨rfl,trivial⟩ ?_
   refine A2 ?_
   exact K_thenF fun _ _ h=>h
  ·
   refine A5 ?_
   refine RE (xm0 (ps:=[.val (tWn n ((winT l p q n).getD k 0))]) (caps:=[.ptr 20 0]) (fun _=>120) (c_best1 E B l hn h hl ((winT l p q n).getD k 0) (startI ((winT l p q n).getD k 0)) (startI (((winT l p q n).getD k 0)+n)) hr.1 hr.2.1 hr.2.2) fi58 rfl (krC (ρ:=fun _=>120) (k:=20) rfl (krN (ρ:=fun _=>120))) (krC (ρ:=fun _=>120) (k:=20) rfl (krN (ρ:=fun _=>120))) ⟨⟨rfl,(SupX.lit rfl)⟩,trivial⟩ rfl) ⟨rfl,rfl,trivial⟩ ⟨rfl,trivial⟩ trivial ?_
   refine A3 ?_
   refine RE (x5 (k:=12) (n:=4) (agg:=true) zr33.1 zr33.2 rfl) trivial trivial ⟨rfl,trivial⟩ ?_
   refine A11 ?_
   refine C_bF rfl (decide_eq_false (by omega)) ?_
   refine A7 ?_
   refine RGcase (t:=29) rfl (fun h106=> ?_) (fun h106=> ?_)
   ·
    have ho:o=none:=by simpa using h106
    subst ho
    refine A16 ?_
    exact K_rnd ((some ((winT l p q n).getD k 0))) (by rw [hnx];rfl) ((SubK.consI rfl ImpK.refl) ((SubK.consI rfl ImpK.refl) ((SubK.consI rfl ImpK.refl) ((SubK.consI rfl ImpK.refl) ((SubK.consI rfl ImpK.refl) ((SubK.consI rfl ImpK.refl) ((SubK.consI rfl ImpK.refl) ((SubK.consI rfl ImpK.refl) ((SubK.consI rfl ImpK.refl) SubK.nil))))))))) (SupH.cons rfl (supJL rfl) (SupH.cons rfl (supJL rfl) (SupH.cons rfl (supJL rfl) (SupH.cons rfl (supJL rfl) (SupH.cons rfl (supJL rfl) (SupH.cons rfl (supJL rfl) (SupH.cons rfl (supJL rfl) (SupH.cons rfl (supJL rfl) (SupH.cons rfl (supJL rfl) SupH.nil))))))))) (lkOk rfl)
   ·
    have ho2:o.isSome=true:=by simpa using h106
    obtain ⟨m,ho⟩:=Option.isSome_iff_exists.1 ho2
    have hmm:m∈winT l p q n:=by
     have hs:=bstL_spec (D:=E) (l:=l) (n:=n) ((winT l p q n).take k) (win_asc.sublist (List.take_sublist ..))
     rw [←hI,ho] at hs
     exact List.mem_of_mem_take hs.1
    subst ho
    refine A2 ?_
    refine RGon h106 rfl (x3 (c_FCmp (avW E l n ((winT l p q n).getD k 0)) (avW E l n m) hsw (short_win hn h hp hq hn1 hmm)) fi84 rfl) rfl ⟨rfl,rfl,trivial⟩ trivial trivial ?_
    refine A4 ?_
    refine x9 rfl (fun h106_2=> ?_) (fun h106_2=> ?_)
    ·
     refine A8 ?_
     exact K_rnd ((some ((winT l p q n).getD k 0))) (by rw [hnx];exact (if_pos (cmp_gt.1 h106_2)).symm) ((SubK.consI rfl ImpK.refl) ((SubK.consI rfl ImpK.refl) ((SubK.consI rfl ImpK.refl) ((SubK.consI rfl ImpK.refl) ((SubK.consI rfl ImpK.refl) ((SubK.consI rfl ImpK.refl) ((SubK.consI rfl ImpK.refl) ((SubK.consI rfl ImpK.refl) ((SubK.consI rfl ImpK.refl) SubK.nil))))))))) (SupH.cons rfl (supJL rfl) (SupH.cons rfl (supJL rfl) (SupH.cons rfl (supJL rfl) (SupH.cons rfl (supJL rfl) (SupH.cons rfl (supJL rfl) (SupH.cons rfl (supJL rfl) (SupH.cons rfl (supJL rfl) (SupH.cons rfl (supJL rfl) (SupH.cons rfl (supJL rfl) SupH.nil))))))))) (lkOk rfl)
    ·
     refine A2 ?_
     exact K_rnd ((some m)) (by rw [hnx];exact (if_neg (fun hh=>h106_2 (cmp_gt.2 hh))).symm) ((SubK.consI rfl ImpK.refl) ((SubK.consI rfl ImpK.refl) ((SubK.consI rfl ImpK.refl) ((SubK.consI rfl ImpK.refl) ((SubK.consI rfl ImpK.refl) ((SubK.consI rfl ImpK.refl) ((SubK.consI rfl ImpK.refl) ((SubK.consI rfl ImpK.refl) ((SubK.consI rfl ImpK.refl) SubK.nil))))))))) (SupH.cons rfl (supJL rfl) (SupH.cons rfl (supJL rfl) (SupH.cons rfl (supJL rfl) (SupH.cons rfl (supJL rfl) (SupH.cons rfl (supJL rfl) (SupH.cons rfl (supJL rfl) (SupH.cons rfl (supJL rfl) (SupH.cons rfl (supJL rfl) (SupH.cons rfl (supJL rfl) SupH.nil))))))))) (lkOk rfl)
 ·
  intro D hD o hI
  rw [List.take_length] at hI
  have hI:o=bstT E l p q n:=hI
  refine A9 ?_
  refine xc0 rfl (fun h110=> ?_) (fun h110=> ?_)
  ·
   have ho:o=none:=by simpa using h110
   subst ho
   refine A3 ?_
   refine R0 (xa7 (r:=tS [⟨2,true,(tS [⟨1,false,(tE (.bool false))⟩,⟨1,false,(tLm [])⟩])⟩,⟨2,true,(tS [⟨1,false,(tE (.bool false))⟩,⟨1,false,(tLm [])⟩])⟩]) (ts:=[]) bu33 zr33.2 Le.refl) ?_
   refine A7 ?_
   exact xs2 (LentC.loop LentC.mk' hD) (rs:=[.cell 4 68,.cell 5 33,.cell 6 45]) rfl rfl ⟨⟨_,_,_,_,_,rfl,rfl,ti68,(Le.of (by rw [←hI];rfl))⟩,⟨_,_,_,_,_,rfl,rfl,ti33,(Le.of (by rw [←hI];rfl))⟩,⟨_,_,_,_,_,rfl,rfl,ti45,(Le.int (by rw [←hI];rfl))⟩,trivial⟩ trivial trivial rfl
  ·
   have ho2:o.isSome=true:=by simpa using h110
   obtain ⟨m,ho⟩:=Option.isSome_iff_exists.1 ho2
   subst ho
   refine A12 ?_
   exact xs2 (LentC.loop LentC.mk' hD) (rs:=[.cell 4 68,.cell 5 33,.cell 6 45]) rfl rfl ⟨⟨_,_,_,_,_,rfl,rfl,ti68,(Le.of (by rw [←hI]))⟩,⟨_,_,_,_,_,rfl,rfl,ti33,(Le.of (by rw [←hI]))⟩,⟨_,_,_,_,_,rfl,rfl,ti45,(Le.int (by rw [←hI];rfl))⟩,trivial⟩ trivial trivial rfl
 ·
  intro D hD e i;exact i.elim
def bO (D:Int) (l:List Tst) (p q n:Int):Option Nat:=if lenOk l p q n then bstT D l p q n.toNat else none
def bE (D:Int) (l:List Tst) (p q n:Int):Int:=if lenOk l p q n then eO (bstT D l p q n.toNat) else 2
theorem c_best (D B:Int) (l:List Tst) (p q n:Int) (hn:nOk D B) (hD: ∀s∈l,s.v.f.dig) (hG:askP l p q=true→isG 3 D B l) (hl:l.length≤200000):
  Ct Tryz.prog 36 [tKG KL (tL 8 true tTs l),tI p,tI q,tI n] (tT [tWo n.toNat (bO D l p q n),tFr (fO D l n.toNat (bO D l p q n)),tI (bE D l p q n)]):=by
 refine Ct.intro Tryz.func36 rfl Tryz.ntmps36 rfl ?_
 intro w F
 refine A3 ?_
 refine RE (x5 (k:=8) (n:=3) (agg:=true) zr68.1 zr68.2 rfl) trivial trivial ⟨rfl,trivial⟩ (RE (x5 (k:=9) (n:=4) (agg:=true) zr33.1 zr33.2 rfl) trivial trivial ⟨rfl,trivial⟩ ?_)
 refine A6 ?_
 refine RE (d_loadG ti22) ⟨rfl,trivial⟩ ⟨rfl,trivial⟩ trivial ?_
 refine A2 ?_
 refine R3 (x3 (xq8 l p q hD) fi33 rfl) rfl rfl rfl ?_
 refine A2 ?_
 refine RGcase (t:=16) rfl (fun h118=> ?_) (fun h118=> ?_)
 ·
  have hk:askP l p q=false:=by simpa using h118
  refine A9 ?_
  refine R0 (xa7 (r:=tS [⟨1,false,(tE (.int .i64 0))⟩,⟨1,false,(tE (.int .i64 0))⟩,⟨1,false,(tE (.int .i64 0))⟩]) (ts:=[]) bu68 zr68.2 Le.refl) (R0 (xa7 (r:=tS [⟨2,true,(tS [⟨1,false,(tE (.bool false))⟩,⟨1,false,(tLm [])⟩])⟩,⟨2,true,(tS [⟨1,false,(tE (.bool false))⟩,⟨1,false,(tLm [])⟩])⟩]) (ts:=[]) bu33 zr33.2 Le.refl) ?_)
  refine A7 ?_
  exact xa8 Plain.mk' (rs:=[.cell 8 68,.cell 9 33,.tmp 10]) rfl rfl ⟨⟨_,_,_,_,_,rfl,rfl,ti68,(Le.of (by rw [bO,if_neg (fun h=>by have:=h.1;rw [hk] at this;cases this)];rfl))⟩,⟨_,_,_,_,_,rfl,rfl,ti33,(Le.of (by rw [bO,if_neg (fun h=>by have:=h.1;rw [hk] at this;cases this)];rfl))⟩,⟨_,rfl,(Le.int (by rw [bE,if_neg (fun h=>by have:=h.1;rw [hk] at this;cases this)]))⟩,trivial⟩
 ·
  have hk:askP l p q=true:=by simpa using h118
  have h:=hG hk
  have hk2:=(xg9.1 hk).2
  refine A1 ?_
  refine RGon h118 rfl (x3 (xu9 n) fi34 rfl) rfl ⟨rfl,trivial⟩ trivial trivial ?_
  refine A4 ?_
  refine xc0 rfl (fun h118_2=> ?_) (fun h118_2=> ?_)
  ·
   have hn0: ¬(1≤n∧n≤1200):=by
    have h1:=h118_2
    simp at h1;omega
   refine A2 ?_
   refine R0 (xa7 (r:=tS [⟨1,false,(tE (.int .i64 0))⟩,⟨1,false,(tE (.int .i64 0))⟩,⟨1,false,(tE (.int .i64 0))⟩]) (ts:=[]) bu68 zr68.2 Le.refl) (R0 (xa7 (r:=tS [⟨2,true,(tS [⟨1,false,(tE (.bool false))⟩,⟨1,false,(tLm [])⟩])⟩,⟨2,true,(tS [⟨1,false,(tE (.bool false))⟩,⟨1,false,(tLm [])⟩])⟩]) (ts:=[]) bu33 zr33.2 Le.refl) ?_)
   refine A7 ?_
   exact xa8 Plain.mk' (rs:=[.cell 8 68,.cell 9 33,.tmp 10]) rfl rfl ⟨⟨_,_,_,_,_,rfl,rfl,ti68,(Le.of (by rw [bO,if_neg (fun h=>hn0 h.2)];rfl))⟩,⟨_,_,_,_,_,rfl,rfl,ti33,(Le.of (by rw [bO,if_neg (fun h=>hn0 h.2)];rfl))⟩,⟨_,rfl,(Le.int (by rw [bE,if_neg (fun h=>hn0 h.2)]))⟩,trivial⟩
  ·
   have hn0:1≤n∧n≤1200:=by simpa using h118_2
   have hok:lenOk l p q n:=⟨hk,hn0⟩
   obtain ⟨k0,rfl⟩: ∃k0:Nat,n=k0:=⟨n.toNat,by omega⟩
   have hn1:1≤k0:=by omega
   have hn2:k0≤1200:=by omega
   refine A8 ?_
   refine RE (xf0 (fun j=>cond (Nat.beq j 6) 2027 (cond (Nat.beq j 5) 1027 (cond (Nat.beq j 4) 27 (3027)))) (xu4 l p q k0) fi35 rfl (krN (ρ:=fun j=>cond (Nat.beq j 6) 2027 (cond (Nat.beq j 5) 1027 (cond (Nat.beq j 4) 27 (3027))))) (krC (ρ:=fun j=>cond (Nat.beq j 6) 2027 (cond (Nat.beq j 5) 1027 (cond (Nat.beq j 4) 27 (3027)))) (k:=4) rfl (krC (ρ:=fun j=>cond (Nat.beq j 6) 2027 (cond (Nat.beq j 5) 1027 (cond (Nat.beq j 4) 27 (3027)))) (k:=7) rfl (krC (ρ:=fun j=>cond (Nat.beq j 6) 2027 (cond (Nat.beq j 5) 1027 (cond (Nat.beq j 4) 27 (3027)))) (k:=5) rfl (krC (ρ:=fun j=>cond (Nat.beq j 6) 2027 (cond (Nat.beq j 5) 1027 (cond (Nat.beq j 4) 27 (3027)))) (k:=6) rfl (krN (ρ:=fun j=>cond (Nat.beq j 6) 2027 (cond (Nat.beq j 5) 1027 (cond (Nat.beq j 4) 27 (3027))))))))) ⟨⟨rfl,(SupX.lit rfl)⟩,⟨rfl,(SupX.lit rfl)⟩,⟨rfl,(SupX.lit rfl)⟩,⟨rfl,(SupX.lit rfl)⟩,trivial⟩ rfl) ⟨rfl,rfl,rfl,rfl,trivial⟩ trivial ⟨rfl,rfl,rfl,rfl,trivial⟩ (R1 (xh9 (ps:=[.ptr 4 0]) rfl) rfl (RE (xf0 (fun j=>cond (Nat.beq j 107) 3027 (cond (Nat.beq j 106) 2027 (cond (Nat.beq j 105) 1027 (cond (Nat.beq j 104) 27 (4))))) (c_greatest D B l p q k0 hn h hl (by omega) (by omega) hn1 hn2) fi57 rfl (krC (ρ:=fun j=>cond (Nat.beq j 107) 3027 (cond (Nat.beq j 106) 2027 (cond (Nat.beq j 105) 1027 (cond (Nat.beq j 104) 27 (4))))) (k:=104) rfl (krC (ρ:=fun j=>cond (Nat.beq j 107) 3027 (cond (Nat.beq j 106) 2027 (cond (Nat.beq j 105) 1027 (cond (Nat.beq j 104) 27 (4))))) (k:=107) rfl (krC (ρ:=fun j=>cond (Nat.beq j 107) 3027 (cond (Nat.beq j 106) 2027 (cond (Nat.beq j 105) 1027 (cond (Nat.beq j 104) 27 (4))))) (k:=105) rfl (krC (ρ:=fun j=>cond (Nat.beq j 107) 3027 (cond (Nat.beq j 106) 2027 (cond (Nat.beq j 105) 1027 (cond (Nat.beq j 104) 27 (4))))) (k:=106) rfl (krC (ρ:=fun j=>cond (Nat.beq j 107) 3027 (cond (Nat.beq j 106) 2027 (cond (Nat.beq j 105) 1027 (cond (Nat.beq j 104) 27 (4))))) (k:=120) rfl (krN (ρ:=fun j=>cond (Nat.beq j 107) 3027 (cond (Nat.beq j 106) 2027 (cond (Nat.beq j 105) 1027 (cond (Nat.beq j 104) 27 (4))))))))))) (krN (ρ:=fun j=>cond (Nat.beq j 107) 3027 (cond (Nat.beq j 106) 2027 (cond (Nat.beq j 105) 1027 (cond (Nat.beq j 104) 27 (4)))))) trivial rfl) ⟨rfl,rfl,trivial⟩ ⟨rfl,rfl,rfl,rfl,rfl,trivial⟩ trivial ?_))
   refine A9 ?_
   exact xa8 Plain.mk' (rs:=[.cell 8 68,.cell 9 33,.tmp 10]) rfl rfl ⟨⟨_,_,_,_,_,rfl,rfl,ti68,(Le.of (by rw [bO,if_pos hok,Int.toNat_natCast]))⟩,⟨_,_,_,_,_,rfl,rfl,ti33,(Le.of (by rw [bO,if_pos hok,Int.toNat_natCast]))⟩,⟨_,rfl,(Le.int (by rw [bE,if_pos hok,Int.toNat_natCast]))⟩,trivial⟩
theorem c_When (D B:Int) (l:List Tst) (p q n:Int) (hn:nOk D B) (hD: ∀s∈l,s.v.f.dig) (hG:askP l p q=true→isG 3 D B l) (hl:l.length≤200000):
  Ct Tryz.prog 17 [tKG KL (tL 8 true tTs l),tI p,tI q,tI n] (tT [tI (wM (bO D l p q n)),tI (bE D l p q n)]):=by
 refine Ct.intro Tryz.func17 rfl Tryz.ntmps17 rfl ?_
 intro w F
 refine A12 ?_
 refine RE (x3 (c_best D B l p q n hn hD hG hl) fi36 rfl) ⟨rfl,rfl,rfl,rfl,trivial⟩ trivial trivial ?_
 refine A4 ?_
 refine RE (x5 (k:=10) (n:=3) (agg:=true) zr68.1 zr68.2 rfl) trivial trivial ⟨rfl,trivial⟩ (RE (x5 (k:=11) (n:=4) (agg:=true) zr33.1 zr33.2 rfl) trivial trivial ⟨rfl,trivial⟩ ?_)
 refine A15 ?_
 exact xc5 Plain.mk' rfl rfl rfl Le.refl Le.refl
theorem c_Best (D B:Int) (l:List Tst) (p q n:Int) (hn:nOk D B) (hD: ∀s∈l,s.v.f.dig) (hG:askP l p q=true→isG 3 D B l) (hl:l.length≤200000):
  Ct Tryz.prog 18 [tKG KL (tL 8 true tTs l),tI p,tI q,tI n] (tT [tFr (fO D l n.toNat (bO D l p q n)),tI (bE D l p q n)]):=by
 refine Ct.intro Tryz.func18 rfl Tryz.ntmps18 rfl ?_
 intro w F
 refine A2 ?_
 refine RE (x5 (k:=8) (n:=4) (agg:=true) zr33.1 zr33.2 rfl) trivial trivial ⟨rfl,trivial⟩ ?_
 refine A9 ?_
 refine RE (x3 (c_best D B l p q n hn hD hG hl) fi36 rfl) ⟨rfl,rfl,rfl,rfl,trivial⟩ trivial trivial ?_
 refine A4 ?_
 refine RE (x5 (k:=10) (n:=3) (agg:=true) zr68.1 zr68.2 rfl) trivial trivial ⟨rfl,trivial⟩ (RE (x5 (k:=11) (n:=4) (agg:=true) zr33.1 zr33.2 rfl) trivial trivial ⟨rfl,trivial⟩ ?_)
 refine A14 ?_
 exact xa8 Plain.mk' (rs:=[.cell 8 33,.tmp 9]) rfl rfl ⟨⟨_,_,_,_,_,rfl,rfl,ti33,Le.refl⟩,⟨_,rfl,Le.refl⟩,trivial⟩
instance fi10:FnI Tryz.prog 10:=⟨_,Tryz.func10,by kernel_rfl,rfl⟩
instance fi11:FnI Tryz.prog 11:=⟨_,Tryz.func11,by kernel_rfl,rfl⟩
def xc (n d:Int):Va:=⟨3,fr (kfr n d),0⟩
theorem xc_ok {D B n d x:Int} (hd:0 < d) (e:n*D=x*d) (hD:0 < D) (hDb:D≤9223372036854775807) (h1: -B≤x) (h2:x≤B) (hB:B≤9223372036854775807):gOk 3 D B (xc n d)∧wt D (xc n d)=x:=by
 have e2:kfr n d=Rat.divInt x D:=by
  rw [kfr_big (by omega)]
  exact (Rat.divInt_eq_divInt_iff (by omega) (by omega)).2 e
 rw [xc,e2]
 exact ⟨gOk.mk (.inr rfl) hD hDb h1 h2 hB,wt_is hD (rat_fr _)⟩
theorem c_pay (a b n d:Int) (h1: -9223372036854775808≤n) (h2:n≤9223372036854775807) (h3: -9223372036854775808≤d) (h4:d≤9223372036854775807):
  Ct Tryz.prog 11 [tI a,tI b,tI n,tI d] (tTs ⟨a,b,xc n d⟩):=by
 refine Ct.intro Tryz.func11 rfl Tryz.ntmps11 rfl ?_
 intro w F
 refine A2 ?_
 refine RE (x5 (k:=8) (n:=8) (agg:=true) zr37.1 zr37.2 rfl) trivial trivial ⟨rfl,trivial⟩ ?_
 refine A8 ?_
 refine R2 (x3 (c_Cash n d h1 h2 h3 h4) fi10 rfl) rfl rfl (R3 (xa7 (r:=tS [⟨1,false,tI a⟩,⟨1,false,tI b⟩,⟨6,true,tVa (xc n d)⟩]) (ts:=[(0,tI a),(1,tI b),(2,tVa (xc n d))]) bu37 zr37.2 (Bc 0 rfl rfl rfl (Bc 1 rfl rfl rfl (Bc 2 rfl rfl rfl Le.refl)))) rfl rfl rfl ?_)
 refine A4 ?_
 exact xc1 Plain.mk' rfl ⟨_,_,_,_,_,rfl,rfl,ti37,Le.refl⟩
def exP:List Tst:=[⟨0,59,xc 100 1⟩,⟨59,90,xc 160 1⟩,⟨90,120,xc 130 1⟩,⟨125,200,xc 900 1⟩]
theorem c_example:
  Ct Tryz.prog 25 [] (tL 8 true tTs exP):=by
 refine Ct.intro Tryz.func25 rfl Tryz.ntmps25 rfl ?_
 intro w F
 refine A7 ?_
 refine RE (x3 (c_pay 0 59 100 1 (by decide) (by decide) (by decide) (by decide)) fi11 rfl) ⟨rfl,rfl,rfl,rfl,trivial⟩ trivial trivial (RE (x3 (c_pay 59 90 160 1 (by decide) (by decide) (by decide) (by decide)) fi11 rfl) ⟨rfl,rfl,rfl,rfl,trivial⟩ trivial trivial (RE (x3 (c_pay 90 120 130 1 (by decide) (by decide) (by decide) (by decide)) fi11 rfl) ⟨rfl,rfl,rfl,rfl,trivial⟩ trivial trivial (RE (x3 (c_pay 125 200 900 1 (by decide) (by decide) (by decide) (by decide)) fi11 rfl) ⟨rfl,rfl,rfl,rfl,trivial⟩ trivial trivial (RE (xc6 (n:=4) (f:=tTs) exP Tryz.underlying22 el37 zf37 rfl (fun _=>inferInstance) rfl rfl rfl) ⟨rfl,rfl,rfl,rfl,trivial⟩ trivial trivial ?_))))
 refine A4 ?_
 exact x4 Plain.mk' rfl rfl Le.refl
instance fi16:FnI Tryz.prog 16:=⟨_,Tryz.func16,by kernel_rfl,rfl⟩
instance fi17:FnI Tryz.prog 17:=⟨_,Tryz.func17,by kernel_rfl,rfl⟩
instance fi18:FnI Tryz.prog 18:=⟨_,Tryz.func18,by kernel_rfl,rfl⟩
instance fi23:FnI Tryz.prog 23:=⟨_,Tryz.func23,by kernel_rfl,rfl⟩
instance fi25:FnI Tryz.prog 25:=⟨_,Tryz.func25,by kernel_rfl,rfl⟩
instance fi26:FnI Tryz.prog 26:=⟨_,Tryz.func26,by kernel_rfl,rfl⟩
theorem nOk3:nOk 3 2700:=⟨⟨by decide,by decide⟩,by decide,by decide⟩
theorem xc1_ok {n:Int} (h:0≤n) (h2:n≤900):gOk 3 3 2700 (xc n 1):=(xc_ok (D:=3) (B:=2700) (n:=n) (d:=1) (x:=n*3) (by decide) (by omega) (by decide) (by decide) (by omega) (by omega) (by decide)).1
theorem xh0:isG 3 3 2700 exP:=⟨by decide+kernel,fun s hs=>by
 simp only [exP,List.mem_cons,List.not_mem_nil,or_false] at hs
 rcases hs with rfl | rfl | rfl | rfl <;> exact xc1_ok (by decide) (by decide)⟩
theorem exAv:avR 3 exP 0 90=(fr (kfr 362 3),0):=by decide+kernel
theorem exAv2:(avR 3 exP 0 121).2=6:=by decide+kernel
theorem exWi:winR exP 0 120 3=([0,1],0):=by decide+kernel
theorem c_exA:Ct Tryz.prog 26 [tL 8 true tTs exP,tI 0,tI 90] (tT [tFr (fr (kfr 362 3)),tI 0]):=by
 have h:=c_Average 3 2700 exP 0 90 nOk3 xh0.dig (fun _=>xh0) (by decide)
 rw [exAv] at h;exact h
theorem c_exA2:Ct Tryz.prog 26 [tL 8 true tTs exP,tI 0,tI 121] (tT [tFr (avR 3 exP 0 121).1,tI 6]):=by
 have h:=c_Average 3 2700 exP 0 121 nOk3 xh0.dig (fun _=>xh0) (by decide)
 rw [exAv2] at h;exact h
theorem c_exW:Ct Tryz.prog 16 [tKG KL (tL 8 true tTs exP),tI 0,tI 120,tI 3] (tT [tL 1 false tI [0,1],tI 0]):=by
 have h:=c_Windows 3 2700 exP 0 120 3 xh0.dig (fun _=>xh0) (by decide)
 rw [exWi] at h;exact h
theorem c_sameFv (f g:Fr) (e:f=g):Ct Tryz.prog 24 [tFr f,tFr g] (tB true):=by
 have h:=xu8 f g
 rw [decide_eq_true e] at h;exact h
theorem c_sameIv (u w:List Int) (e:u=w):Ct Tryz.prog 23 [tL 1 false tI u,tL 1 false tI w] (tB true):=by
 have h:=c_SameInts u w
 rw [decide_eq_true e] at h;exact h
theorem exB1:fO 3 exP ((1:Int).toNat) (bO 3 exP 0 120 1)=fr (kfr 160 1)∧bE 3 exP 0 120 1=0∧wM (bO 3 exP 0 120 1)=2:=by decide+kernel
theorem c_exB1:Ct Tryz.prog 18 [tKG KL (tL 8 true tTs exP),tI 0,tI 120,tI 1] (tT [tFr (fr (kfr 160 1)),tI 0]):=by
 have h:=c_Best 3 2700 exP 0 120 1 nOk3 xh0.dig (fun _=>xh0) (by decide)
 rw [exB1.1,exB1.2.1] at h;exact h
theorem c_exWB1:Ct Tryz.prog 17 [tKG KL (tL 8 true tTs exP),tI 0,tI 120,tI 1] (tT [tI 2,tI 0]):=by
 have h:=c_When 3 2700 exP 0 120 1 nOk3 xh0.dig (fun _=>xh0) (by decide)
 rw [exB1.2.2,exB1.2.1] at h;exact h
theorem exB2:fO 3 exP ((2:Int).toNat) (bO 3 exP 0 120 2)=fr (kfr 8860 61)∧bE 3 exP 0 120 2=0∧wM (bO 3 exP 0 120 2)=2:=by decide+kernel
theorem c_exB2:Ct Tryz.prog 18 [tKG KL (tL 8 true tTs exP),tI 0,tI 120,tI 2] (tT [tFr (fr (kfr 8860 61)),tI 0]):=by
 have h:=c_Best 3 2700 exP 0 120 2 nOk3 xh0.dig (fun _=>xh0) (by decide)
 rw [exB2.1,exB2.2.1] at h;exact h
theorem c_exWB2:Ct Tryz.prog 17 [tKG KL (tL 8 true tTs exP),tI 0,tI 120,tI 2] (tT [tI 2,tI 0]):=by
 have h:=c_When 3 2700 exP 0 120 2 nOk3 xh0.dig (fun _=>xh0) (by decide)
 rw [exB2.2.2,exB2.2.1] at h;exact h
theorem exB3:fO 3 exP ((4:Int).toNat) (bO 3 exP 1 120 4)=fr0∧bE 3 exP 1 120 4=6∧wM (bO 3 exP 1 120 4)=0:=by decide+kernel
theorem c_exB3:Ct Tryz.prog 18 [tKG KL (tL 8 true tTs exP),tI 1,tI 120,tI 4] (tT [tFr (fr0),tI 6]):=by
 have h:=c_Best 3 2700 exP 1 120 4 nOk3 xh0.dig (fun _=>xh0) (by decide)
 rw [exB3.1,exB3.2.1] at h;exact h
theorem exB4:fO 3 exP ((1:Int).toNat) (bO 3 exP 0 200 1)=fr (kfr 900 1)∧bE 3 exP 0 200 1=0∧wM (bO 3 exP 0 200 1)=5:=by decide+kernel
theorem c_exB4:Ct Tryz.prog 18 [tKG KL (tL 8 true tTs exP),tI 0,tI 200,tI 1] (tT [tFr (fr (kfr 900 1)),tI 0]):=by
 have h:=c_Best 3 2700 exP 0 200 1 nOk3 xh0.dig (fun _=>xh0) (by decide)
 rw [exB4.1,exB4.2.1] at h;exact h
theorem c_exWB4:Ct Tryz.prog 17 [tKG KL (tL 8 true tTs exP),tI 0,tI 200,tI 1] (tT [tI 5,tI 0]):=by
 have h:=c_When 3 2700 exP 0 200 1 nOk3 xh0.dig (fun _=>xh0) (by decide)
 rw [exB4.2.2,exB4.2.1] at h;exact h
theorem c_awake09:
  Ct0 KL Tryz.prog 8 (tB true):=by
 refine Ct0.intro 137 Tryz.func8 rfl Tryz.ntmps8 rfl ?_
 intro w F
 refine A7 ?_
 refine R0 (x3 c_example fi25 rfl) ?_
 refine A6 ?_
 refine R3 (x3 c_exA fi26 rfl) rfl rfl rfl ?_
 refine A3 ?_
 refine RE (x5 (k:=2) (n:=4) (agg:=true) zr33.1 zr33.2 rfl) trivial trivial ⟨rfl,trivial⟩ ?_
 refine A7 ?_
 refine R3 (x3 c_exA2 fi26 rfl) rfl rfl rfl ?_
 refine A3 ?_
 refine RE (x5 (k:=4) (n:=4) (agg:=true) zr33.1 zr33.2 rfl) trivial trivial ⟨rfl,trivial⟩ ?_
 refine A7 ?_
 refine RE (xf5 137 xh5 c_exB1 fi18 rfl) ⟨rfl,rfl,rfl,rfl,rfl,trivial⟩ trivial trivial ?_
 refine A3 ?_
 refine RE (x5 (k:=6) (n:=4) (agg:=true) zr33.1 zr33.2 rfl) trivial trivial ⟨rfl,trivial⟩ ?_
 refine A7 ?_
 refine RE (xf5 137 xh5 c_exB2 fi18 rfl) ⟨rfl,rfl,rfl,rfl,rfl,trivial⟩ trivial trivial ?_
 refine A3 ?_
 refine RE (x5 (k:=8) (n:=4) (agg:=true) zr33.1 zr33.2 rfl) trivial trivial ⟨rfl,trivial⟩ ?_
 refine A7 ?_
 refine RE (xf5 137 xh5 c_exB3 fi18 rfl) ⟨rfl,rfl,rfl,rfl,rfl,trivial⟩ trivial trivial ?_
 refine A3 ?_
 refine RE (x5 (k:=10) (n:=4) (agg:=true) zr33.1 zr33.2 rfl) trivial trivial ⟨rfl,trivial⟩ ?_
 refine A7 ?_
 refine RE (xf5 137 xh5 c_exB4 fi18 rfl) ⟨rfl,rfl,rfl,rfl,rfl,trivial⟩ trivial trivial ?_
 refine A3 ?_
 refine RE (x5 (k:=12) (n:=4) (agg:=true) zr33.1 zr33.2 rfl) trivial trivial ⟨rfl,trivial⟩ ?_
 refine A7 ?_
 refine RE (xf5 137 xh5 c_exWB1 fi17 rfl) ⟨rfl,rfl,rfl,rfl,rfl,trivial⟩ trivial trivial ?_
 refine A10 ?_
 refine RE (xf5 137 xh5 c_exWB2 fi17 rfl) ⟨rfl,rfl,rfl,rfl,rfl,trivial⟩ trivial trivial ?_
 refine A10 ?_
 refine RE (xf5 137 xh5 c_exWB4 fi17 rfl) ⟨rfl,rfl,rfl,rfl,rfl,trivial⟩ trivial trivial ?_
 refine A10 ?_
 refine RE (xf5 137 xh5 c_exW fi16 rfl) ⟨rfl,rfl,rfl,rfl,rfl,trivial⟩ trivial trivial ?_
 refine A18 ?_
 refine A9 ?_
 refine RGon (decide_eq_false (by omega)) rfl xa0 rfl ⟨rfl,trivial⟩ trivial trivial (RGon (decide_eq_false (by omega)) rfl d_neq rfl ⟨rfl,rfl,trivial⟩ trivial trivial (R2 (xc4 (decide_eq_false (by omega))) rfl rfl ?_))
 refine A1 ?_
 refine RGon (decide_eq_false (by omega)) rfl xa0 rfl ⟨rfl,trivial⟩ trivial trivial (RGon (decide_eq_false (by omega)) rfl d_neq rfl ⟨rfl,rfl,trivial⟩ trivial trivial (R2 (xc4 (decide_eq_false (by omega))) rfl rfl ?_))
 refine A1 ?_
 refine RGon (decide_eq_false (by omega)) rfl xa0 rfl ⟨rfl,trivial⟩ trivial trivial (RGon (decide_eq_false (by omega)) rfl d_neq rfl ⟨rfl,rfl,trivial⟩ trivial trivial (R2 (xc4 (decide_eq_false (by omega))) rfl rfl ?_))
 refine A1 ?_
 refine RGon (decide_eq_false (by omega)) rfl xa0 rfl ⟨rfl,trivial⟩ trivial trivial (RGon (decide_eq_false (by omega)) rfl d_neq rfl ⟨rfl,rfl,trivial⟩ trivial trivial (R2 (xc4 (decide_eq_false (by omega))) rfl rfl ?_))
 refine A1 ?_
 refine RGon (decide_eq_false (by omega)) rfl xa0 rfl ⟨rfl,trivial⟩ trivial trivial (RGon (decide_eq_false (by omega)) rfl d_neq rfl ⟨rfl,rfl,trivial⟩ trivial trivial (R2 (xc4 (decide_eq_false (by omega))) rfl rfl ?_))
 refine A1 ?_
 refine RGon (decide_eq_false (by omega)) rfl xa0 rfl ⟨rfl,trivial⟩ trivial trivial (RGon (decide_eq_false (by omega)) rfl (xc6 (n:=2) (f:=fun n:Int=>tI n) [0,1] Tryz.underlying27 el3 zf3 rfl (fun _=>inferInstance) rfl rfl rfl) rfl ⟨rfl,rfl,trivial⟩ trivial trivial (RGon (decide_eq_false (by omega)) rfl (x3 (c_sameIv _ _ rfl) fi23 rfl) rfl ⟨rfl,rfl,trivial⟩ trivial trivial (RGon (decide_eq_false (by omega)) rfl xj4 rfl ⟨rfl,trivial⟩ trivial trivial (R2 (xc4 (decide_eq_false (by omega))) rfl rfl ?_))))
 refine A14 ?_
 refine R2 (x3 (c_KFrac 362 3 (by decide) (by decide) (by decide) (by decide)) fi27 rfl) rfl rfl (R3 (d_callF (c_sameFv _ _ rfl) fi24 rfl) rfl rfl rfl ?_)
 refine A3 ?_
 refine RGon rfl rfl (x3 (c_KFrac 160 1 (by decide) (by decide) (by decide) (by decide)) fi27 rfl) rfl ⟨rfl,rfl,trivial⟩ trivial trivial (RGon rfl rfl (d_callF (c_sameFv _ _ rfl) fi24 rfl) rfl ⟨rfl,rfl,rfl,trivial⟩ trivial trivial ?_)
 refine A4 ?_
 refine RGon rfl rfl (x3 (c_KFrac 8860 61 (by decide) (by decide) (by decide) (by decide)) fi27 rfl) rfl ⟨rfl,rfl,trivial⟩ trivial trivial (RGon rfl rfl (d_callF (c_sameFv _ _ rfl) fi24 rfl) rfl ⟨rfl,rfl,rfl,trivial⟩ trivial trivial ?_)
 refine A4 ?_
 refine RGon rfl rfl (x3 (c_KFrac 900 1 (by decide) (by decide) (by decide) (by decide)) fi27 rfl) rfl ⟨rfl,rfl,trivial⟩ trivial trivial (RGon rfl rfl (d_callF (c_sameFv _ _ rfl) fi24 rfl) rfl ⟨rfl,rfl,rfl,trivial⟩ trivial trivial ?_)
 refine A5 ?_
 exact x4 Plain.mk' rfl rfl Le.refl
end An.S
namespace An.S
open Go
@[irreducible] def rowD {α:Type} (f:Nat→α):List α:=(List.range 65536).map f
theorem xo4 {α:Type} {f:Nat→α}:(rowD f).length=65536:=by unfold rowD;rw [List.length_map,List.length_range]
theorem rowD_get {α:Type} {f:Nat→α} {d:Nat} (h:d < 65536):(rowD f)[d]? =some (f d):=by
 unfold rowD;rw [List.getElem?_map,List.getElem?_range h];rfl
theorem rowD_set {α:Type} {f g:Nat→α} {d:Nat} {v:α} (hv:g d=v) (hg: ∀e,e≠d→g e=f e):(rowD f).set d v=rowD g:=by
 apply List.ext_getElem?
 intro e
 rw [List.getElem?_set]
 by_cases he:d=e
 ·subst he
  rw [if_pos rfl]
  by_cases h:d < 65536
  ·rw [if_pos (by rw [xo4];exact h),rowD_get h,hv]
  ·rw [if_neg (by rw [xo4];exact h),List.getElem?_eq_none (by rw [xo4];omega)]
 ·rw [if_neg he]
  by_cases h:e < 65536
  ·rw [rowD_get h,rowD_get h,hg e (fun h'=>he h'.symm)]
  ·rw [List.getElem?_eq_none (by rw [xo4];omega),List.getElem?_eq_none (by rw [xo4];omega)]
theorem rowD_rep {α:Type} (x:α):List.replicate 65536 x=rowD fun _=>x:=by
 unfold rowD
 rw [List.map_const',List.length_range]
def tabI (l:List Tst):Nat→Nat→Int
 | 0,_=>0
 | i+1,d=>if (l.getD i tst0).lo≤d∧(d:Int) < (l.getD i tst0).hi then (i:Int)+1 else tabI l i d
def tabF (l:List Tst) (i:Nat) (e:Int) (d:Nat):Int:=if (l.getD i tst0).lo≤d∧(d:Int) < e then (i:Int)+1 else tabI l i d
theorem tabF_0 {l:List Tst} {i:Nat}:tabF l i (l.getD i tst0).lo=tabI l i:=by
 funext d;rw [tabF,if_neg (by omega)]
theorem tabF_1 {l:List Tst} {i:Nat} {e:Int} (h:e=(l.getD i tst0).hi):tabF l i e=tabI l (i+1):=by
 subst h;funext d;rfl
theorem tab_set {l:List Tst} {i d:Nat} {e:Int} (he:e=(d:Int)) (h:(l.getD i tst0).lo≤d):(rowD (tabF l i e)).set d ((i:Int)+1)=rowD (tabF l i (e+1)):=by
 subst he
 refine rowD_set (by rw [tabF,if_pos (by omega)]) fun x hx=> ?_
 rw [tabF,tabF]
 by_cases h1:(l.getD i tst0).lo≤x∧(x:Int) < d
 ·rw [if_pos h1,if_pos (by omega)]
 ·rw [if_neg h1,if_neg (by omega)]
theorem valT_take {l:List Tst} {i:Nat} (hi:i < l.length) (d:Int):valT (l.take (i+1)) d=(valT (l.take i) d).or (if (l.getD i tst0).lo≤d∧d < (l.getD i tst0).hi then some (l.getD i tst0).v else none):=by
 rw [List.take_succ_eq_append_getElem hi,xt4,xk8,List.getD_eq_getElem?_getD,List.getElem?_eq_getElem hi];rfl
theorem tab_val {l:List Tst} (h:tRight l=true) (d:Nat): ∀i,i≤l.length→(tabI l i d=0∧valT (l.take i) d=none)∨ ∃j,j < i∧tabI l i d=(j:Int)+1∧valT (l.take i) d=some (l.getD j tst0).v
 | 0,_=> .inl ⟨rfl,by simp [valT]⟩
 | i+1,hi=>by
  have ih:=tab_val h d i (by omega)
  rw [valT_take (by omega)]
  by_cases hd:(l.getD i tst0).lo≤d∧(d:Int) < (l.getD i tst0).hi
  ·refine .inr ⟨i,by omega,by rw [tabI,if_pos hd],?_⟩
   have hn:valT (l.take i) d=none:=valT_none.2 fun s hs hsd=>by
    obtain ⟨j,hj,e⟩:=List.getElem_of_mem hs
    rw [List.length_take] at hj
    have h1:=xq9 h (i:=j) (j:=i) (by omega) (by omega)
    rw [List.getElem_take] at e
    have e2:l.getD j tst0=s:=by rw [List.getD_eq_getElem?_getD,List.getElem?_eq_getElem (by omega)];exact e
    rw [e2] at h1;omega
   rw [hn,if_pos hd];rfl
  ·rw [tabI,if_neg hd,if_neg hd,Option.or_none]
   rcases ih with ih | ⟨j,hj,h1,h2⟩
   ·exact .inl ih
   ·exact .inr ⟨j,by omega,h1,h2⟩
abbrev tabT (l:List Tst):Nat→Int:=tabI l l.length
theorem tabT_val {l:List Tst} (h:tRight l=true) (d:Nat):(tabT l d=0∧valT l d=none)∨ ∃j,j < l.length∧tabT l d=(j:Int)+1∧valT l d=some (l.getD j tst0).v:=by
 have:=tab_val h d l.length (Nat.le_refl _)
 rwa [List.take_length] at this
theorem tab0 {l:List Tst}:tabI l 0=fun _=>0:=rfl
attribute [irreducible] tabI
theorem subA_get {l:List Tst} {a b:Int} {j:Nat} (hj:j < (subA l a b).length):(subA l a b).getD j tst0=l.getD (fstA l a+j) tst0∧fstA l a+j < l.length:=by
 have hl:(subA l a b).length=min (endA l b) l.length - fstA l a:=by rw [subA,List.length_drop,List.length_take]
 refine ⟨?_,by omega⟩
 rw [subA,List.getD_eq_getElem?_getD,List.getElem?_drop,List.getElem?_take,if_pos (by omega),List.getD_eq_getElem?_getD]
theorem sub_right {l:List Tst} {a b:Int} (h:tRight l=true):tRight (subA l a b)=true:=by
 refine right_R.2 fun i hi=> ?_
 obtain ⟨g1,g2⟩:=subA_get hi
 obtain ⟨z1,z2⟩:=subA_get (l:=l) (a:=a) (b:=b) (j:=0) (by omega)
 have h1:=right_R.1 h _ g2
 have h0:=right_R.1 h _ z2
 rw [rOk,g1,z1]
 refine ⟨⟨h1.1.1,h1.1.2.1,h1.1.2.2.trans h0.1.2.2.symm⟩,?_⟩
 by_cases hz:i=0
 ·exact .inl hz
 ·right
  obtain ⟨p1,_⟩:=subA_get (l:=l) (a:=a) (b:=b) (j:=i - 1) (by omega)
  rw [p1]
  have:=h1.2.resolve_left (by omega)
  rwa [show fstA l a+i - 1=fstA l a+(i - 1) by omega] at this
theorem parR_fold: ∀(xs acc:List Tst),xs.foldl parR acc=acc++xs.filter fun s=>decide (s.lo < s.hi)
 | [],acc=>by simp
 | s::r,acc=>by
  rw [List.foldl_cons,parR_fold r,parR,List.filter_cons]
  by_cases h:s.lo < s.hi
  ·simp [h]
  ·simp [h]
theorem cutR_eq {l:List Tst} {a b:Int}:cutR l a b=(l.map (clip a b)).filter fun s=>decide (s.lo < s.hi):=by rw [cutR,parR_fold];rfl
theorem sub_cut {l:List Tst} {a b:Int} (h:tRight l=true) (ha:ascT l) (hab:a < b):cutT (subA l a b) a b=cutT l a b:=by
 rw [←cut_R (sub_right h),←cut_R h,cutR_eq,cutR_eq]
 have hfe:=fst_end ha hab
 have s1:=xq0 l.length fun i=>decide (a < (l.getD i tst0).hi)
 have s2:=xq0 l.length fun i=>decide (b≤(l.getD i tst0).lo)
 rw [←fstA] at s1;rw [←endA] at s2
 have e:l=l.take (fstA l a)++(subA l a b++l.drop (endA l b)):=by
  have e1:l.take (fstA l a)=(l.take (endA l b)).take (fstA l a):=by rw [List.take_take,Nat.min_eq_left hfe.1]
  rw [←List.append_assoc,subA,e1,List.take_append_drop,List.take_append_drop]
 have z1:((l.take (fstA l a)).map (clip a b)).filter (fun s=>decide (s.lo < s.hi))=[]:=List.filter_eq_nil_iff.2 fun s hs=>by
  obtain ⟨t,ht,rfl⟩:=List.mem_map.1 hs
  obtain ⟨i,h1,h2,rfl⟩:=mem_take_get ht
  have:=of_decide_eq_false (s1.2.1 i h1)
  intro hh
  have hh:max (_:Int) a < min (_:Int) b:=of_decide_eq_true hh
  omega
 have z2:((l.drop (endA l b)).map (clip a b)).filter (fun s=>decide (s.lo < s.hi))=[]:=List.filter_eq_nil_iff.2 fun s hs=>by
  obtain ⟨t,ht,rfl⟩:=List.mem_map.1 hs
  obtain ⟨i,h1,h2,rfl⟩:=mem_drop_get ht
  have h3:=of_decide_eq_true (s2.2.2 (by omega))
  have h4:=loT_mono ha h1 h2
  intro hh
  have hh:max (_:Int) a < min (_:Int) b:=of_decide_eq_true hh
  omega
 conv=>rhs;rw [e]
 rw [List.map_append,List.map_append,List.filter_append,List.filter_append,z1,z2,List.nil_append,List.append_nil]
def dvO (q:Rat) (n:Int):Option Rat:=if short (q / (n:Rat)) then some (q / (n:Rat)) else none
theorem resF_dvO {q:Rat} {n:Int}:resF (q / (n:Rat))=sumF (dvO q n):=by rw [resF,dvO];split <;> rfl
theorem resFE_dvO {q:Rat} {n:Int}:resFE (q / (n:Rat))=sumE (dvO q n):=by rw [resFE,dvO];split <;> rfl
def avO (l:List Tst) (a b:Int):Option Rat:=(sumT (cutT l a b)).bind fun q=>dvO q (b - a)
theorem avO_short {l:List Tst} {a b:Int} {q:Rat} (h:avO l a b=some q):short q:=by
 rw [avO] at h
 cases hs:sumT (cutT l a b) with
 | none=>rw [hs] at h;cases h
 | some x=>
  rw [hs,Option.bind_some,dvO] at h
  split at h
  ·cases h;assumption
  ·cases h
def avV (l:List Tst) (n j:Nat):Rat:=(avO l (startI j) (startI (j+n))).getD 0
def bs1 (l:List Tst) (n:Nat) (o:Option (Option Nat)) (k:Nat):Option (Option Nat):=
 match o,avO l (startI k) (startI (k+n)) with
 | none,_=>none
 | some _,none=>none
 | some none,some _=>some (some k)
 | some (some j),some x=>if avV l n j < x then some (some k) else some (some j)
theorem bs1_0 {l:List Tst} {n k:Nat}:bs1 l n none k=none:=rfl
theorem bs1_N {l:List Tst} {n k:Nat} {o:Option (Option Nat)} (h:avO l (startI k) (startI (k+n))=none):bs1 l n o k=none:=by
 unfold bs1;rw [h];rcases o with _ | _ | _ <;> rfl
theorem bs1_1 {l:List Tst} {n k:Nat} {x:Rat} (h:avO l (startI k) (startI (k+n))=some x):bs1 l n (some none) k=some (some k):=by unfold bs1;rw [h]
theorem bs1_2 {l:List Tst} {n k j:Nat} {x:Rat} (h:avO l (startI k) (startI (k+n))=some x):bs1 l n (some (some j)) k=if avV l n j < x then some (some k) else some (some j):=by unfold bs1;rw [h]
def bsL (l:List Tst) (n:Nat) (ks:List Nat):Option (Option Nat):=ks.foldl (bs1 l n) (some none)
theorem bsL_snoc {l:List Tst} {n k:Nat} {ks:List Nat}:bsL l n (ks++[k])=bs1 l n (bsL l n ks) k:=by simp [bsL]
theorem bs_none {l:List Tst} {n:Nat}: ∀ks:List Nat,ks.foldl (bs1 l n) none=none
 | []=>rfl
 | k::r=>by rw [List.foldl_cons];exact bs_none r
theorem bsL_stop {l:List Tst} {n i:Nat} {ks:List Nat} (h:bsL l n (ks.take i)=none):bsL l n ks=none:=by
 rw [bsL,←List.take_append_drop i ks,List.foldl_append]
 rw [bsL] at h
 rw [h];exact bs_none _
theorem bsL_mem {l:List Tst} {n:Nat} {j:Nat}: ∀(ks:List Nat),bsL l n ks=some (some j)→j∈ks∧ ∃x,avO l (startI j) (startI (j+n))=some x:=by
 intro ks
 have key: ∀(ks:List Nat) (o:Option (Option Nat)),ks.foldl (bs1 l n) o=some (some j)→(j∈ks∧ ∃x,avO l (startI j) (startI (j+n))=some x)∨o=some (some j):=by
  intro ks
  induction ks with
  | nil=>intro o h;exact .inr h
  | cons k r ih=>
   intro o h
   rw [List.foldl_cons] at h
   rcases ih _ h with ⟨h1,h2⟩ | h1
   ·exact .inl ⟨List.mem_cons_of_mem _ h1,h2⟩
   ·cases ha:avO l (startI k) (startI (k+n)) with
    | none=>rw [bs1_N ha] at h1;cases h1
    | some x=>
     rcases o with _ | _ | m
     ·rw [bs1_0] at h1;cases h1
     ·rw [bs1_1 ha] at h1
      cases h1
      exact .inl ⟨List.mem_cons_self ..,x,ha⟩
     ·rw [bs1_2 ha] at h1
      split at h1
      ·cases h1
       exact .inl ⟨List.mem_cons_self ..,x,ha⟩
      ·exact .inr h1
 intro h
 rcases key ks _ h with h1 | h1
 ·exact h1
 ·cases h1
theorem cov_yes {l:List Tst} {a b:Int} (h:tRight l=true) (ha:ascT l) (h0:0≤a) (hab:a≤b) (hc: ∀d:Nat,a≤(d:Int)→(d:Int) < b→tabT l d≠0):nD l a b=b - a:=by
 refine (nD_iff ha hab).2 fun d h1 h2=> ?_
 have e:((d.toNat:Nat):Int)=d:=by omega
 have h3:=hc d.toNat (by omega) (by omega)
 rcases tabT_val h d.toNat with ⟨q,_⟩ | ⟨j,_,_,q⟩
 ·exact absurd q h3
 ·rw [e] at q;rw [q];rfl
theorem cov_no {l:List Tst} {a b:Int} {d:Nat} (h:tRight l=true) (ha:ascT l) (hab:a≤b) (h1:a≤(d:Int)) (h2:(d:Int) < b) (hz:tabT l d=0):nD l a b≠b - a:=fun hn=>by
 have h3:=(nD_iff ha hab).1 hn d h1 h2
 rcases tabT_val h d with ⟨_,q⟩ | ⟨j,_,q,_⟩
 ·rw [q] at h3;cases h3
 ·omega
end An.S
namespace An.S
open Go Go.Proofs An
theorem c_FDivN (a b:Rat) (ha:short a) (hb:short b) (hb0:b≠0):
  CtN Tryz.prog 74 [tFr (fr a),tFr (fr b)] (fun nw=>tT [tG (up nw) (tFr (resF (a / b))),tI (resFE (a / b))]):=by
 obtain ⟨an,ad⟩:=ha
 obtain ⟨bn,bd⟩:=hb
 have hbd:=b.den_nz
 have had:=a.den_nz
 have m1:len16 (a.num*(b.den:Int))≤256+256:=len16_mul an bd
 have m2:len16 ((a.den:Int)*b.num)≤256+256:=len16_mul ad bn
 have ha:short a:=⟨an,ad⟩
 have hb:short b:=⟨bn,bd⟩
 have hbn:b.num≠0:=fun h=>hb0 (Rat.num_eq_zero.1 h)
 have hd0:(a.den:Int)*b.num≠0:=Int.mul_ne_zero (by omega) hbn
 refine CtN.intro Tryz.func74 rfl Tryz.ntmps74 rfl ?_
 intro w F
 refine A4 ?_
 refine RE (x5 (k:=4) (n:=4) (agg:=true) zr33.1 zr33.2 rfl) trivial trivial ⟨rfl,trivial⟩ ?_
 refine A8 ?_
 refine R2 (xc6 (n:=2) (f:=fun q:Rat=>tFr (fr q)) [a,b] Tryz.underlying133 el33 zf33 rfl (fun _=>inferInstance) rfl rfl rfl) rfl rfl (R1 (x3 (xo2 [a,b] (by simp;exact ⟨ha,hb⟩)) fi109 rfl) rfl ?_)
 refine A10 ?_
 refine R1 (xa7 (r:=tS [⟨4,true,tFr (fr b)⟩]) (ts:=[(0,tFr (fr b))]) bu119 zr119.2 (Bc 0 rfl rfl rfl Le.refl)) rfl (R1 (x3 (c_Tzero (fr b)) fi110 rfl) rfl ?_)
 refine A2 ?_
 refine C_bF rfl (decide_eq_false (by exact fun h=>hb0 (Rat.num_eq_zero.1 (wh_nil (.inr h))))) ?_
 refine A8 ?_
 refine R2 (xe9 (ts:=[_,_]) (r:=tG (up w.heap.size) _) (c_ftimesN (a.num) ((b.den:Int)) (by omega) (by omega) (by omega)) fi112 (fun m hm=>xi2 hm) ⟨Le.refl,Le.refl,trivial⟩ rfl) rfl rfl ?_
 refine A4 ?_
 refine R2 (xe9 (ts:=[_,_]) (r:=tG (up w.heap.size) _) (c_ftimesN ((a.den:Int)) (b.num) (by omega) (by omega) (by omega)) fi112 (fun m hm=>xi2 hm) ⟨Le.refl,Le.refl,trivial⟩ rfl) rfl rfl (R2 (xr2 (ts:=[_,_]) (up w.heap.size) (c_lowest _ _ (by omega) (by omega) hd0) fi111 (fun _ h=>h) ⟨Le.refl,Le.refl,trivial⟩ Le.refl rfl) rfl rfl (R1 (xr2 (ts:=[_]) (r':=tT [_,_]) (up w.heap.size) (xt8 _) fi113 (fun _ h=>h) ⟨Le.refl,trivial⟩ (geG_T ⟨Le.refl,tG_E',trivial⟩) rfl) rfl ?_))
 refine A7 ?_
 exact xa8 Plain.mk' (rs:=[.cell 4 33,.tmp 5]) rfl rfl ⟨⟨_,_,_,_,_,rfl,rfl,ti33,(Le.of (by rw [sh_fr,xr6];by_cases hs:short (a / b) <;> simp [resF,hs]))⟩,⟨_,rfl,(Le.int (by rw [sh_fr,xr6];by_cases hs:short (a / b) <;> simp [resFE,hs]))⟩,trivial⟩
theorem xj3 {l:List Tst} (h:payR l=true):tRight l=true:=by
 rw [payR,Bool.and_eq_true] at h;exact h.1
theorem pay_kind {l:List Tst} (h:payR l=true) {i:Nat} (hi:i < l.length):(l.getD i tst0).v.kind=3:=by
 have h2:=h
 rw [payR,Bool.and_eq_true,Bool.or_eq_true,decide_eq_true_eq,decide_eq_true_eq] at h2
 rw [kind_at h2.1 hi]
 rcases h2.2 with h3 | h3
 ·omega
 ·exact h3
theorem sumC_pay {l:List Tst} {a b:Int} (h:payR l=true) (ha:0≤a) (hab:a≤b) (hb:b≤65536):sumC l a b:=by
 refine ⟨⟨xj3 h,by simp [Sn.ok];omega⟩,?_⟩
 rcases Nat.eq_zero_or_pos l.length with h0 | h0
 ·exact .inl h0
 ·exact .inr (.inr (pay_kind h h0))
theorem sumC_sub {l:List Tst} {a b:Int} (h:payR l=true) (ha:0≤a) (hab:a≤b) (hb:b≤65536):sumC (subA l a b) a b:=by
 refine ⟨⟨sub_right (xj3 h),by simp [Sn.ok];omega⟩,?_⟩
 rcases Nat.eq_zero_or_pos (subA l a b).length with h0 | h0
 ·exact .inl h0
 ·obtain ⟨g1,g2⟩:=subA_get (l:=l) (a:=a) (b:=b) h0
  rw [numK,g1]
  exact .inr (.inr (pay_kind h g2))
theorem subA_le {l:List Tst} {a b:Int}:(subA l a b).length≤l.length:=by rw [subA,List.length_drop,List.length_take];omega
theorem subA_sub {l:List Tst} {a b:Int}: ∀s∈subA l a b,s∈l:=fun _ hs=>((List.drop_sublist ..).trans (List.take_sublist ..)).subset hs
theorem c_SumSubN (l:List Tst) (a b:Int) (h:payR l=true) (hD: ∀s∈l,s.v.f.dig) (hl:l.length≤200000) (ha:0≤a) (hab:a < b) (hb:b≤65536):CtN Tryz.prog 73 [tL 8 true tTs (subA l a b),tI a,tI b] (fun nw=>tT [tG (up nw) (tFr (sumF (sumT (cutT l a b)))),tI (sumE (sumT (cutT l a b)))]):=by
 have hle:=subA_le (l:=l) (a:=a) (b:=b)
 have:=c_TSumOkN (subA l a b) a b (by omega) (fun s hs=>hD s (subA_sub s hs)) (sumC_sub h ha (Int.le_of_lt hab) hb)
 rw [sub_cut (xj3 h) (xp3 (xj3 h)) hab] at this;exact this
theorem short_sm {n:Int} (h1: -9223372036854775808≤n) (h2:n≤9223372036854775807):short (n:Rat):=xn2 (Nat.le_trans (len16_64 h1 h2) (by decide))
theorem c_FDivAN {o:Option Rat} {q:Rat} (n:Int) (ho:o=some q) (hq:short q) (h0:n≠0) (h1: -9223372036854775808≤n) (h2:n≤9223372036854775807):CtN Tryz.prog 74 [tFr (sumF o),tFr (fr (n:Rat))] (fun nw=>tT [tG (up nw) (tFr (sumF (dvO q n))),tI (sumE (dvO q n))]):=by
 have h:=c_FDivN q (n:Rat) hq (short_sm h1 h2) (fun h=>h0 (by exact_mod_cast h))
 rw [resF_dvO,resFE_dvO] at h
 rw [ho];exact h
theorem sumE_none {o:Option Rat} (h:sumE o≠0):o=none:=by
 cases o with
 | none=>rfl
 | some q=>exact absurd rfl h
theorem c_CoversR (l:List Tst) (h:tRight l=true) (hl:l.length≤200000) (hD: ∀s∈l,s.v.f.dig):Ct Tryz.prog 48 [tL 8 true tTs l] (tL 2 true tSn (cvT l)):=by
 have:=c_Covers l hl hD
 rw [if_pos h] at this;exact this
def avC (l:List Tst) (a b:Int):Prop:=askP l a b=true∧a < b∧nD l a b=b - a
instance (l:List Tst) (a b:Int):Decidable (avC l a b):=inferInstanceAs (Decidable (_∧_))
def avF (l:List Tst) (a b:Int):Fr:=if avC l a b then sumF (avO l a b) else fr0
def avE (l:List Tst) (a b:Int):Int:=if avC l a b then sumE (avO l a b) else if askP l a b=true then 6 else 2
theorem c_averageN (l:List Tst) (a b:Int) (h:payR l=true) (hD: ∀s∈l,s.v.f.dig) (hl:l.length≤200000) (ha:0≤a) (hab:a < b) (hb:b≤65536):
  CtN Tryz.prog 49 [tL 8 true tTs l,tI a,tI b] (fun nw=>tT [tG (up nw) (tFr (sumF (avO l a b))),tI (sumE (avO l a b))]):=by
 have ht:=xj3 h
 have hasc:=xp3 ht
 have hfe:=fst_end hasc hab
 refine CtN.intro Tryz.func49 rfl Tryz.ntmps49 rfl ?_
 intro w F
 refine A5 ?_
 refine RE (x5 (k:=6) (n:=4) (agg:=true) zr33.1 zr33.2 rfl) trivial trivial ⟨rfl,trivial⟩ ?_
 refine A7 ?_
 refine R2 (xh9 (ps:=[.ptr 3 0,.ptr 4 0]) rfl) rfl rfl (RE (xf0 (fun j=>cond (Nat.beq j 3) 3 (4)) (c_SearchA l a hasc (by omega)) fi68 rfl (krC (ρ:=fun j=>cond (Nat.beq j 3) 3 (4)) (k:=3) rfl (krC (ρ:=fun j=>cond (Nat.beq j 3) 3 (4)) (k:=4) rfl (krN (ρ:=fun j=>cond (Nat.beq j 3) 3 (4))))) (krC (ρ:=fun j=>cond (Nat.beq j 3) 3 (4)) (k:=3) rfl (krC (ρ:=fun j=>cond (Nat.beq j 3) 3 (4)) (k:=4) rfl (krN (ρ:=fun j=>cond (Nat.beq j 3) 3 (4))))) ⟨⟨rfl,(SupX.lit rfl)⟩,⟨rfl,(SupX.lit rfl)⟩,trivial⟩ rfl) ⟨rfl,rfl,trivial⟩ ⟨rfl,rfl,trivial⟩ trivial ?_)
 refine A7 ?_
 refine R2 (xh9 (ps:=[.ptr 3 0,.ptr 5 0]) rfl) rfl rfl (RE (xf0 (fun j=>cond (Nat.beq j 3) 3 (5)) (c_SearchB l b hasc (by omega)) fi68 rfl (krC (ρ:=fun j=>cond (Nat.beq j 3) 3 (5)) (k:=3) rfl (krC (ρ:=fun j=>cond (Nat.beq j 3) 3 (5)) (k:=5) rfl (krN (ρ:=fun j=>cond (Nat.beq j 3) 3 (5))))) (krC (ρ:=fun j=>cond (Nat.beq j 3) 3 (5)) (k:=3) rfl (krC (ρ:=fun j=>cond (Nat.beq j 3) 3 (5)) (k:=5) rfl (krN (ρ:=fun j=>cond (Nat.beq j 3) 3 (5))))) ⟨⟨rfl,(SupX.lit rfl)⟩,⟨rfl,(SupX.lit rfl)⟩,trivial⟩ rfl) ⟨rfl,rfl,trivial⟩ ⟨rfl,rfl,trivial⟩ trivial ?_)
 refine A8 ?_
 refine R3 (d_sliceFT sl22 (fstA l a) (endA l b) rfl rfl hfe.1 hfe.2 rfl) rfl rfl rfl ?_
 refine A2 ?_
 refine R3 (xe9 (ts:=[_,_,_]) (r:=tT [tG (up w.heap.size) _,_]) (c_SumSubN l a b h hD hl ha hab hb) fi73 (fun m hm=>le_T ⟨xi2 hm,Le.refl,trivial⟩) ⟨Le.refl,Le.refl,Le.refl,trivial⟩ rfl) rfl rfl rfl ?_
 refine A3 ?_
 refine RE (x5 (k:=10) (n:=4) (agg:=true) zr33.1 zr33.2 rfl) trivial trivial ⟨rfl,trivial⟩ ?_
 refine A11 ?_
 refine x9 rfl (fun h40=> ?_) (fun h40=> ?_)
 ·
  have hs:=sumE_none h40
  refine A2 ?_
  refine R0 (xa7 (r:=tS [⟨2,true,(tS [⟨1,false,(tE (.bool false))⟩,⟨1,false,(tLm [])⟩])⟩,⟨2,true,(tS [⟨1,false,(tE (.bool false))⟩,⟨1,false,(tLm [])⟩])⟩]) (ts:=[]) bu33 zr33.2 Le.refl) ?_
  refine A7 ?_
  exact xa8 Plain.mk' (rs:=[.cell 6 33,.tmp 7]) rfl rfl ⟨⟨_,_,_,_,_,rfl,rfl,ti33,(fr0L (by rw [avO,hs];rfl))⟩,⟨_,rfl,(Le.int (by rw [avO,hs];rfl))⟩,trivial⟩
 ·
  obtain ⟨q,hq,hqs⟩:=xu6 (fun q h=>sumT_short h) (Decidable.not_not.1 h40)
  refine A8 ?_
  refine R1 (x3 (xp1 (b - a) (by omega) (by omega)) fi75 rfl) rfl (R2 (xe9 (ts:=[_,_]) (r:=tT [tG (up w.heap.size) _,_]) (c_FDivAN (b - a) hq hqs (by omega) (by omega) (by omega)) fi74 (fun m hm=>le_T ⟨xi2 hm,Le.refl,trivial⟩) ⟨tG_le,Le.refl,trivial⟩ rfl) rfl rfl ?_)
  refine A7 ?_
  exact xa8 Plain.mk' (rs:=[.cell 6 33,.tmp 7]) rfl rfl ⟨⟨_,_,_,_,_,rfl,rfl,ti33,(Le.of (by rw [avO,hq,Option.bind_some]))⟩,⟨_,rfl,(Le.int (by rw [avO,hq,Option.bind_some]))⟩,trivial⟩
theorem c_AverageN (l:List Tst) (a b:Int) (hD: ∀s∈l,s.v.f.dig) (hl:l.length≤200000):
  CtN Tryz.prog 26 [tL 8 true tTs l,tI a,tI b] (fun nw=>tT [tG (up nw) (tFr (avF l a b)),tI (avE l a b)]):=by
 refine CtN.intro Tryz.func26 rfl Tryz.ntmps26 rfl ?_
 intro w F
 refine A2 ?_
 refine RE (x5 (k:=6) (n:=4) (agg:=true) zr33.1 zr33.2 rfl) trivial trivial ⟨rfl,trivial⟩ ?_
 refine A9 ?_
 refine R3 (x3 (xq8 l a b hD) fi33 rfl) rfl rfl rfl ?_
 refine A3 ?_
 refine xc0 rfl (fun h48=> ?_) (fun h48=> ?_)
 ·
  have hk:askP l a b=false:=by simpa using h48
  refine A2 ?_
  refine R0 (xa7 (r:=tS [⟨2,true,(tS [⟨1,false,(tE (.bool false))⟩,⟨1,false,(tLm [])⟩])⟩,⟨2,true,(tS [⟨1,false,(tE (.bool false))⟩,⟨1,false,(tLm [])⟩])⟩]) (ts:=[]) bu33 zr33.2 Le.refl) ?_
  refine A6 ?_
  exact xa8 Plain.mk' (rs:=[.cell 6 33,.tmp 7]) rfl rfl ⟨⟨_,_,_,_,_,rfl,rfl,ti33,(fr0L (by rw [avF,if_neg (fun h=>by have h1:=h.1;rw [hk] at h1;cases h1)]))⟩,⟨_,rfl,(Le.int (by rw [avE,if_neg (fun h=>by have h1:=h.1;rw [hk] at h1;cases h1),if_neg (by rw [hk];decide)]))⟩,trivial⟩
 ·
  have hk:askP l a b=true:=by simpa using h48
  have hk2:=(xg9.1 hk).2
  have h:=(xg9.1 hk).1
  have ht:=xj3 h
  refine A9 ?_
  refine RGcaseD (t:=17) rfl (fun h51=> ?_) (fun h51=> ?_)
  ·
   refine A12 ?_
   refine R0 (xa7 (r:=tS [⟨2,true,(tS [⟨1,false,(tE (.bool false))⟩,⟨1,false,(tLm [])⟩])⟩,⟨2,true,(tS [⟨1,false,(tE (.bool false))⟩,⟨1,false,(tLm [])⟩])⟩]) (ts:=[]) bu33 zr33.2 Le.refl) ?_
   refine A6 ?_
   exact xa8 Plain.mk' (rs:=[.cell 6 33,.tmp 7]) rfl rfl ⟨⟨_,_,_,_,_,rfl,rfl,ti33,(fr0L (by rw [avF,if_neg (fun h=>by have:=h.2.1;omega)]))⟩,⟨_,rfl,(Le.int (by rw [avE,if_neg (fun h=>by have:=h.2.1;omega),if_pos hk]))⟩,trivial⟩
  ·
   refine A1 ?_
   refine RGon (decide_eq_false h51) rfl (x3 (c_CoversR l ht hl hD) fi48 rfl) rfl ⟨rfl,trivial⟩ trivial trivial ?_
   refine A2 ?_
   refine RGon (decide_eq_false h51) rfl (x3 (c_isCov (cvT l) a b (cvT_set ht).1 (by have:=cvT_len (l:=l);omega)) fi47 rfl) rfl ⟨rfl,rfl,rfl,trivial⟩ trivial trivial ?_
   refine A4 ?_
   refine xc0 rfl (fun h51_2=> ?_) (fun h51_2=> ?_)
   ·
    have hc:nD l a b≠b - a:=by
     have h1:cvB (cvT l) a b=false:=by simpa using h51_2
     rw [cvB_nD ht (by omega)] at h1;exact of_decide_eq_false h1
    refine A2 ?_
    refine R0 (xa7 (r:=tS [⟨2,true,(tS [⟨1,false,(tE (.bool false))⟩,⟨1,false,(tLm [])⟩])⟩,⟨2,true,(tS [⟨1,false,(tE (.bool false))⟩,⟨1,false,(tLm [])⟩])⟩]) (ts:=[]) bu33 zr33.2 Le.refl) ?_
    refine A6 ?_
    exact xa8 Plain.mk' (rs:=[.cell 6 33,.tmp 7]) rfl rfl ⟨⟨_,_,_,_,_,rfl,rfl,ti33,(fr0L (by rw [avF,if_neg (fun h=>hc h.2.2)]))⟩,⟨_,rfl,(Le.int (by rw [avE,if_neg (fun h=>hc h.2.2),if_pos hk]))⟩,trivial⟩
   ·
    have hc:nD l a b=b - a:=by
     have h1:cvB (cvT l) a b=true:=by simpa using h51_2
     rw [cvB_nD ht (by omega)] at h1;exact of_decide_eq_true h1
    refine A7 ?_
    refine R3 (xe9 (ts:=[_,_,_]) (r:=tT [tG (up w.heap.size) _,_]) (c_averageN l a b h hD hl (by omega) (by omega) (by omega)) fi49 (fun m hm=>le_T ⟨xi2 hm,Le.refl,trivial⟩) ⟨Le.refl,Le.refl,Le.refl,trivial⟩ rfl) rfl rfl rfl ?_
    refine A7 ?_
    exact xa8 Plain.mk' (rs:=[.cell 6 33,.tmp 7]) rfl rfl ⟨⟨_,_,_,_,_,rfl,rfl,ti33,(Le.of (by rw [avF,if_pos ⟨hk,by omega,hc⟩]))⟩,⟨_,rfl,(Le.int (by rw [avE,if_pos ⟨hk,by omega,hc⟩]))⟩,trivial⟩
theorem c_R5Table (l:List Tst) (hl:l.length≤500000) (hok:tRight l=true):
  Ct Tryz.prog 38 [tL 8 true tTs l] (tL 1 false tI (rowD (tabT l))):=by
 obtain ⟨n,hn⟩: ∃n:Nat,n=65536:=⟨_,rfl⟩
 refine Ct.intro Tryz.func38 rfl Tryz.ntmps38 rfl ?_
 intro w F
 refine A7 ?_
 refine RE (xh1 (k:=6) (t:=tI 0) (ts:=rV tI (List.replicate n 0)) n n Tryz.underlying27 el3 (fun _ _=>rfl) rfl (by omega) (by omega) (Nat.le_refl _) (by omega) (by omega) (rV_rep _ _ rfl)) ⟨rfl,rfl,trivial⟩ trivial ⟨rfl,trivial⟩ ?_
 refine A10 ?_
 refine cL (fun (i:Nat)=>i≤l.length) (fun (i:Nat)=>upd (upd (upd (fun _=>none) 0 (some (.val (tL 8 true tTs l)))) 3 (some (.own (.sl 6 1 0 n)))) 4 (some (.val (tI i)))) (fun (i:Nat)=>upd (fun _=>none) 6 (some (⟨3,1,false,rV tI (rowD (tabI l i))⟩))) [6] (fun (i:Nat)=>l.length - i) (0) (Nat.zero_le _) (hh:=((SubK.consI rfl (ImpK.of (by rw [hn,rowD_rep,tab0]))) SubK.nil)) ?_
 intro i hI
 refine A9 ?_
 refine x9 rfl (fun h65=> ?_) (fun h65=> ?_)
 ·
  refine A8 ?_
  refine R2 (x6 sl22 (i) (by omega) (gD (l:=l) (n:=i) (d:=tst0) (by omega))) rfl rfl (R1 (xb4 fo37_0.h (At.f 0 rfl rfl) rfl) rfl ?_)
  refine A5 ?_
  have hat:=xi4 hok (i:=i) (by omega)
  refine cL (fun (e:Int)=>(l.getD i tst0).lo≤e∧e≤(l.getD i tst0).hi) (fun (e:Int)=>upd (upd (upd (upd (fun _=>none) 0 (some (.val (tL 8 true tTs l)))) 3 (some (.own (.sl 6 1 0 n)))) 4 (some (.val (tI i)))) 5 (some (.val (tI e)))) (fun (e:Int)=>upd (fun _=>none) 6 (some (⟨3,1,false,rV tI (rowD (tabF l i e))⟩))) [6] (fun (e:Int)=>((l.getD i tst0).hi - e).toNat) ((l.getD i tst0).lo) ⟨by omega,by omega⟩ (hh:=((SubK.consI rfl (ImpK.of (by rw [tabF_0]))) SubK.nil)) ?_
  intro e hI2
  obtain ⟨he1,he2⟩:=hI2
  refine A6 ?_
  refine R2 (x6 sl22 (i) (by omega) (gD (l:=l) (n:=i) (d:=tst0) (by omega))) rfl rfl (R1 (xb4 fo37_1.h (At.f 1 rfl rfl) rfl) rfl ?_)
  refine A4 ?_
  refine x9 rfl (fun h66=> ?_) (fun h66=> ?_)
  ·
   refine A9 ?_
   refine R2 (xa5 sl27 (by omega) (by omega) rfl) rfl rfl (RE (xc3 (e.toNat) ti3 (rV_lt (by rw [xo4];omega)) (by omega) (rV_set (f:=tI) (m:=(i:Int)+1) rfl)) ⟨rfl,rfl,trivial⟩ ⟨rfl,trivial⟩ trivial ?_)
   refine A8 ?_
   exact kF (e+1) ⟨⟨by omega,by omega⟩,(by omega)⟩ (hh:=((SubK.consI rfl (ImpK.of (by rw [tab_set (by omega) (by omega)]))) SubK.nil))
  ·
   refine A11 ?_
   exact kF (i+1) ⟨(by omega),(by omega)⟩ (hh:=((SubK.consI rfl (ImpK.of (by rw [tabF_1 (by omega)]))) SubK.nil))
 ·
  refine A7 ?_
  refine RE (xf8 (f:=tI) (xs:=rowD (tabI l i)) (fun _ h=>h) (xn8 (by rw [xo4];omega)) (by rw [xo4];omega)) ⟨rfl,trivial⟩ ⟨rfl,trivial⟩ trivial ?_
  refine A4 ?_
  exact x4 Plain.mk' rfl rfl (Le.of (by rw [show i=l.length by omega]))
end An.S
namespace An
open Go
section
variable {P:Program} {c:Base} {d ty:Nat} {pos:String} {af:Array Edge} {gd:Option (Nat×Bool)}
end
theorem leNilG {α:Type} {G:Dom} {es:Nat} {agg:Bool} {f:α→Ty} {xs:List α} (h:xs=[]):Le (tE (.slice none 0 0)) (tG G (tL es agg f xs)):=fun _ _ _ hv=>leNil h _ _ _ hv
section
variable {P:Program} {c:Base} {g:Slots} {h:Keys} {al:Names} {Q:Exit→Act→World→Prop}
end
section
variable {P:Program} {c:Base} {d ty:Nat} {pos:String} {af:Array Edge} {gd:Option (Nat×Bool)}
end
end An
namespace An.S
open Go Go.Proofs An
instance fi15:FnI Tryz.prog 15:=⟨_,Tryz.func15,by kernel_rfl,rfl⟩
instance fi21:FnI Tryz.prog 21:=⟨_,Tryz.func21,by kernel_rfl,rfl⟩
instance fi22:FnI Tryz.prog 22:=⟨_,Tryz.func22,by kernel_rfl,rfl⟩
instance fi28:FnI Tryz.prog 28:=⟨_,Tryz.func28,by kernel_rfl,rfl⟩
instance fi30:FnI Tryz.prog 30:=⟨_,Tryz.func30,by kernel_rfl,rfl⟩
instance fi37:FnI Tryz.prog 37:=⟨_,Tryz.func37,by kernel_rfl,rfl⟩
instance fi38:FnI Tryz.prog 38:=⟨_,Tryz.func38,by kernel_rfl,rfl⟩
instance fi40:FnI Tryz.prog 40:=⟨_,Tryz.func40,by kernel_rfl,rfl⟩
instance fi41:FnI Tryz.prog 41:=⟨_,Tryz.func41,by kernel_rfl,rfl⟩
instance fi60:FnI Tryz.prog 60:=⟨_,Tryz.func60,by kernel_rfl,rfl⟩
instance fi61:FnI Tryz.prog 61:=⟨_,Tryz.func61,by kernel_rfl,rfl⟩
instance fi90:FnI Tryz.prog 90:=⟨_,Tryz.func90,by kernel_rfl,rfl⟩
instance fi92:FnI Tryz.prog 92:=⟨_,Tryz.func92,by kernel_rfl,rfl⟩
theorem c_R2Zero (f:Fr):
  Ct Tryz.prog 90 [tFr f] (tB (decide ((f.n.l.length:Int)=0))):=by
 refine Ct.intro Tryz.func90 rfl Tryz.ntmps90 rfl ?_
 intro w F
 refine A10 ?_
 refine xj6 (0) ti29 rfl rfl rfl (At.t (At.g 0 rfl rfl) (At.g 1 rfl rfl)) rfl ?_
 refine A6 ?_
 exact x4 Plain.mk' rfl rfl Le.refl
theorem c_R2Over (a b:Rat) (ha:short a) (hb:short b) (hb0:b≠0):
  Ct Tryz.prog 92 [tFr (fr a),tFr (fr b)] (tFr (fr (a / b))):=by
 obtain ⟨an,ad⟩:=ha
 obtain ⟨bn,bd⟩:=hb
 have ha:short a:=⟨an,ad⟩
 have hb:short b:=⟨bn,bd⟩
 have da:=a.den_nz
 have db:=b.den_nz
 have hbn:b.num≠0:=fun h=>hb0 (Rat.num_eq_zero.1 h)
 have hd0:(a.den:Int)*b.num≠0:=Int.mul_ne_zero (by omega) hbn
 have l1:=len16_mul an bd
 have l2:=len16_mul ad bn
 refine Ct.intro Tryz.func92 rfl Tryz.ntmps92 rfl ?_
 intro w F
 refine A4 ?_
 refine RE (x5 (k:=4) (n:=4) (agg:=true) zr33.1 zr33.2 rfl) trivial trivial ⟨rfl,trivial⟩ ?_
 refine A8 ?_
 refine R2 (x3 (xk0 a.num (b.den:Int) (by omega) (by omega)) fi99 rfl) rfl rfl ?_
 refine A4 ?_
 refine R2 (x3 (xk0 (a.den:Int) b.num (by omega) (by omega)) fi99 rfl) rfl rfl (R2 (x3 (c_RLowest (a.num*(b.den:Int)) ((a.den:Int)*b.num) (by omega) (by omega) hd0) fi127 rfl) rfl rfl ?_)
 refine A4 ?_
 exact xc1 Plain.mk' rfl ⟨_,_,_,_,_,rfl,rfl,ti33,(Le.of (by rw [xr6]))⟩
theorem c_R2Div (a b:Rat) (ha:short a) (hb:short b) (hb0:b≠0):
  Ct Tryz.prog 61 [tFr (fr a),tFr (fr b)] (tT [tFr (resF (a / b)),tI (resFE (a / b))]):=by
 refine Ct.intro Tryz.func61 rfl Tryz.ntmps61 rfl ?_
 intro w F
 refine A4 ?_
 refine RE (x5 (k:=4) (n:=4) (agg:=true) zr33.1 zr33.2 rfl) trivial trivial ⟨rfl,trivial⟩ ?_
 refine A7 ?_
 refine R1 (x3 (xp2 a ha) fi63 rfl) rfl ?_
 refine A3 ?_
 refine RGon rfl rfl (x3 (xp2 b hb) fi63 rfl) rfl ⟨rfl,trivial⟩ trivial trivial ?_
 refine A11 ?_
 refine R1 (x3 (c_R2Zero _) fi90 rfl) rfl ?_
 refine A2 ?_
 refine C_bF rfl (decide_eq_false (by exact fun h=>hb0 (Rat.num_eq_zero.1 (wh_nil (.inl h))))) ?_
 refine A6 ?_
 refine R2 (x3 (c_R2Over a b ha hb hb0) fi92 rfl) rfl rfl (R1 (x3 (c_R2told (a / b)) fi91 rfl) rfl ?_)
 refine A7 ?_
 exact xa8 Plain.mk' (rs:=[.cell 4 33,.tmp 5]) rfl rfl ⟨⟨_,_,_,_,_,rfl,rfl,ti33,Le.refl⟩,⟨_,rfl,Le.refl⟩,trivial⟩
theorem c_R2DivA {o:Option Rat} {q:Rat} (n:Int) (ho:o=some q) (hq:short q) (h0:n≠0) (h1: -9223372036854775808≤n) (h2:n≤9223372036854775807):Ct Tryz.prog 61 [tFr (sumF o),tFr (fr (n:Rat))] (tT [tFr (sumF (dvO q n)),tI (sumE (dvO q n))]):=by
 have h:=c_R2Div q (n:Rat) hq (short_sm h1 h2) (fun h=>h0 (by exact_mod_cast h))
 rw [resF_dvO,resFE_dvO] at h
 rw [ho];exact h
theorem pay_bad {l:List Tst} {i:Nat} (hi:i < l.length) (h:((l.getD i tst0).v.kind:Int)≠3):false=payR l:=by
 cases hp:payR l with
 | false=>rfl
 | true=>have:=pay_kind hp hi;omega
theorem pay_all {l:List Tst} {i:Nat} (hi:i=l.length) (h: ∀j,j < i→(l.getD j tst0).v.kind=3):tRight l=payR l:=by
 rw [payR]
 rcases Nat.eq_zero_or_pos l.length with h0 | h0
 ·rw [decide_eq_true h0];simp
 ·rw [decide_eq_true (h 0 (by omega))];simp
theorem c_R9Right (l:List Tst) (hl:l.length≤200000) (hD: ∀s∈l,s.v.f.dig) (hs: ∀s∈l,s.v.f.n.l.length≤1048576∧s.v.f.d.l.length≤1048576):
  Ct Tryz.prog 30 [tL 8 true tTs l] (tB (payR l)):=by
 refine Ct.intro Tryz.func30 rfl Tryz.ntmps30 rfl ?_
 intro w F
 refine A12 ?_
 refine cL (fun (i:Nat)=>i≤l.length∧ ∀j,j < i→(l.getD j tst0).v.kind=3) (fun (i:Nat)=>upd (upd (fun _=>none) 0 (some (.val (tL 8 true tTs l)))) 3 (some (.val (tI i)))) (fun (i:Nat)=>fun _=>none) [] (fun (i:Nat)=>l.length - i) (0) ⟨Nat.zero_le _,fun j hj=>by omega⟩ ?_
 intro i hI
 obtain ⟨hi,hok⟩:=hI
 refine A9 ?_
 refine x9 rfl (fun h15=> ?_) (fun h15=> ?_)
 ·
  refine A8 ?_
  refine R2 (x6 sl22 (i) (by omega) (gD (l:=l) (n:=i) (d:=tst0) (by omega))) rfl rfl (R1 (xb4 fo37_2.h (At.f 2 rfl rfl) rfl) rfl (R1 (xb4 fo35_0.h (At.f 0 rfl rfl) rfl) rfl ?_))
  refine A4 ?_
  refine x9 rfl (fun h16=> ?_) (fun h16=> ?_)
  ·
   refine A11 ?_
   exact x4 Plain.mk' rfl rfl (Le.bool (pay_bad (i:=i) (by omega) (by omega)))
  ·
   refine A8 ?_
   exact K_fam (i+1) ⟨⟨by omega,fun j hj=>by
  by_cases hji:j=i
  ·subst hji;omega
  ·exact hok j (by omega)⟩,(by omega)⟩ (Sub.int rfl (by first | omega | rfl | (dsimp only;omega)) (Sub.cons rfl Sub.nil)) SubK.nil (SupG.val (SupG.val SupG.nil)) SupH.nil (lkOk rfl)
 ·
  refine A8 ?_
  refine R1 (x3 (c_R5Right l (by omega) hD hs) fi52 rfl) rfl ?_
  refine A4 ?_
  exact x4 Plain.mk' rfl rfl (Le.bool (pay_all (i:=i) (by omega) hok))
theorem c_R9may (l:List Tst) (hl:l.length≤200000) (a b:Int) (hD: ∀s∈l,s.v.f.dig) (hs: ∀s∈l,s.v.f.n.l.length≤1048576∧s.v.f.d.l.length≤1048576):
  Ct Tryz.prog 37 [tL 8 true tTs l,tI a,tI b] (tB (askP l a b)):=by
 refine Ct.intro Tryz.func37 rfl Tryz.ntmps37 rfl ?_
 intro w F
 refine A8 ?_
 refine R1 (x3 (c_R9Right l hl hD hs) fi30 rfl) rfl ?_
 refine A1 ?_
 refine RGcase (t:=9) rfl (fun h25=> ?_) (fun h25=> ?_)
 ·
  refine A4 ?_
  refine RGcaseD (t:=13) rfl (fun h25_2=> ?_) (fun h25_2=> ?_)
  ·
   refine A4 ?_
   refine RGcaseD (t:=17) rfl (fun h25_3=> ?_) (fun h25_3=> ?_)
   ·
    refine A4 ?_
    refine RGcaseD (t:=21) rfl (fun h25_4=> ?_) (fun h25_4=> ?_)
    ·
     refine A7 ?_
     exact x4 Plain.mk' rfl rfl (Le.bool (by simp only [askP];simp [*]))
    ·
     refine A7 ?_
     exact x4 Plain.mk' rfl rfl (Le.bool (by simp only [askP];simp [*]))
   ·
    refine A11 ?_
    exact x4 Plain.mk' rfl rfl (Le.bool (by simp only [askP];simp [*]))
  ·
   refine A15 ?_
   exact x4 Plain.mk' rfl rfl (Le.bool (by simp only [askP];simp [*]))
 ·
  refine A18 ?_
  refine A1 ?_
  exact x4 Plain.mk' rfl rfl (Le.bool (by simp only [askP];simp [*]))
theorem c_R9covered (l:List Tst) (a b:Int) (h:tRight l=true) (h0:0≤a) (hab:a≤b) (hb:b≤65536):
  Ct Tryz.prog 40 [tL 1 false tI (rowD (tabT l)),tI a,tI b] (tB (decide (nD l a b=b - a))):=by
 refine Ct.intro Tryz.func40 rfl Tryz.ntmps40 rfl ?_
 intro w F
 refine A13 ?_
 refine cL (fun (e:Int)=>a≤e∧e≤b∧ ∀d:Nat,a≤(d:Int)→(d:Int) < e→tabT l d≠0) (fun (e:Int)=>upd (upd (upd (fun _=>none) 0 (some (.val (tL 1 false tI (rowD (tabT l)))))) 2 (some (.val (tI b)))) 7 (some (.val (tI e)))) (fun (e:Int)=>fun _=>none) [] (fun (e:Int)=>(b - e).toNat) (a) ⟨Int.le_refl _,hab,fun d h1 h2=>by omega⟩ ?_
 intro e hI
 obtain ⟨he1,he2,hc⟩:=hI
 refine A8 ?_
 refine x9 rfl (fun h30=> ?_) (fun h30=> ?_)
 ·
  refine A8 ?_
  refine R2 (x6 sl27 ((e.toNat)) (by omega) (rowD_get (by omega))) rfl rfl ?_
  refine A4 ?_
  refine x9 rfl (fun h31=> ?_) (fun h31=> ?_)
  ·
   refine A11 ?_
   exact x4 Plain.mk' rfl rfl (Le.bool (decide_eq_false (cov_no (d:=e.toNat) h (xp3 h) hab (by omega) (by omega) h31)).symm)
  ·
   refine A8 ?_
   exact K_fam (e+1) ⟨⟨by omega,by omega,fun d h1 h2=>by
  by_cases hd:(d:Int)=e
  ·have e2:d=e.toNat:=by omega
   rw [e2];exact h31
  ·exact hc d h1 (by omega)⟩,(by omega)⟩ (Sub.int rfl (by first | omega | rfl | (dsimp only;omega)) (Sub.int rfl (by first | omega | rfl | (dsimp only;omega)) (Sub.cons rfl Sub.nil))) SubK.nil (SupG.val (SupG.val (SupG.val SupG.nil))) SupH.nil (lkOk rfl)
 ·
  refine A11 ?_
  exact x4 Plain.mk' rfl rfl (Le.bool (decide_eq_true (cov_yes h (xp3 h) h0 hab fun d h1 h2=>hc d h1 (by omega))).symm)
theorem c_R5SumC (l:List Tst) (a b:Int) (hl:l.length≤200000) (hD: ∀s∈l,s.v.f.dig) (hs: ∀s∈l,s.v.f.n.l.length≤1048576∧s.v.f.d.l.length≤1048576) (h:sumC l a b):Ct Tryz.prog 60 [tL 8 true tTs l,tI a,tI b] (tT [tFr (sumF (sumT (cutT l a b))),tI (sumE (sumT (cutT l a b)))]):=by
 have:=c_R5Sum l (by omega) a b hD hs
 rw [if_pos h,if_pos h] at this;exact this
theorem c_R9mean (l:List Tst) (hl:l.length≤200000) (a b:Int) (hD: ∀s∈l,s.v.f.dig) (hs: ∀s∈l,s.v.f.n.l.length≤1048576∧s.v.f.d.l.length≤1048576) (h:payR l=true) (ha:0≤a) (hab:a < b) (hb:b≤65536):
  Ct Tryz.prog 41 [tL 8 true tTs l,tI a,tI b] (tT [tFr (sumF (avO l a b)),tI (sumE (avO l a b))]):=by
 refine Ct.intro Tryz.func41 rfl Tryz.ntmps41 rfl ?_
 intro w F
 refine A2 ?_
 refine RE (x5 (k:=6) (n:=4) (agg:=true) zr33.1 zr33.2 rfl) trivial trivial ⟨rfl,trivial⟩ ?_
 refine A8 ?_
 refine R3 (x3 (c_R5SumC l a b hl hD hs (sumC_pay h ha (Int.le_of_lt hab) hb)) fi60 rfl) rfl rfl rfl ?_
 refine A3 ?_
 refine RE (x5 (k:=8) (n:=4) (agg:=true) zr33.1 zr33.2 rfl) trivial trivial ⟨rfl,trivial⟩ ?_
 refine A11 ?_
 refine x9 rfl (fun h41=> ?_) (fun h41=> ?_)
 ·
  have hs:=sumE_none h41
  refine A2 ?_
  refine R0 (xa7 (r:=tS [⟨2,true,(tS [⟨1,false,(tE (.bool false))⟩,⟨1,false,(tLm [])⟩])⟩,⟨2,true,(tS [⟨1,false,(tE (.bool false))⟩,⟨1,false,(tLm [])⟩])⟩]) (ts:=[]) bu33 zr33.2 Le.refl) ?_
  refine A7 ?_
  exact xa8 Plain.mk' (rs:=[.cell 6 33,.tmp 7]) rfl rfl ⟨⟨_,_,_,_,_,rfl,rfl,ti33,(Le.of (by rw [avO,hs];rfl))⟩,⟨_,rfl,(Le.int (by rw [avO,hs];rfl))⟩,trivial⟩
 ·
  obtain ⟨q,hq,hqs⟩:=xu6 (fun q h=>sumT_short h) (Decidable.not_not.1 h41)
  refine A8 ?_
  refine R1 (x3 (xv8 (b - a) (by omega) (by omega)) fi62 rfl) rfl (R2 (x3 (c_R2DivA (b - a) hq hqs (by omega) (by omega) (by omega)) fi61 rfl) rfl rfl ?_)
  refine A7 ?_
  exact xa8 Plain.mk' (rs:=[.cell 6 33,.tmp 7]) rfl rfl ⟨⟨_,_,_,_,_,rfl,rfl,ti33,(Le.of (by rw [avO,hq,Option.bind_some]))⟩,⟨_,rfl,(Le.int (by rw [avO,hq,Option.bind_some]))⟩,trivial⟩
theorem c_R9Average (l:List Tst) (hl:l.length≤200000) (a b:Int) (hD: ∀s∈l,s.v.f.dig) (hs: ∀s∈l,s.v.f.n.l.length≤1048576∧s.v.f.d.l.length≤1048576):
  Ct Tryz.prog 28 [tL 8 true tTs l,tI a,tI b] (tT [tFr (avF l a b),tI (avE l a b)]):=by
 refine Ct.intro Tryz.func28 rfl Tryz.ntmps28 rfl ?_
 intro w F
 refine A2 ?_
 refine RE (x5 (k:=6) (n:=4) (agg:=true) zr33.1 zr33.2 rfl) trivial trivial ⟨rfl,trivial⟩ ?_
 refine A9 ?_
 refine R3 (x3 (c_R9may l hl a b hD hs) fi37 rfl) rfl rfl rfl ?_
 refine A3 ?_
 refine xc0 rfl (fun h49=> ?_) (fun h49=> ?_)
 ·
  have hk:askP l a b=false:=by simpa using h49
  refine A2 ?_
  refine R0 (xa7 (r:=tS [⟨2,true,(tS [⟨1,false,(tE (.bool false))⟩,⟨1,false,(tLm [])⟩])⟩,⟨2,true,(tS [⟨1,false,(tE (.bool false))⟩,⟨1,false,(tLm [])⟩])⟩]) (ts:=[]) bu33 zr33.2 Le.refl) ?_
  refine A6 ?_
  exact xa8 Plain.mk' (rs:=[.cell 6 33,.tmp 7]) rfl rfl ⟨⟨_,_,_,_,_,rfl,rfl,ti33,(Le.of (by rw [avF,if_neg (fun h=>by have h1:=h.1;rw [hk] at h1;cases h1)];rfl))⟩,⟨_,rfl,(Le.int (by rw [avE,if_neg (fun h=>by have h1:=h.1;rw [hk] at h1;cases h1),if_neg (by rw [hk];decide)]))⟩,trivial⟩
 ·
  have hk:askP l a b=true:=by simpa using h49
  have hk2:=(xg9.1 hk).2
  have h:=(xg9.1 hk).1
  have ht:=xj3 h
  refine A9 ?_
  refine RGcaseD (t:=17) rfl (fun h52=> ?_) (fun h52=> ?_)
  ·
   refine A12 ?_
   refine R0 (xa7 (r:=tS [⟨2,true,(tS [⟨1,false,(tE (.bool false))⟩,⟨1,false,(tLm [])⟩])⟩,⟨2,true,(tS [⟨1,false,(tE (.bool false))⟩,⟨1,false,(tLm [])⟩])⟩]) (ts:=[]) bu33 zr33.2 Le.refl) ?_
   refine A6 ?_
   exact xa8 Plain.mk' (rs:=[.cell 6 33,.tmp 7]) rfl rfl ⟨⟨_,_,_,_,_,rfl,rfl,ti33,(Le.of (by rw [avF,if_neg (fun h=>by have:=h.2.1;omega)];rfl))⟩,⟨_,rfl,(Le.int (by rw [avE,if_neg (fun h=>by have:=h.2.1;omega),if_pos hk]))⟩,trivial⟩
  ·
   refine A1 ?_
   refine RGon (decide_eq_false h52) rfl (x3 (c_R5Table l (by omega) ht) fi38 rfl) rfl ⟨rfl,trivial⟩ trivial trivial ?_
   refine A2 ?_
   refine RGon (decide_eq_false h52) rfl (x3 (c_R9covered l a b ht (by omega) (by omega) (by omega)) fi40 rfl) rfl ⟨rfl,rfl,rfl,trivial⟩ trivial trivial ?_
   refine A4 ?_
   refine C_ifn rfl (fun h52_2=> ?_) (fun h52_2=> ?_)
   ·
    refine A2 ?_
    refine R0 (xa7 (r:=tS [⟨2,true,(tS [⟨1,false,(tE (.bool false))⟩,⟨1,false,(tLm [])⟩])⟩,⟨2,true,(tS [⟨1,false,(tE (.bool false))⟩,⟨1,false,(tLm [])⟩])⟩]) (ts:=[]) bu33 zr33.2 Le.refl) ?_
    refine A6 ?_
    exact xa8 Plain.mk' (rs:=[.cell 6 33,.tmp 7]) rfl rfl ⟨⟨_,_,_,_,_,rfl,rfl,ti33,(Le.of (by rw [avF,if_neg (fun h=>h52_2 h.2.2)];rfl))⟩,⟨_,rfl,(Le.int (by rw [avE,if_neg (fun h=>h52_2 h.2.2),if_pos hk]))⟩,trivial⟩
   ·
    refine A7 ?_
    refine R3 (x3 (c_R9mean l hl a b hD hs h (by omega) (by omega) (by omega)) fi41 rfl) rfl rfl rfl ?_
    refine A7 ?_
    exact xa8 Plain.mk' (rs:=[.cell 6 33,.tmp 7]) rfl rfl ⟨⟨_,_,_,_,_,rfl,rfl,ti33,(Le.of (by rw [avF,if_pos ⟨hk,by omega,h52_2⟩]))⟩,⟨_,rfl,(Le.int (by rw [avE,if_pos ⟨hk,by omega,h52_2⟩]))⟩,trivial⟩
theorem c_means9 (l:List Tst) (a b:Int) (hl:l.length≤60) (hD: ∀s∈l,s.v.f.dig) (hs: ∀s∈l,s.v.f.n.l.length≤1200∧s.v.f.d.l.length≤1200):
  Ct Tryz.prog 12 [tL 8 true tTs l,tI a,tI b] (tB true):=by
 refine Ct.introO Tryz.func12 rfl Tryz.ntmps12 rfl ?_
 intro w F
 refine A8 ?_
 refine R1 (xe9 (ts:=[_]) (r:=tG (up w.heap.size) _) (c_LentStepsN l hl (fun s hsm=>by have:=hs s hsm;omega)) fi15 (fun m hm=>xi2 hm) ⟨tG_le,trivial⟩ rfl) rfl ?_
 refine A4 ?_
 refine C_lent (W:=tStW l) 99 42 7 (g':=fun v=>upd (upd (upd (upd (upd (fun _=>none) 0 (some (.val (tL 8 true tTs l)))) 1 (some (.val (tI a)))) 2 (some (.val (tI b)))) 6 (some (.val (tB false)))) 7 (some (.val (tE v)))) (h':=fun _=>none) rfl rfl (fun _ L hL=>SlC.cons rfl .cst (SlC.cons rfl (.val tG_E) (SlC.cons rfl (.val tG_E) (SlC.cons rfl (.val tG_E) (SlC.cons rfl (.val (tG_old hL)) (SlC.nil)))))) (fun _ _ _ _=>KyC.nil) ?_
 intro L w1 v hv hL1 hL2
 refine A4 ?_
 refine RE (xs6 (us':=[tE v,tI a,tI b]) (r:=tT [tFr (avF l a b),tI (avE l a b)]) OvC.mk' (c_AverageN l a b hD (by omega)) fi26 hrT ⟨.inr ⟨_,rfl,stW_le _ _ _ hv⟩,.inl Le.refl,.inl Le.refl,trivial⟩ rfl) ⟨rfl,rfl,rfl,trivial⟩ ⟨rfl,trivial⟩ trivial ?_
 refine A3 ?_
 refine RE (x5 (k:=8) (n:=4) (agg:=true) zr33.1 zr33.2 rfl) trivial trivial ⟨rfl,trivial⟩ ?_
 refine A9 ?_
 refine R3 (x3 (c_R9Average l (by omega) a b hD (fun s hsm=>by have:=hs s hsm;omega)) fi28 rfl) rfl rfl rfl ?_
 refine A3 ?_
 refine RE (x5 (k:=10) (n:=4) (agg:=true) zr33.1 zr33.2 rfl) trivial trivial ⟨rfl,trivial⟩ ?_
 refine A11 ?_
 refine RGon (decide_eq_false (by simp)) rfl xa0 rfl ⟨rfl,trivial⟩ trivial trivial (RGon (decide_eq_false (by simp)) rfl (xs6 (us':=[tE v]) (r:=tB (payR l)) (rr:=fun _=>tB (payR l)) OvC.mk' (c_PRight l hD) fi29 (hrE fun _=>rfl) ⟨.inr ⟨_,rfl,stW_le _ _ _ hv⟩,trivial⟩ rfl) rfl ⟨rfl,trivial⟩ ⟨rfl,trivial⟩ trivial (RGon (decide_eq_false (by simp)) rfl xa0 rfl ⟨rfl,trivial⟩ trivial trivial (RGon (decide_eq_false (by simp)) rfl (x3 (c_R9Right l (by omega) hD (fun s hsm=>by have:=hs s hsm;omega)) fi30 rfl) rfl ⟨rfl,trivial⟩ trivial trivial (RGon (decide_eq_false (by simp)) rfl (d_neqB Tryz.underlying4) rfl ⟨rfl,rfl,trivial⟩ trivial trivial (R2 (xc4 (decide_eq_false (by simp))) rfl rfl ?_)))))
 refine A1 ?_
 refine RGon (by simp) rfl xa0 rfl ⟨rfl,trivial⟩ trivial trivial (RGon (by simp) rfl xa0 rfl ⟨rfl,trivial⟩ trivial trivial (RGon (by simp) rfl (xs6 (us':=[tE v,tL 8 true tTs l]) (r:=tB true) (rr:=fun _=>tB true) OvC.mk' (c_KeptSteps l hl (fun s hsm=>by have:=hs s hsm;omega)) fi21 (hrE fun _=>rfl) ⟨.inr ⟨_,rfl,hv⟩,.inl Le.refl,trivial⟩ rfl) rfl ⟨rfl,rfl,trivial⟩ ⟨rfl,trivial⟩ trivial (RGon (by simp) rfl xj4 rfl ⟨rfl,trivial⟩ trivial trivial (R2 (xc4 (by simp)) rfl rfl ?_))))
 refine A8 ?_
 refine RE (xq7 (us:=[tE v]) OvC.mk' (v_OverStepsL L w1 l hl (fun s hsm=>by have:=hs s hsm;omega) v hv) fi22 ⟨Free.E,trivial⟩ rfl) ⟨rfl,trivial⟩ ⟨rfl,trivial⟩ trivial ?_
 refine A6 ?_
 refine R2 (x3 (c_SameFracT _) fi24 rfl) rfl rfl ?_
 refine A4 ?_
 exact E_retB (RBase.ov hL2) trivial rfl rfl
end An.S
namespace An
open Go
section
variable {P:Program} {c:Base} {g:Slots} {h:Keys} {al:Names} {Q:Exit→Act→World→Prop}
theorem C_rangeW {x:Operand} {ps:List Nat} {assign body:Code} {f:FuncId} {Hl:List (Nat×HEnt)} {caps:List VP} {N:Nat} {ys:Nat→List Ty} (ρ:Nat→Nat)
    (hro:c.ro=none) (hvi: ∀b,¬c.vi b) (hdf:dfB c.df c.pn) (hit:ItC P f Hl caps N ys) (hf:FnI P f)
    (hx:look g x=some (.own (.fn f (VP.rens ρ caps)))) (hHl:Kr h (Hl.map fun y=>(ρ y.1,y.2.ren ρ))) (hρ:injN ρ (Hl.map (·.1))=true)
    (hps:(ps.all fun p=>Nat.blt p c.N)=true) (hys: ∀k,k < N→(ys k).length=ps.length)
    (G0:Slots) (l nG:List Nat) (hG:Sub G0 g) (hGn:SupG G0 (nm nG)) (hnG:subN (nG++c.ln) l=true) (hlk:LkOk c (nm l))
    {ι:Type} (I:Nat→ι→Prop) (H:Nat→ι→Keys) (hH: ∀k i,SupH (H k i) (nm l)) (hdis: ∀k i,∀y∈Hl,H k i (ρ y.1)=none)
    {κ:Type} (Ix:Exit→κ→Prop) (Hx:κ→Keys) (hIx: ∀e i,Ix e i→e= .ret∨ ∃id,e= .exit id)
    (i0:ι) (h0:I 0 i0) (hK0:SubK (H 0 i0) h)
    (round: ∀(D lp:Nat) (o1 o2:Obj) (O:Dom) (W:World) (lη:Env) (lb V0:Dom) (k:Nat) (i:ι),k < N→I k i→c.w0.heap.size≤W.heap.size→
      ∃g1 h1 al1,wc P (c.rnd D lp o1 O W (nG++c.ln) lη lb V0) assign (Exit.then (fun a w=>St (c.rnd D lp o1 O W (nG++c.ln) lη lb V0) g1 h1 al1 a w) (fun _ _ _=>False)) (setP G0 ps (ys k)) (H k i) (nm l)∧
        wc P (c.rnd D lp o2 O W (nG++c.ln) lη lb V0) body (PostRnd (c.rnd D lp o2 O W (nG++c.ln) lη lb V0) I H Ix Hx l k) g1 h1 al1)
    (done: ∀D,D∉c.df→ ∀i,I N i→wk (c.lp D) .normal Q G0 (H N i) (nm l))
    (stop: ∀D,D∉c.df→ ∀e i,Ix e i→wk (c.lp D) e Q G0 (Hx i) (nm l)):
    wc P c (.rangeFunc x ps.toArray assign body) Q g h al:=by
  intro a w ⟨η,s⟩
  rw [hro]
  refine wpIn_rangeFunc fun fn _=> ?_
  obtain ⟨rec_,hrec⟩: ∃rec_:LoopState→Option Code→Loop,rec_=fun st pe=>{state:=st,pending:=pe,fn,tmps:=a.tmps,params:=ps.toArray,assign,body,defers:=w.heap.size}:=⟨_,rfl⟩
  obtain ⟨D,hD⟩: ∃D,D=w.heap.size:=⟨_,rfl⟩
  obtain ⟨lp,hlp⟩: ∃lp,lp=w.heap.size+1:=⟨_,rfl⟩
  obtain ⟨W1,hW1⟩: ∃W1,W1=(w.alloc (.deferred (some []))).alloc (.loop (rec_ .ready none)):=⟨_,rfl⟩
  have hext:Ext w W1:=by
    rw [hW1];exact (Ext.push w _).trans (Ext.push _ _)
  have hsz1:W1.heap.size=w.heap.size+2:=by rw [hW1,World.size_alloc,World.size_alloc]
  have hL1:W1.heap[lp]? =some (.loop (rec_ .ready none)):=by
    rw [hW1,hlp];have:=World.alloc_heap_new (w.alloc (.deferred (some []))) (.loop (rec_ .ready none));rwa [World.size_alloc] at this
  have hK1:W1.heap[D]? =some (.deferred (some [])):=by
    rw [hW1,hD]
    show ((w.heap.push _).push _)[w.heap.size]? =_
    rw [Array.getElem?_push,if_neg (by simp)];simp
  have hHl':=Kr.get hHl
  have hH': ∀y∈Hl,h (ρ y.1)=some (y.2.ren ρ):=fun y hy=>hHl' (ρ y.1,y.2.ren ρ) (List.mem_map_of_mem (f:=fun y:Nat×HEnt=>(ρ y.1,y.2.ren ρ)) hy)
  have hDdf:D∉c.df:=fun hm=>by
    have key: ∀l:List Nat,dfB l c.pn→D∈l→(D,Obj.deferred (some []))∈c.pn:=by
      intro l
      induction l with
      | nil=>intro _ h;cases h
      | cons E r ih => intro hd hm; rcases List.mem_cons.1 hm with rfl | hm
                       · exact hd.1
                       · exact ih hd.2.2 hm
    have:=xa6 (s.pin _ (key _ hdf hm)).1
    simp only at this
    omega
  have hpnlt: ∀y∈c.pn,y.1 < w.heap.size:=fun y hy=>xa6 (s.pin y hy).1
  have hneq: ∀(o:Obj) (y:Nat×Obj),y∈(D,Obj.deferred (some []))::c.pn→y.1≠lp:=fun _ y hy=>by
    rcases List.mem_cons.1 hy with rfl | hy
    · simp only;omega
    · have:=hpnlt y hy;omega
  obtain ⟨hxs,_⟩:=xa3 s hx
  obtain ⟨vs,hv,hcaps⟩:=hxs
  have hv:a.eval x= .func (.func f) #[] vs.toArray:=hv
  obtain ⟨fnf,hf1,hf2,hf3⟩:=hf
  obtain ⟨O0,hO0⟩: ∃O0:Dom,O0=OwnK (η.pre ρ) Hl:=⟨_,rfl⟩
  have hO0own: ∀b,O0 b→Own h η b:=fun b hb=>by
    rw [hO0] at hb
    obtain ⟨y,hy,hc,rfl⟩:=hb
    exact ⟨ρ y.1,_,hH' y hy,hc,rfl⟩
  have hownsub: ∀b,Own (H 0 i0) η b→Own h η b:=by
    rintro b ⟨k,y,hk,hc,rfl⟩
    obtain ⟨z,hz,_⟩:=hK0 k y hk
    exact ⟨k,z,hz,hc,rfl⟩
  have hsep: ∀b,Own (H 0 i0) η b→ ¬O0 b:=by
    rintro b ⟨k,y,hk,hc,rfl⟩ hb
    rw [hO0] at hb
    obtain ⟨z,hz,hcz,e⟩:=hb
    obtain ⟨y',hy',_⟩:=hK0 k y hk
    exact s.inj k (ρ z.1) y' _ hy' (hH' z hz) (fun e'=>by rw [e',hdis 0 i0 z hz] at hk;cases hk) hc hcz e
  have s1:=s.ext hext
  have hlt1: ∀b,Own h η b→b < w.heap.size:=fun b hb=>s.olt hb
  have hvolt: ∀b,η.vo b→b < w.heap.size:=fun b hb=>(s.fr.vnew b hb).1
  have hKl:Keep (c.dom h η) ((c.lpb D lp (.loop (rec_ .ready none)) O0).dom (H 0 i0) η) W1 W1:=fun b o hb hl _=>⟨⟨hb.1,fun ho=>hb.2.1 (hownsub b ho),hb.2.2.1,fun ho=>hb.2.1 (hO0own b ho)⟩,hl⟩
  have sL:St' (c.lpb D lp (.loop (rec_ .ready none)) O0) G0 (H 0 i0) (nm l) a W1 η:=by
    refine ⟨s1.tn,s1.df,fun t e ht=> ?_,fun k y hk=> ?_,fun k k' y y' hk hk' hne hc hc'=> ?_,⟨s1.fr.os,s1.fr.tape,s1.fr.output,s1.fr.size,s1.fr.block,s1.fr.vold,s1.fr.vnew⟩,fun k hk=>⟨hlk.ln k hk,(s1.lk k hk).2⟩,fun y hy=> ?_,fun b hb=>Nat.lt_of_lt_of_le (hlt1 b (hO0own b hb)) hext.size,hlk.yk,fun k y hk hy=> ?_,s1.lbl⟩
    · obtain ⟨e',he',hi⟩:=hG t e ht
      exact ⟨(s1.slot t e' he').1,fun k hk=>xb2.2 (xg5 hnG k (List.mem_append.2 (.inl (xb2.1 (hGn t e ht k hk))))),Ent.sat_go (hi _ _ _ _ (s1.slot t e' he').2.2) hKl fun _ _=>⟨rfl,rfl⟩⟩
    · obtain ⟨z,hz,_,hi⟩:=hK0 k y hk
      obtain ⟨h1,h2,h3,h4⟩:=s1.key k z hz
      exact ⟨(hH 0 i0 k y hk).1,(hH 0 i0 k y hk).2,HEnt.sat_go (hi _ _ _ _ h3) (fun _=>rfl) hKl ⟨rfl,rfl⟩ fun _ _=>⟨rfl,rfl⟩,fun hc=>⟨(h4 hc).1,(h4 hc).2.1,hsep _ ⟨k,y,hk,hc,rfl⟩⟩⟩
    · obtain ⟨z,hz,_⟩:=hK0 k y hk
      obtain ⟨z',hz',_⟩:=hK0 k' y' hk'
      exact s1.inj k k' z z' hz hz' hne hc hc'
    · rcases List.mem_cons.1 hy with rfl | hy
      · exact ⟨hL1,rfl,.inl (by have:=s.fr.size;show c.w0.heap.size≤lp;omega),fun hv=>by have:=hvolt _ hv;simp only at this;omega,fun hv=>by have:=hlt1 _ (hO0own _ hv);simp only at this;omega⟩
      · rcases List.mem_cons.1 hy with rfl | hy
        · exact ⟨hK1,rfl,.inl (by have:=s.fr.size;show c.w0.heap.size≤D;omega),fun hv=>by have:=hvolt _ hv;simp only at this;omega,fun hv=>by have:=hlt1 _ (hO0own _ hv);simp only at this;omega⟩
        · obtain ⟨p1,p2,p3,p4,_⟩:=s1.pin y hy
          exact ⟨p1,p2,p3,p4,fun hv=>s.npin hy (hO0own _ hv)⟩
    · obtain ⟨z,hz,hT,_⟩:=hK0 k y hy
      rw [←hT]
      refine c.Jc _ _ _ _ _ _ (s.jj k z hk hz) (hext.stp _) fun b hb=> ?_
      rcases hb with hb | hb | ⟨y,hy,e⟩
      · exact ⟨Nat.lt_of_lt_of_le (hlt1 b (hownsub b hb)) hext.size,.inl (.inl (hownsub b hb))⟩
      · exact ⟨Nat.lt_of_lt_of_le (hlt1 b (hO0own b hb)) hext.size,.inl (.inl (hO0own b hb))⟩
      · rcases List.mem_cons.1 hy with rfl | hy
        · exact ⟨by simp only at e;omega,.inr (by simp only at e;omega)⟩
        · rcases List.mem_cons.1 hy with rfl | hy
          · exact ⟨by simp only at e;omega,.inr (by simp only at e;omega)⟩
          · exact ⟨by rw [e];exact Nat.lt_of_lt_of_le (hpnlt y hy) hext.size,.inl (.inr (.inr ⟨y,hy,e⟩))⟩
  obtain ⟨V0,hV0⟩: ∃V0:Dom,V0=fun b=>Own (H 0 i0) η b∨η.vo b∨b=lp∨b=D∨ ∃y∈c.pn,b=y.1:=⟨_,rfl⟩
  have hV0lt: ∀b,V0 b→b < W1.heap.size:=fun b hb=>by
    rw [hV0] at hb
    rcases hb with hb | hb | hb | hb | ⟨y,hy,e⟩
    · exact Nat.lt_of_lt_of_le (hlt1 b (hownsub b hb)) hext.size
    · exact Nat.lt_of_lt_of_le (hvolt b hb) hext.size
    · omega
    · omega
    · rw [e];exact Nat.lt_of_lt_of_le (hpnlt y hy) hext.size
  have hSS0:SS c D lp (.loop (rec_ .ready none)) O0 V0 G0 (H 0 i0) l a W1:=by
    refine ⟨η,sL,fun b hb=>by rw [hV0];exact .inl hb,fun b hb=>by rw [hV0];exact .inr (.inl hb),hV0lt,fun y hy=> ?_,fun b hb=> ?_⟩
    · rw [hV0]
      rcases List.mem_cons.1 hy with rfl | hy
      · exact .inr (.inr (.inl rfl))
      · rcases List.mem_cons.1 hy with rfl | hy
        · exact .inr (.inr (.inr (.inl rfl)))
        · exact .inr (.inr (.inr (.inr ⟨y,hy,rfl⟩)))
    · obtain ⟨k,y,hk,hc,rfl⟩:=hO0own b hb
      exact ((s.key k y hk).2.2.2 hc).1
  obtain ⟨F,hF⟩: ∃F:Dom,F=fun b=>c.dom h η b∧b < w.heap.size∧ ¬ ∃y∈c.pn,b=y.1:=⟨_,rfl⟩
  have hKF:Keep (c.dom h η) F w W1:=fun b o hb hl hd=>by
    have hnp: ¬ ∃y∈c.pn,b=y.1:=by
      rintro ⟨y,hy,e⟩
      obtain ⟨p1,p2,_⟩:=s.pin y hy
      rw [←e,hl] at p1
      cases p1
      rw [p2] at hd;cases hd
    exact ⟨by rw [hF];exact ⟨hb,xa6 hl,hnp⟩,(hext.block b (xa6 hl)).trans hl⟩
  have hsats:VP.sats F W1 (η.pre ρ) caps vs:=VP.sats_go hKF caps vs (fun _ _=>⟨rfl,rfl⟩) ((VP.sats_ren caps vs).1 hcaps)
  have hAll:AllK F W1 (η.pre ρ) Hl:=fun y hy=>HEnt.sat_go (HEnt.sat_ren.1 (s.key _ _ (hH' y hy)).2.2.1) (fun hc=>hext.block _ (s.klt (hH' y hy) hc)) hKF ⟨rfl,rfl⟩ fun _ _=>⟨rfl,rfl⟩
  have hInj:InjK (η.pre ρ) Hl:=fun y hy z hz hne hcy hcz=>s.inj (ρ y.1) (ρ z.1) _ _ (hH' y hy) (hH' z hz) (xo5 hρ y.1 z.1 (List.mem_map_of_mem hy) (List.mem_map_of_mem hz) hne) hcy hcz
  have hFV: ∀b,F b→ ¬V0 b∧ ¬OwnK (η.pre ρ) Hl b:=fun b hb=>by
    rw [hF] at hb
    obtain ⟨hb,hlt,hnp⟩:=hb
    refine ⟨fun hv=> ?_,fun ho=>hb.2.1 (hO0own b (by rw [hO0];exact ho))⟩
    rw [hV0] at hv
    rcases hv with hv | hv | hv | hv | hv
    · exact hb.2.1 (hownsub b hv)
    · exact hb.2.2.1 hv
    · omega
    · omega
    · exact hnp hv
  have hOV: ∀b,OwnK (η.pre ρ) Hl b→ ¬V0 b:=fun b ho hv=>by
    have ho':O0 b:=by rw [hO0];exact ho
    rw [hV0] at hv
    rcases hv with hv | hv | hv | hv | ⟨y,hy,e⟩
    · exact hsep b hv ho'
    · obtain ⟨k,y,hk,hc,rfl⟩:=hO0own b ho'
      exact ((s.key k y hk).2.2.2 hc).2.1 hv
    · have:=hlt1 b (hO0own b ho');omega
    · have:=hlt1 b (hO0own b ho');omega
    · rw [e] at ho';exact s.npin hy (hO0own _ ho')
  have hJc:JcOf (JC c D lp rec_ G0 l a I H Ix Hx):=fun n O O' V W W' hj st hO=>by
    rcases hj with ⟨k,i,e,hi,hs⟩ | ⟨k,e',i,e,hi,hs⟩
    · exact .inl ⟨k,i,e,hi,hs.on st hO⟩
    · exact .inr ⟨k,e',i,e,hi,hs.on st hO⟩
  have hY:YHyp P W1 F (JC c D lp rec_ G0 l a I H Ix Hx) lp N ys:=by
    intro k hk O V W vals D0 hj hvals hD0
    have hev: ∃i,I k i∧SS c D lp (.loop (rec_ .ready none)) O V G0 (H k i) l a W:=by
      rcases hj with ⟨k',i,e,hi,hs⟩ | ⟨k',e',i,e,hi,hs⟩
      · have:k'=k:=by omega
        subst this
        exact ⟨i,hi,hs⟩
      · omega
    obtain ⟨i,hi,η',s',hV1,hV2,hV3,hV4,hV5⟩:=hev
    have hlen:vals.length=ps.length:=by
      have key: ∀(ts:List Ty) (us:List Value),Tup.all D0 W ts us→us.length=ts.length:=by
        intro ts
        induction ts with
        | nil=>intro us h;cases us with
          | nil=>rfl
          | cons=>exact h.elim
        | cons t r ih=>intro us h;cases us with
          | nil=>exact h.elim
          | cons u us=>simp [ih us h.2]
      rw [key _ _ hvals,hys k hk]
    have hpinl:W.heap[lp]? =some (.loop (rec_ .ready none)):=(s'.pin (lp,_) (List.Mem.head _)).1
    have hy:=run_yield (P:=P) (args:=vals.toArray) hpinl (by rw [hrec];simp [hlen])
    refine ⟨_,_,_,_,hy,roundIn_of_wpIn trivial ?_⟩
    obtain ⟨g1,h1,al1,hassign,hbody⟩:=round D lp (.loop (rec_ .ready none)) (.loop {rec_ .ready none with state:= .busy}) O W η' (lbR c D lp (H k i) η') η'.vo k i hk hi s'.fr.size
    have hlnl: ∀k∈nG++c.ln,nm l k=true:=fun k hk=>xb2.2 (xg5 hnG k hk)
    have hbase: ∀b,D0 b→ ¬O b∧ ¬V b∧(c.w0.heap.size≤b∨(c.F0 b∧ ¬c.lb b)):=fun b hb=>by
      obtain ⟨e1,e2,e3⟩:=hD0 b hb
      refine ⟨e1,e2,?_⟩
      rcases e3 with e3 | e3
      · left;have:=s.fr.size;omega
      · rw [hF] at e3;exact e3.1.1
    have hpsN: ∀p∈ps,p < c.N:=fun p hp=>by have:=List.all_eq_true.1 hps p hp;simpa using this
    have sb:=s'.begin (nG++c.ln) hlnl hV1 hV2 hbase hvals hpsN (hys k hk).symm
    have hfold:(rec_ .ready none).tmps=a.tmps∧(rec_ .ready none).params=ps.toArray∧(rec_ .ready none).fn=fn∧(rec_ .ready none).assign=assign∧(rec_ .ready none).body=body:=by rw [hrec];exact ⟨rfl,rfl,rfl,rfl,rfl⟩
    rw [hfold.1,hfold.2.1,hfold.2.2.2.1,hfold.2.2.2.2]
    have hz:=zip_fold ps vals a.tmps
    have hz':(ps.toArray.zip vals.toArray).foldl (fun tmps (x:Tmp×Value)=>match x with | (t,a)=>tmps.setIfInBounds t a) a.tmps=(ps.zip vals).foldl (fun t (x:Nat×Value)=>t.setIfInBounds x.1 x.2) a.tmps:=hz
    rw [hz']
    refine wpIn_mono (hassign _ _ ⟨η',sb⟩) fun e a₁ w₁ hq=> ?_
    cases e with
    | normal=>
      obtain ⟨η1,sa⟩:=hq
      have hp1:w₁.heap[lp]? =some (.loop (rec_ .ready none)):=(sa.pin (lp,_) (List.Mem.head _)).1
      refine ⟨_,run_beginRound hp1 (by rw [hrec]),?_⟩
      have sb2:=sa.repin (o':= .loop {rec_ .ready none with state:= .busy}) rfl (hneq (.loop (rec_ .ready none))) rfl
      refine wpIn_mono (hbody _ _ ⟨η1,sb2⟩) fun e₂ a₂ w₂ hq₂=> ?_
      have fin: ∀(jump:Option Code) (h3:Keys) (a₂:Act) (w₂:World),St (c.rnd D lp (.loop {rec_ .ready none with state:= .busy}) O W (nG++c.ln) η' (lbR c D lp (H k i) η') η'.vo) (fun _=>none) h3 (nm l) a₂ w₂→
          ∃w₃ V',(Instr.endRound lp jump).run P w₂= .ok (.bool jump.isNone) w₃∧Kept V V' W w₃∧SS c D lp (.loop (rec_ (if jump.isNone then .ready else .done) jump)) O V' G0 h3 l a w₃:=by
        intro jump h3 a₂ w₂ ⟨η3,s3⟩
        have hp3:w₂.heap[lp]? =some (.loop {rec_ .ready none with state:= .busy}):=(s3.pin (lp,_) (List.Mem.head _)).1
        have he:=run_endRound (P:=P) jump hp3
        have hobj:({({rec_ .ready none with state:= .busy}:Loop) with state:=if jump.isNone then .ready else .done,pending:=jump}:Loop)=rec_ (if jump.isNone then .ready else .done) jump:=by rw [hrec]
        rw [hobj] at he
        have s4:St' (c.rnd D lp (.loop (rec_ (if jump.isNone then .ready else .done) jump)) O W (nG++c.ln) η' (lbR c D lp (H k i) η') η'.vo) (fun _=>none) h3 (nm l) a₂ _ η3:=s3.repin (o':= .loop (rec_ (if jump.isNone then .ready else .done) jump)) rfl (hneq (.loop (rec_ .ready none))) rfl
        have s5:=s'.endR (obj':= .loop (rec_ (if jump.isNone then .ready else .done) jump)) s4 (fun _ h=>h) (fun k hk=>List.mem_append.2 (.inr hk)) (fun t e ht k hk=>List.mem_append.2 (.inl (xb2.1 (hGn t e ht k hk))))
        have hown:=St'.endOwn s4
        have hsz4:W.heap.size≤(w₂.putObj lp (.loop (rec_ (if jump.isNone then .ready else .done) jump))).heap.size:=s4.fr.size
        refine ⟨_,fun b=>V b∨(W.heap.size≤b∧b < (w₂.putObj lp (.loop (rec_ (if jump.isNone then .ready else .done) jump))).heap.size),he,⟨⟨s4.fr.os,s4.fr.tape,s4.fr.output,hsz4,fun b hb hn=> ?_⟩,fun b hb=> .inl hb,fun b hb=> ?_⟩,η3,s5,?_,fun b hb=> ?_,fun b hb=> ?_,fun y hy=> ?_,hV5⟩
        · refine s4.fr.block b hb (fun hl=> ?_) fun hv=> ?_
          · rcases hl with hl | hl | hl | ⟨y,hy,e⟩
            · exact hn (hV1 b hl)
            · exact hn (hl▸hV4 (lp,_) (List.Mem.head _))
            · exact hn (hl▸hV4 (D,_) (List.Mem.tail _ (List.Mem.head _)))
            · exact hn (e▸hV4 y (List.Mem.tail _ (List.Mem.tail _ hy)))
          · rcases (s4.fr.vnew b hv).2.2 with h6 | h6
            · exact hn (hV2 b h6)
            · have h6:W.heap.size≤b:=h6
              omega
        · rcases hb with hb | hb
          · exact ⟨Nat.lt_of_lt_of_le (hV3 b hb) hsz4,.inl hb⟩
          · exact ⟨hb.2,.inr hb.1⟩
        · rintro b ⟨k',y,hk',hc,rfl⟩
          rcases hown k' y hk' hc with h6 | h6
          · exact .inr ⟨h6,HEnt.lt (s4.key k' y hk').2.2.1 hc⟩
          · exact .inl (hV1 _ h6)
        · rcases (s4.fr.vnew b hb).2.2 with h6 | h6
          · exact .inl (hV2 b h6)
          · exact .inr ⟨h6,(s4.fr.vnew b hb).1⟩
        · rcases hb with hb | hb
          · exact Nat.lt_of_lt_of_le (hV3 b hb) hsz4
          · exact hb.2
        · left
          rcases List.mem_cons.1 hy with rfl | hy
          · exact hV4 (lp,.loop (rec_ .ready none)) (List.Mem.head _)
          · exact hV4 y (List.Mem.tail _ hy)
      cases e₂ with
      | normal=>
        obtain ⟨i',hi',hs'⟩:=hq₂
        obtain ⟨w₃,V',h6,h7,h8⟩:=fin none _ _ _ hs'
        exact ⟨_,_,h6,V',h7,.inl ⟨rfl,.inl ⟨k+1,i',by omega,hi',h8⟩⟩⟩
      | ret=>
        obtain ⟨i',hi',hs'⟩:=hq₂
        obtain ⟨w₃,V',h6,h7,h8⟩:=fin (some .ret) _ _ _ hs'
        exact ⟨_,_,h6,V',h7,.inr ⟨rfl,.inr ⟨k,.ret,i',rfl,hi',h8⟩⟩⟩
      | exit id=>
        obtain ⟨i',hi',hs'⟩:=hq₂
        obtain ⟨w₃,V',h6,h7,h8⟩:=fin (some (.exit id)) _ _ _ hs'
        exact ⟨_,_,h6,V',h7,.inr ⟨rfl,.inr ⟨k,.exit id,i',rfl,hi',h8⟩⟩⟩
      | goto t=>
        obtain ⟨i',hi',hs'⟩:=hq₂
        rcases hIx _ _ hi' with h6 | ⟨_,h6⟩ <;> cases h6
      | panic ch=>
        obtain ⟨i',hi',hs'⟩:=hq₂
        rcases hIx _ _ hi' with h6 | ⟨_,h6⟩ <;> cases h6
      | outgrown=>
        obtain ⟨i',hi',hs'⟩:=hq₂
        rcases hIx _ _ hi' with h6 | ⟨_,h6⟩ <;> cases h6
    | exit id=>exact hq.elim
    | goto t=>exact hq.elim
    | ret=>exact hq.elim
    | panic chain=>exact hq.elim
    | outgrown=>exact hq.elim
  refine ⟨lp,[{target:= .collected D,args:= #[]}],W1,{target:= .fn (.func f) vs.toArray,args:= #[.func (.yield lp) #[] #[]]},W1,f,(Value.func (.yield lp) #[] #[]::vs).toArray,W1,?_,?_,fun _ _=>trivial,?_,fun h=>(by cases h),?_⟩
  · show (Instr.enterLoop fn a.tmps ps.toArray assign body none).run P w=_
    rw [run_enterLoop_outer,hlp,hD,hW1,hrec]
  · simp only [resolve,hv]
    simp [go_sem,Act.eval,Deferred.ofValue]
  · have:=xd9 (P:=P) hf1 hf2 hf3 (Value.func (.yield lp) #[] #[]::vs).toArray W1
    simp only [invoke]
    have e: #[Value.func (.yield lp) #[] #[]]++vs.toArray=(Value.func (.yield lp) #[] #[]::vs).toArray:=by simp
    rw [e];exact this
  · refine callsIn_fc (ro:=none) (Calls.mono (hit F W1 (η.pre ρ) vs lp V0 (JC c D lp rec_ G0 l a I H Ix Hx) hJc hsats hAll hInj hFV hOV hV0lt hY (.inl ⟨0,i0,rfl,h0,by rw [←hO0];exact hSS0⟩)) ?_)
    rintro e W2 ⟨v,rfl,O,V,hj⟩
    have last: ∀(st:LoopState) (pe:Option Code) (h3:Keys),st≠ .busy→SS c D lp (.loop (rec_ st pe)) O V G0 h3 l a W2→ ∃W3,(Instr.endLoop lp).run P W2= .ok pe W3∧St (c.lp D) G0 h3 (nm l) {a with defers:={target:= .collected D,args:= #[]}::a.defers} W3:=by
      intro st pe h3 hst ⟨η3,s3,_⟩
      have hp3:W2.heap[lp]? =some (.loop (rec_ st pe)):=(s3.pin (lp,_) (List.Mem.head _)).1
      have he:=run_endLoop (P:=P) hp3 (by rw [hrec];exact hst)
      have s4:=s3.repin (o':= .loop {rec_ st pe with state:= .exhausted}) rfl (hneq (.loop (rec_ .ready none))) rfl
      have:(rec_ st pe).pending=pe:=by rw [hrec]
      exact ⟨_,he.trans (congrArg (Result.ok · _) this),η3,St'.behind (obj:= .loop {rec_ st pe with state:= .exhausted}) s4 hvi⟩
    have even: ∀i,I N i→SS c D lp (.loop (rec_ .ready none)) O V G0 (H N i) l a W2→rangePost (fc none) 0 P lp Q {a with defers:=[{target:= .collected D,args:= #[]}]++a.defers} (.returned v) W2:=fun i hi hs=>by
      obtain ⟨W3,h6,h7⟩:=last _ _ _ (by simp) hs
      exact ⟨none,W3,h6,done D hDdf i hi _ _ h7⟩
    have odd: ∀e i,Ix e i→SS c D lp (.loop (rec_ .done (some (codeOf e)))) O V G0 (Hx i) l a W2→rangePost (fc none) 0 P lp Q {a with defers:=[{target:= .collected D,args:= #[]}]++a.defers} (.returned v) W2:=fun e i hi hs=>by
      obtain ⟨W3,h6,h7⟩:=last _ _ _ (by simp) hs
      have hq:=stop D hDdf e i hi _ _ h7
      refine ⟨some (codeOf e),W3,h6,?_⟩
      rcases hIx e i hi with rfl | ⟨id,rfl⟩
      · exact wpIn_ret hq
      · exact wpIn_exit hq
    rcases hj with hj | ⟨k,hk,hj⟩
    · rcases hj with ⟨k',i,e,hi,hs⟩ | ⟨k',e',i,e,hi,hs⟩
      · have:k'=N:=by omega
        subst this
        exact even i hi hs
      · omega
    · rcases hj with ⟨k',i,e,hi,hs⟩ | ⟨k',e',i,e,hi,hs⟩
      · omega
      · exact odd e' i hi hs
end
section
variable {P:Program} {c:Base} {d ty:Nat} {pos:String} {af:Array Edge} {gd:Option (Nat×Bool)}
theorem d_callCN {n:Nat} {f:FuncId} {x:Operand} {caps:List VP} {xs:List Operand} {aT:Array TypeId} {H H':List (Nat×HEnt)} {ps:List Ent} {re:Ent} {nn:List Nat} (ρ:Nat→Nat) (hc:CtGN P n f H (ps++caps.map Ent.own) re H' nn) (hf:FnI P f) (hn:n≤c.w0.heap.size) (hl:xs.length=ps.length) (hok:gB ρ H H' re (ps++caps.map Ent.own) nn c.yk=true) (hsH:SupHs H' (nn++(suppE (ps++caps.map Ent.own)++H.map (·.1)))):
  Does P c ⟨some d,.call {callee:= .value x,args:=xs.toArray,argTypes:=aT},ty,pos,af,gd⟩ ⟨(x,.own (.fn f (VP.rens ρ caps)))::xs.zip (ps.map (Ent.ren ρ)),H.map (fun x=>(ρ x.1,x.2.ren ρ)),some (d,some (re.ren ρ)),kwOf ρ H H',nn.map ρ⟩:=by
 intro g h al a w hp ⟨η,s⟩
 obtain ⟨fn,h1,h2,h3⟩:=hf
 obtain ⟨hsat,hal⟩:=SatL.of s xs ps hp.rd.2 hl
 obtain ⟨hx,hxs⟩:=xa3 s hp.rd.1
 obtain ⟨vs,hv,hcaps⟩:=hx
 have hv:a.eval x= .func (.func f) #[] vs.toArray:=hv
 have hrun:(execOp a.eval ⟨some d,.call {callee:= .value x,args:=xs.toArray,argTypes:=aT},ty,pos,af,gd⟩).run P w= .ok (.enter f (xs.map a.eval++vs).toArray) w:=by
  simp only [execOp,resolve,hv,Deferred.ofValue,Sem.run_bind,Sem.run_pure,Result.andThen_ok,invoke]
  simp only [List.map_toArray,List.append_toArray]
  exact xd9 h1 h2 h3 _ w
 have hsat2:SatL (c.dom h η) w (η.pre ρ) (ps++caps.map Ent.own) (xs.map a.eval++vs):=hsat.append (SatL.own ((VP.sats_ren caps vs).1 hcaps))
 refine go_callGN ρ hc s hn hrun hsat2 (fun k hk=> ?_) hp.kr hp.nk hok hsH rfl (hp.d _ rfl) fun a' w' hs=>al_mem hs
 simp only [suppE,List.flatMap_append,List.mem_append] at hk
 rcases hk with hk | hk
 ·exact hal _ (xk7 hk)
 ·refine hxs _ ?_
  have key: ∀l:List VP,k∈(l.map Ent.own).flatMap Ent.supp→ρ k∈VP.supps (VP.rens ρ l):=by
   intro l
   induction l with
   | nil=>intro hk;cases hk
   | cons p r ih=>
    intro hk
    simp only [List.map_cons,List.flatMap_cons,List.mem_append,VP.rens,VP.supps] at hk ⊢
    rcases hk with hk | hk
    ·left
     have:=xk7 (ρ:=ρ) (ps:=[.own p]) (k:=k) (by simp only [suppE,List.flatMap_cons,List.flatMap_nil,List.append_nil];exact hk)
     simpa [suppE,Ent.ren,Ent.supp] using this
    ·exact .inr (ih hk)
  exact key caps hk
theorem d_callCXN {n:Nat} {f:FuncId} {x:Operand} {caps:List VP} {xs:List Operand} {aT:Array TypeId} {H H' h1 h2:List (Nat×HEnt)} {ps:List Ent} {re:Ent} {nn:List Nat} (ρ:Nat→Nat) (hc:CtGN P n f H (ps++caps.map Ent.own) re H' nn) (hf:FnI P f) (hn:n≤c.w0.heap.size) (hl:xs.length=ps.length) (e1:H.map (fun x=>(ρ x.1,x.2.ren ρ))=h1) (e2:H'.map (fun x=>(ρ x.1,x.2.ren ρ))=h2)
  (hsH:SupHs H' (nn++(suppE (ps++caps.map Ent.own)++H.map (·.1)))) (hok:gB ρ H H' re (ps++caps.map Ent.own) nn c.yk=true):
  Does P c ⟨some d,.call {callee:= .value x,args:=xs.toArray,argTypes:=aT},ty,pos,af,gd⟩ ⟨(x,.own (.fn f (VP.rens ρ caps)))::xs.zip (ps.map (Ent.ren ρ)),h1,some (d,some (re.ren ρ)),H.map (fun x=>(ρ x.1,none))++h2.map (fun x=>(x.1,some x.2)),nn.map ρ⟩:=by
 have:=d_callCN (c:=c) (d:=d) (ty:=ty) (pos:=pos) (af:=af) (gd:=gd) (aT:=aT) (x:=x) ρ hc hf hn hl hok hsH
 rw [kwOf_eq e2,e1] at this
 exact this
theorem St.giveAtN {g:Slots} {h:Keys} {al:Names} {a:Act} {w:World} {t k T es off len:Nat} {agg:Bool} {ts:List Ent} {α:Type} {f:α→Ty} {xs:List α} (G:Dom) (hG: ∀b,c.w0.heap.size≤b→G b) (hfr: ∀x,Free (f x)) (hs:St c g h al a w) (hg:g t=some (.own (.sl k es off len))) (hk:h k=some ⟨T,es,agg,ts⟩) (hlb:NoLb c)
  (hts:(ts.drop off).take len=xs.map fun x=> .val (f x)) (hl:xs.length=len):St c (upd g t (some (.val (tG G (tL es agg f xs))))) (upd h k none) al a w:=by
 obtain ⟨η,s⟩:=hs
 have hv:=(s.slot t _ hg).2.2
 have h2:(tG G (tL es agg f xs)).p (c.dom (upd h k none) η) w (a.tmps.getD t undef):=by
  obtain ⟨A,cc,h1,h2,h3,h4⟩:=s.give hk hlb hts hl hv
  refine ⟨A,cc,h1,h2,h3,?_⟩
  cases xs with
  | nil=>exact .inl rfl
  | cons x0 xr=>
   rcases h4 with h4 | ⟨b,o,e,hb,hx⟩
   ·cases h4
   ·obtain ⟨A',e1,e2,e3⟩:=hv
    have hlen:0 < len:=by rw [←hl];simp
    have hc:0 < η.c k:=by omega
    have hb0:=((s.key k _ hk).2.2.2 hc).1.resolve_right (hlb _)
    have e4:=e3 (by omega)
    rw [h1] at e1
    have e1:A=A':=by injection e1
    rw [←e1,e] at e4
    have eb:b=η.b k:=by injection e4 with e4;injection e4
    refine .inr ⟨b,o,e,⟨hb,hG b (by rw [eb];exact hb0)⟩,fun i y hi=> ?_⟩
    obtain ⟨u,hm,hu⟩:=hx i y hi
    exact ⟨u,hm,hfr y _ _ _ _ _ hu⟩
 have s2:=(s.drop k).put (s.slot t _ hg).1 (e:= .val (tG G (tL es agg f xs))) h2 fun j hj=>by cases hj
 refine ⟨η,?_⟩
 have e:a.put (some t) (a.tmps.getD t undef)=a:=by
  have hlt:t < a.tmps.size:=by rw [s.tn];exact (s.slot t _ hg).1
  have:a.tmps.setIfInBounds t (a.tmps.getD t undef)=a.tmps:=by
   apply Array.ext_getElem?
   intro i
   rw [Array.getElem?_setIfInBounds]
   by_cases hi:t=i
   ·subst hi;simp [hlt]
   ·simp [hi]
  simp only [Act.put,this]
 rw [←e];exact s2
theorem Does.giveLN {o:Oper} {rd:List (Operand×Ent)} {kr:List (Nat×HEnt)} {d k T es off len:Nat} {agg:Bool} {ts:List Ent} {α:Type} {f:α→Ty} {xs:List α} (G:Dom) (hG: ∀b,c.w0.heap.size≤b→G b) (hfr: ∀x,Free (f x)) (hd:Does P c o ⟨rd,kr,some (d,some (.own (.sl k es off len))),[],[]⟩) (hlb:NoLb c)
  (hts:(ts.drop off).take len=xs.map fun x=> .val (f x)) (hl:xs.length=len):Does P c o ⟨rd,(k,⟨T,es,agg,ts⟩)::kr,some (d,some (.val (tG G (tL es agg f xs)))),[(k,none)],[]⟩:=by
 intro g h al a w hp hs
 refine Oper.wpIn_mono (fun a' w' hs'=> ?_) (hd g h al a w ⟨hp.rd,hp.kr.2,hp.nk,fun x hx=>by cases hx;exact hp.d (d,some (.val (tG G (tL es agg f xs)))) rfl⟩ hs)
 have:=St.giveAtN G hG hfr hs' (xb0 _ _ _) hp.kr.1 hlb hts hl
 simp only [Eff.g,upd_twice] at this
 exact this
end
end An
namespace An.S
open Go Go.Proofs An
theorem okW_ofR {l:List Tst} {p q:Int} {n k:Nat} (h:tRight l=true) (hk:k+n < 2154) (hn:1≤n) (h1:p≤startI k) (h2:startI (k+n)≤q) (h3:cvB (cvT l) (startI k) (startI (k+n))=true):okW l p q n k=true:=by
 have hlt:=xq6 (show k < k+n by omega) (by omega)
 rw [cvB_nD h (by omega)] at h3
 rw [okW,decide_eq_true hk,decide_eq_true h1,decide_eq_true h2,h3];rfl
theorem okW_notR {l:List Tst} {p q:Int} {n k:Nat} (h:tRight l=true) (hn:1≤n) (h1:k+n < 2154→startI k < p∨q < startI (k+n)∨cvB (cvT l) (startI k) (startI (k+n))=false): ¬okW l p q n k=true:=fun hw=>by
 simp only [okW,Bool.and_eq_true,decide_eq_true_eq] at hw
 have hlt:=xq6 (show k < k+n by omega) (by omega)
 rcases h1 hw.1.1.1 with h2 | h2 | h2
 ·omega
 ·omega
 ·rw [cvB_nD h (by omega),decide_eq_true hw.2] at h2;cases h2
theorem i_possibleR (a:List Tst) (p q:Int) (n:Nat) (h:tRight a=true) (hD: ∀s∈a,s.v.f.dig) (hl:a.length≤200000) (hn1:1≤n) (hn2:n≤1200):
  ItC Tryz.prog 55 [(4,⟨22,1,false,[.val (tKG KL (tL 8 true tTs a))]⟩),(7,⟨3,1,false,[.val (tI (n:Int))]⟩),(5,⟨3,1,false,[.val (tI p)]⟩),(6,⟨3,1,false,[.val (tI q)]⟩)] [.ptr 4 0,.ptr 7 0,.ptr 5 0,.ptr 6 0] ((winT a p q n).length) (psY a p q n):=by
 refine ItC.intro (K:=99) [4,7,5,6] Tryz.func55 rfl Tryz.ntmps55 rfl rfl ⟨⟨rfl,(SupX.lit rfl)⟩,⟨rfl,(SupX.lit rfl)⟩,⟨rfl,(SupX.lit rfl)⟩,⟨rfl,(SupX.lit rfl)⟩,trivial⟩ rfl ?_
 intro w F η l V J Jc hB
 refine A2 ?_
 refine RE (d_loadG ti22) ⟨rfl,trivial⟩ ⟨rfl,trivial⟩ trivial (R1 (x3 (c_CoversR a h hl hD) fi48 rfl) rfl ?_)
 refine A9 ?_
 refine cL (fun (fm:(Nat)×(Nat))=>(fun (m:Nat) (j:Nat)=>m≤2154∧j=(winP a p q n m).length) fm.1 fm.2) (fun (fm:(Nat)×(Nat))=>(fun (m:Nat) (j:Nat)=>upd (upd (upd (upd (upd (upd (upd (fun _=>none) 0 (some (.val (tE (.func (.yield l) #[] #[]))))) 1 (some (.own (.ptr 4 0)))) 2 (some (.own (.ptr 7 0)))) 3 (some (.own (.ptr 5 0)))) 4 (some (.own (.ptr 6 0)))) 6 (some (.val (tL 2 true tSn (cvT a))))) 7 (some (.val (tI m)))) fm.1 fm.2) (fun (fm:(Nat)×(Nat))=>(fun (m:Nat) (j:Nat)=>upd (upd (upd (upd (upd (fun _=>none) 4 (some (⟨22,1,false,[.val (tKG KL (tL 8 true tTs a))]⟩))) 7 (some (⟨3,1,false,[.val (tI (n:Int))]⟩))) 5 (some (⟨3,1,false,[.val (tI p)]⟩))) 6 (some (⟨3,1,false,[.val (tI q)]⟩))) 99 (some (⟨2*j,1,false,[]⟩))) fm.1 fm.2) [4,7,5,6,99] (fun (fm:(Nat)×(Nat))=>(fun (m:Nat) (j:Nat)=>2154 - m) fm.1 fm.2) ((0,0)) (by dsimp only;exact ⟨Nat.zero_le _,rfl⟩) (hh:=((SubK.consI rfl ImpK.refl) ((SubK.consI rfl ImpK.refl) ((SubK.consI rfl ImpK.refl) ((SubK.consI rfl ImpK.refl) ((SubK.consI rfl ImpK.refl) SubK.nil)))))) ?_
 intro fm hI
 obtain ⟨m,j⟩:=fm
 replace hI:m≤2154∧j=(winP a p q n m).length:=hI
 show wc _ _ _ _ (upd (upd (upd (upd (upd (upd (upd (fun _=>none) 0 (some (.val (tE (.func (.yield l) #[] #[]))))) 1 (some (.own (.ptr 4 0)))) 2 (some (.own (.ptr 7 0)))) 3 (some (.own (.ptr 5 0)))) 4 (some (.own (.ptr 6 0)))) 6 (some (.val (tL 2 true tSn (cvT a))))) 7 (some (.val (tI m)))) (upd (upd (upd (upd (upd (fun _=>none) 4 (some (⟨22,1,false,[.val (tKG KL (tL 8 true tTs a))]⟩))) 7 (some (⟨3,1,false,[.val (tI (n:Int))]⟩))) 5 (some (⟨3,1,false,[.val (tI p)]⟩))) 6 (some (⟨3,1,false,[.val (tI q)]⟩))) 99 (some (⟨2*j,1,false,[]⟩))) _
 obtain ⟨hm0,hj⟩:=hI
 refine A5 ?_
 refine RE (d_callTK 4 22 1 false car_G full_one (c_FirstZ (m:Int)) fi56 rfl) ⟨rfl,trivial⟩ ⟨rfl,trivial⟩ trivial ?_
 refine A12 ?_
 refine RE (d_callTK 4 22 1 false car_G full_one (c_FirstZ ((m:Int)+(n:Int))) fi56 rfl) ⟨rfl,trivial⟩ ⟨rfl,trivial⟩ trivial ?_
 refine A9 ?_
 have f1:=xs5 (m:=(m:Int)) (by omega)
 have f2:=xs5 (m:=(m:Int)+(n:Int)) (by omega)
 refine A4 ?_
 refine RGcaseD (t:=30) rfl (fun h70=> ?_) (fun h70=> ?_)
 ·
  refine A12 ?_
  exact E_it hB rfl trivial rfl (.inl rfl) rfl (.inl (by rw [hj,win_end hm0 (by omega)]))
 ·
  refine A5 ?_
  refine x9 rfl (fun h70_2=> ?_) (fun h70_2=> ?_)
  ·
   refine A6 ?_
   exact E_it hB rfl trivial rfl (.inl rfl) rfl (.inl (by rw [hj,win_end hm0 (by omega)]))
  ·
   refine A4 ?_
   have hm:m < 2154:=by omega
   have hmn:m+n < 2154:=by omega
   have e1:=fstD_is hm
   have e2:=xq4 hmn
   refine A5 ?_
   refine RGcaseD (t:=37) rfl (fun h73=> ?_) (fun h73=> ?_)
   ·
    refine A18 ?_
    refine A5 ?_
    exact kF ((m+1,j)) ⟨(by dsimp only;exact ⟨by omega,by rw [xm6 (okW_notR h hn1 (fun _=> .inl (by omega)))];exact hj⟩),(by dsimp only;omega)⟩ (hh:=((SubK.consI rfl ImpK.refl) ((SubK.consI rfl ImpK.refl) ((SubK.consI rfl ImpK.refl) ((SubK.consI rfl ImpK.refl) ((SubK.consI rfl ImpK.refl) SubK.nil))))))
   ·
    refine A5 ?_
    refine RGcaseD (t:=42) rfl (fun h73_2=> ?_) (fun h73_2=> ?_)
    ·
     refine A18 ?_
     exact kF ((m+1,j)) ⟨(by dsimp only;exact ⟨by omega,by rw [xm6 (okW_notR h hn1 (fun _=> .inr (.inl (by omega))))];exact hj⟩),(by dsimp only;omega)⟩ (hh:=((SubK.consI rfl ImpK.refl) ((SubK.consI rfl ImpK.refl) ((SubK.consI rfl ImpK.refl) ((SubK.consI rfl ImpK.refl) ((SubK.consI rfl ImpK.refl) SubK.nil))))))
    ·
     refine A3 ?_
     refine RGon (decide_eq_false h73_2) rfl (x3 (c_isCov (cvT a) (fstD (m:Int)) (fstD ((m:Int)+(n:Int))) (cvT_set h).1 (by have:=cvT_len (l:=a);omega)) fi47 rfl) rfl ⟨rfl,rfl,rfl,trivial⟩ trivial trivial ?_
     refine A4 ?_
     refine xc0 rfl (fun h73_3=> ?_) (fun h73_3=> ?_)
     ·
      refine A9 ?_
      exact kF ((m+1,j)) ⟨(by dsimp only;exact ⟨by omega,by rw [xm6 (okW_notR h hn1 (fun _=> .inr (.inr (by rw [←e1,←e2];simpa using h73_3))))];exact hj⟩),(by dsimp only;omega)⟩ (hh:=((SubK.consI rfl ImpK.refl) ((SubK.consI rfl ImpK.refl) ((SubK.consI rfl ImpK.refl) ((SubK.consI rfl ImpK.refl) ((SubK.consI rfl ImpK.refl) SubK.nil))))))
     ·
      refine A3 ?_
      refine C_regY ?_
      refine xh6 xa0 ⟨rfl,trivial⟩ trivial trivial rfl (xh6 xa0 ⟨rfl,trivial⟩ trivial trivial rfl (xh6 xa0 ⟨rfl,trivial⟩ trivial trivial rfl (xh6 xa0 ⟨rfl,trivial⟩ trivial trivial rfl (xh6 (xa7 (r:=tS [⟨1,false,tI (m:Int)⟩,⟨1,false,tI (fstD (m:Int))⟩,⟨1,false,tI (fstD ((m:Int)+(n:Int)))⟩]) (ts:=[(0,tI (m:Int)),(1,tI (fstD (m:Int))),(2,tI (fstD ((m:Int)+(n:Int))))]) bu68 zr68.2 (Bc 0 rfl rfl rfl (Bc 1 rfl rfl rfl (Bc 2 rfl rfl rfl Le.refl)))) ⟨rfl,rfl,rfl,trivial⟩ trivial trivial rfl ?_))))
      have hok:=okW_ofR (p:=p) (q:=q) h hmn hn1 (by omega) (by omega) (by rw [←e1,←e2];simpa using h73_3)
      have hwa:=win_at (by omega) hok
      rw [←hj] at hwa
      have hwy:=winP_yes hok
      refine wl_yield (ts:=[tWin (m:Int) (fstD (m:Int)) (fstD ((m:Int)+(n:Int)))]) hB (xw0 rfl) rfl rfl ⟨rfl,trivial⟩ rfl rfl hwa.1 (ps_le hwa.2 e1 e2) ?_ ?_
      ·
       refine xh6 xj4 ⟨rfl,trivial⟩ trivial trivial rfl (wl_nil ?_)
       refine A10 ?_
       exact kF ((m+1,j+1)) ⟨(by dsimp only;exact ⟨by omega,by rw [hwy,hj]⟩),(by dsimp only;omega)⟩ (hh:=((SubK.consI rfl ImpK.refl) ((SubK.consI rfl ImpK.refl) ((SubK.consI rfl ImpK.refl) ((SubK.consI rfl ImpK.refl) ((SubK.consI rfl ImpK.refl) SubK.nil))))))
      ·
       refine xh6 xj4 ⟨rfl,trivial⟩ trivial trivial rfl (wl_nil ?_)
       refine A7 ?_
       exact E_it hB rfl trivial rfl (.inl rfl) rfl (.inr ⟨j,hwa.1,rfl⟩)
theorem c_WindowsN (l:List Tst) (p q n:Int) (hD: ∀s∈l,s.v.f.dig) (hl:l.length≤200000):
  CtN Tryz.prog 16 [tKG KL (tL 8 true tTs l),tI p,tI q,tI n] (fun nw=>tT [tG (up nw) (tL 1 false tI (winR l p q n).1),tI (winR l p q n).2]):=by
 refine CtN.intro Tryz.func16 rfl Tryz.ntmps16 rfl ?_
 intro w F
 refine A9 ?_
 refine R1 (d_moveG) rfl ?_
 refine A2 ?_
 refine R3 (x3 (xq8 l p q hD) fi33 rfl) rfl rfl rfl ?_
 refine A2 ?_
 refine RGcase (t:=17) rfl (fun h85=> ?_) (fun h85=> ?_)
 ·
  have hk:askP l p q=false:=by simpa using h85
  refine A15 ?_
  exact xc5 Plain.mk' rfl rfl rfl (leNilG (by rw [winR,if_neg (fun h=>by have:=h.1;rw [hk] at this;cases this)])) (Le.int (by rw [winR,if_neg (fun h=>by have:=h.1;rw [hk] at this;cases this)]))
 ·
  have hk:askP l p q=true:=by simpa using h85
  have h:=xj3 (xg9.1 hk).1
  have hk2:=(xg9.1 hk).2
  refine A1 ?_
  refine RGon h85 rfl (x3 (xu9 n) fi34 rfl) rfl ⟨rfl,trivial⟩ trivial trivial ?_
  refine A4 ?_
  refine xc0 rfl (fun h85_2=> ?_) (fun h85_2=> ?_)
  ·
   have hn0: ¬(1≤n∧n≤1200):=by
    have h1:=h85_2
    simp at h1;omega
   refine A8 ?_
   exact xc5 Plain.mk' rfl rfl rfl (leNilG (by rw [winR,if_neg (fun h=>hn0 h.2)])) (Le.int (by rw [winR,if_neg (fun h=>hn0 h.2)]))
  ·
   have hn0:1≤n∧n≤1200:=by simpa using h85_2
   have hok:lenOk l p q n:=⟨hk,hn0⟩
   obtain ⟨k0,rfl⟩: ∃k0:Nat,n=k0:=⟨n.toNat,by omega⟩
   have hn1:1≤k0:=by omega
   have hn2:k0≤1200:=by omega
   refine A4 ?_
   refine RE (x5 (k:=10) (n:=1) (agg:=false) znI.1 znI.2 rfl) trivial trivial ⟨rfl,trivial⟩ ?_
   refine A4 ?_
   refine C_nilC (q:=10) 60 3 1 false 0 rfl rfl rfl rfl (fun _=>rfl) rfl rfl ?_
   refine A5 ?_
   refine RE (xf0 (fun j=>cond (Nat.beq j 6) 2026 (cond (Nat.beq j 5) 1026 (cond (Nat.beq j 4) 26 (3026)))) (xu4 l p q k0) fi35 rfl (krN (ρ:=fun j=>cond (Nat.beq j 6) 2026 (cond (Nat.beq j 5) 1026 (cond (Nat.beq j 4) 26 (3026))))) (krC (ρ:=fun j=>cond (Nat.beq j 6) 2026 (cond (Nat.beq j 5) 1026 (cond (Nat.beq j 4) 26 (3026)))) (k:=4) rfl (krC (ρ:=fun j=>cond (Nat.beq j 6) 2026 (cond (Nat.beq j 5) 1026 (cond (Nat.beq j 4) 26 (3026)))) (k:=7) rfl (krC (ρ:=fun j=>cond (Nat.beq j 6) 2026 (cond (Nat.beq j 5) 1026 (cond (Nat.beq j 4) 26 (3026)))) (k:=5) rfl (krC (ρ:=fun j=>cond (Nat.beq j 6) 2026 (cond (Nat.beq j 5) 1026 (cond (Nat.beq j 4) 26 (3026)))) (k:=6) rfl (krN (ρ:=fun j=>cond (Nat.beq j 6) 2026 (cond (Nat.beq j 5) 1026 (cond (Nat.beq j 4) 26 (3026))))))))) ⟨⟨rfl,(SupX.lit rfl)⟩,⟨rfl,(SupX.lit rfl)⟩,⟨rfl,(SupX.lit rfl)⟩,⟨rfl,(SupX.lit rfl)⟩,trivial⟩ rfl) ⟨rfl,rfl,rfl,rfl,trivial⟩ trivial ⟨rfl,rfl,rfl,rfl,trivial⟩ ?_
   refine A3 ?_
   refine C_range (caps:=[.ptr 4 0,.ptr 7 0,.ptr 5 0,.ptr 6 0]) (κ:=Empty) (fun j=>cond (Nat.beq j 7) 3026 (cond (Nat.beq j 6) 2026 (cond (Nat.beq j 5) 1026 (cond (Nat.beq j 4) 26 (j))))) rfl (fun _ h=>h) trivial (i_possibleR l p q k0 h hD hl hn1 hn2) fi55 rfl ⟨rfl,rfl,rfl,rfl,trivial⟩ rfl rfl (fun _ _=>rfl) (upd (fun _=>none) 10 (some (.own (.ptr 10 0)))) [10,60] [10] (Sub.cons rfl Sub.nil) (SupG.own rfl SupG.nil) rfl (lkOk rfl) (fun (k:Nat) (xs:List Int)=>xs=iL ((winT l p q k0).take k)) (fun (k:Nat) (xs:List Int)=>upd (upd (fun _=>none) 10 (some (⟨27,1,false,[.own (.sl 60 1 0 xs.length)]⟩))) 60 (some (⟨3,1,false,rV tI xs⟩))) (fun k x=>(SupH.cons rfl (supJ xd3) (SupH.cons rfl (supJL rfl) SupH.nil))) (fun k x y hy=>by simp only [List.mem_cons,List.not_mem_nil,or_false] at hy;rcases hy with rfl | rfl | rfl | rfl <;> rfl) (fun _ _=>False) (fun i=>i.elim) (fun _ _ h=>h.elim) ([]) rfl ((SubK.consI rfl ImpK.refl) ((SubK.consI rfl ImpK.refl) SubK.nil)) ?_ ?_ ?_
   ·
    intro D lp o1 o2 O W lη lb V0 k xs hk hI
    have hwl:=win_len (l:=l) (p:=p) (q:=q) (n:=k0)
    have hxl:xs.length≤2154:=by rw [hI,xo8,List.length_take];omega
    apply rnd_mk
    ·
     refine A1 ?_
     refine RE (x5 (k:=11) (n:=3) (agg:=true) zr68.1 zr68.2 rfl) trivial trivial ⟨rfl,trivial⟩ ?_
     refine A2 ?_
     exact K_thenF fun _ _ h=>h
    ·
     refine A2 ?_
     refine RE (xd8 (ts:=[.own (.sl 60 1 0 xs.length)]) (0) ti27 rfl rfl) ⟨rfl,trivial⟩ ⟨rfl,trivial⟩ trivial ?_
     refine A2 ?_
     refine R1 (xc6 (n:=1) (f:=fun n:Int=>tI n) [(((winT l p q k0).getD k 0):Int)] Tryz.underlying27 el3 zf3 rfl (fun _=>inferInstance) rfl rfl rfl) rfl (RE (xc2 (k:=60) (k':=32) (f:=fun n:Int=>tI n) (ys:=[(((winT l p q k0).getD k 0):Int)]) (ts':=rV tI (xs++[(((winT l p q k0).getD k 0):Int)])) Tryz.underlying27 el3 zf3 rfl rfl (fun _=>inferInstance) xg3 (by simp;omega) (by simp;omega) (by simp [rV]) (n':=xs.length+1) rfl) ⟨rfl,rfl,trivial⟩ ⟨rfl,trivial⟩ ⟨rfl,trivial⟩ (RE (xc3 (es:=1) (agg:=false) (e:= .own (.sl 32 1 0 (xs.length+1))) (0) ti27 rfl rfl rfl) ⟨rfl,rfl,trivial⟩ ⟨rfl,trivial⟩ trivial ?_))
     refine A2 ?_
     exact K_ren (g':=fun _=>none) [10,60] (fun j=>cond (Nat.beq j 60) 32 (j)) SubR.nil ((SubKR.consI rfl (ImpK.of xf4.symm)) ((SubKR.consI rfl (ImpK.of (by rw [List.length_append];rfl))) SubKR.nil)) SupG.nil (SupH.cons rfl (supJ xd3) (SupH.cons rfl (supJL rfl) SupH.nil)) (lkOk rfl) rfl rfl (fun _ h=>by cases h) (K_rnd ((xs++[(((winT l p q k0).getD k 0):Int)])) (by rw [xu2 hk,hI];simp [iL]) SubK.refl (SupH.cons rfl (supJ xd3) (SupH.cons rfl (supJL rfl) SupH.nil)) (lkOk rfl))
   ·
    intro D hD xs hI
    rw [List.take_length] at hI
    refine A4 ?_
    refine RE (Does.giveLN (up w.heap.size) (fun _ h=>h) (fun _=>Free.E) (k:=60) (es:=1) (off:=0) (len:=xs.length) (xs:=xs) (f:=tI) (ts:=rV tI xs) (xd8 (ts:=[.own (.sl 60 1 0 xs.length)]) (0) ti27 rfl rfl) (fun _ h=>h) (xn8 rfl) rfl) ⟨rfl,trivial⟩ ⟨rfl,rfl,trivial⟩ trivial ?_
    refine A5 ?_
    exact xc5 (Plain.loop Plain.mk' hD) rfl rfl rfl (Le.of (by rw [winR,if_pos hok,Int.toNat_natCast,hI])) (Le.int (by rw [winR,if_pos hok]))
   ·
    intro D hD e i;exact i.elim
def bsT (l:List Tst) (p q:Int) (n:Nat):Option (Option Nat):=bsL l n (winT l p q n)
def wO (o:Option (Option Nat)):Option Nat:=o.getD none
def fW (l:List Tst) (n:Nat) (o:Option Nat):Fr:=match o with
 | none=>fr0
 | some k=>fr (avV l n k)
def eW (o:Option (Option Nat)):Int:=match o with
 | none=>3
 | some none=>6
 | some (some _)=>0
theorem fW_is {l:List Tst} {n k:Nat} {x:Rat} (h:avO l (startI k) (startI (k+n))=some x):sumF (avO l (startI k) (startI (k+n)))=fW l n (some k):=by rw [fW,avV,h];rfl
theorem avV_short {l:List Tst} {n j:Nat} {ks:List Nat} (h:bsL l n ks=some (some j)):short (avV l n j):=by
 obtain ⟨_,x,hx⟩:=bsL_mem ks h
 rw [avV,hx];exact avO_short hx
theorem c_FCmpA {o:Option Rat} {x:Rat} (ho:o=some x) (hx:short x) (y:Rat) (hy:short y):Ct Tryz.prog 84 [tFr (sumF o),tFr (fr y)] (tI (cmpQ x y)):=by
 rw [ho];exact c_FCmp x y hx hy
theorem c_best1N (nw:Nat) (l:List Tst) (h:payR l=true) (hD: ∀s∈l,s.v.f.dig) (hl:l.length≤200000) (m:Int) (x y:Int) (hx:0≤x) (hxy:x < y) (hy:y≤65536):
  CtGN Tryz.prog nw 58 [(20,⟨22,1,false,[.val (tKG KL (tL 8 true tTs l))]⟩)] [.val (tWin m x y),.own (.ptr 20 0)] (.val (tT [tG (up nw) (tFr (sumF (avO l x y))),tI (sumE (avO l x y))])) [(20,⟨22,1,false,[.val (tKG KL (tL 8 true tTs l))]⟩)] []:=by
 refine CtGN.intro [20] Tryz.func58 rfl Tryz.ntmps58 rfl rfl ⟨⟨rfl,(SupX.lit rfl)⟩,trivial⟩ ?_
 intro w F η hnw
 refine A3 ?_
 refine RE (x5 (k:=3) (n:=4) (agg:=true) zr33.1 zr33.2 rfl) trivial trivial ⟨rfl,trivial⟩ ?_
 refine A5 ?_
 refine RE (d_loadG ti22) ⟨rfl,trivial⟩ ⟨rfl,trivial⟩ trivial ?_
 refine A4 ?_
 refine R3 (xe9 (ts:=[_,_,_]) (r:=tT [tG (up nw) _,_]) (c_averageN l x y h hD hl hx hxy hy) fi49 (fun m hm=>le_T ⟨xi2 (Nat.le_trans hnw hm),Le.refl,trivial⟩) ⟨Le.refl,Le.refl,Le.refl,trivial⟩ rfl) rfl rfl rfl ?_
 refine A7 ?_
 exact xs2 LentC.mk' (rs:=[.cell 3 33,.tmp 4]) rfl rfl ⟨⟨_,_,_,_,_,rfl,rfl,ti33,Le.refl⟩,⟨_,rfl,Le.refl⟩,trivial⟩ ⟨rfl,trivial⟩ ⟨⟨rfl,(SupX.lit rfl)⟩,trivial⟩ rfl
theorem c_greatestN (nw:Nat) (l:List Tst) (p q:Int) (n:Nat) (h:payR l=true) (hD: ∀s∈l,s.v.f.dig) (hl:l.length≤200000) (hp:0≤p) (hq:q≤65536) (hn1:1≤n) (hn2:n≤1200):
  CtGN Tryz.prog nw 57 [(104,⟨22,1,false,[.val (tKG KL (tL 8 true tTs l))]⟩),(107,⟨3,1,false,[.val (tI (n:Int))]⟩),(105,⟨3,1,false,[.val (tI p)]⟩),(106,⟨3,1,false,[.val (tI q)]⟩),(120,⟨22,1,false,[.val (tKG KL (tL 8 true tTs l))]⟩)] [.own (.fn 55 [.ptr 104 0,.ptr 107 0,.ptr 105 0,.ptr 106 0]),.own (.fn 58 [.ptr 120 0])] (.val (tT [tWo n (wO (bsT l p q n)),tG (up nw) (tFr (fW l n (wO (bsT l p q n)))),tI (eW (bsT l p q n))])) [] []:=by
 have ht:=xj3 h
 refine CtGN.intro [104,107,105,106,120] Tryz.func57 rfl Tryz.ntmps57 rfl rfl ⟨⟨rfl,(SupX.lit rfl)⟩,⟨rfl,(SupX.lit rfl)⟩,⟨rfl,(SupX.lit rfl)⟩,⟨rfl,(SupX.lit rfl)⟩,⟨rfl,(SupX.lit rfl)⟩,trivial⟩ ?_
 intro w F η hnw
 refine A3 ?_
 refine RE (x5 (k:=4) (n:=3) (agg:=true) zr68.1 zr68.2 rfl) trivial trivial ⟨rfl,trivial⟩ (RE (x5 (k:=5) (n:=4) (agg:=true) zr33.1 zr33.2 rfl) trivial trivial ⟨rfl,trivial⟩ (RE (x5 (k:=6) (n:=1) (agg:=false) zr45.1 zr45.2 rfl) trivial trivial ⟨rfl,trivial⟩ ?_))
 refine A4 ?_
 refine RE (x5 (k:=7) (n:=3) (agg:=true) zr68.1 zr68.2 rfl) trivial trivial ⟨rfl,trivial⟩ (RE (x5 (k:=8) (n:=3) (agg:=true) zr68.1 zr68.2 rfl) trivial trivial ⟨rfl,trivial⟩ ?_)
 refine A4 ?_
 refine RE (x5 (k:=9) (n:=4) (agg:=true) zr33.1 zr33.2 rfl) trivial trivial ⟨rfl,trivial⟩ ?_
 refine A4 ?_
 refine RE (x5 (k:=10) (n:=1) (agg:=false) zr4.1 zr4.2 rfl) trivial trivial ⟨rfl,trivial⟩ ?_
 refine A10 ?_
 refine C_rangeW (caps:=[.ptr 4 0,.ptr 7 0,.ptr 5 0,.ptr 6 0]) (κ:=Unit) (fun j=>cond (Nat.beq j 7) 107 (cond (Nat.beq j 6) 106 (cond (Nat.beq j 5) 105 (cond (Nat.beq j 4) 104 (j))))) rfl (fun _ h=>h) trivial (i_possibleR l p q n ht hD hl hn1 hn2) fi55 rfl ⟨rfl,rfl,rfl,rfl,trivial⟩ rfl rfl (fun _ _=>rfl) (upd (upd (upd (upd (upd (upd (upd (upd (fun _=>none) 3 (some (.own (.ptr 3 0)))) 4 (some (.own (.ptr 4 0)))) 5 (some (.own (.ptr 5 0)))) 6 (some (.own (.ptr 6 0)))) 7 (some (.own (.ptr 7 0)))) 8 (some (.own (.ptr 8 0)))) 9 (some (.own (.ptr 9 0)))) 10 (some (.own (.ptr 10 0)))) [3,4,5,6,7,8,9,10,104,107,105,106,120] [3,4,5,6,7,8,9,10] (Sub.cons rfl (Sub.cons rfl (Sub.cons rfl (Sub.cons rfl (Sub.cons rfl (Sub.cons rfl (Sub.cons rfl (Sub.cons rfl Sub.nil)))))))) (SupG.own rfl (SupG.own rfl (SupG.own rfl (SupG.own rfl (SupG.own rfl (SupG.own rfl (SupG.own rfl (SupG.own rfl SupG.nil)))))))) rfl (lkOk rfl) (fun (k:Nat) (o:Option Nat)=>bsL l n ((winT l p q n).take k)=some o) (fun (k:Nat) (o:Option Nat)=>upd (upd (upd (upd (upd (upd (upd (upd (upd (fun _=>none) 3 (some (⟨87,1,false,[.own (.fn 58 [.ptr 120 0])]⟩))) 4 (some (⟨68,3,true,[.val (tWin 0 0 0)]⟩))) 5 (some (⟨33,4,true,[.val (tFr fr0)]⟩))) 6 (some (⟨45,1,false,[.val (tI 0)]⟩))) 7 (some (⟨68,3,true,[.val (tWin 0 0 0)]⟩))) 8 (some (⟨68,3,true,[.val (tWo n o)]⟩))) 9 (some (⟨33,4,true,[.val (tG (up nw) (tFr (fW l n o)))]⟩))) 10 (some (⟨4,1,false,[.val (tB o.isSome)]⟩))) 120 (some (⟨22,1,false,[.val (tKG KL (tL 8 true tTs l))]⟩))) (fun k x=>(SupH.cons rfl (supJL rfl) (SupH.cons rfl (supJL rfl) (SupH.cons rfl (supJL rfl) (SupH.cons rfl (supJL rfl) (SupH.cons rfl (supJL rfl) (SupH.cons rfl (supJL rfl) (SupH.cons rfl (supJL rfl) (SupH.cons rfl (supJL rfl) (SupH.cons rfl (supJL rfl) SupH.nil)))))))))) (fun k x y hy=>by simp only [List.mem_cons,List.not_mem_nil,or_false] at hy;rcases hy with rfl | rfl | rfl | rfl <;> rfl) (fun e (_:Unit)=>e= .ret∧bsT l p q n=none) (fun (_:Unit)=>upd (upd (upd (fun _=>none) 4 (some (⟨68,3,true,[.val (tWin 0 0 0)]⟩))) 5 (some (⟨33,4,true,[.val (tFr fr0)]⟩))) 6 (some (⟨45,1,false,[.val (tI 3)]⟩))) (fun _ _ h=> .inl h.1) (none) rfl ((SubK.consI rfl ImpK.refl) ((SubK.consI rfl ImpK.refl) ((SubK.consI rfl (ImpK.one (Imp.le fr0N))) ((SubK.consI rfl ImpK.refl) ((SubK.consI rfl ImpK.refl) ((SubK.consI rfl ImpK.refl) ((SubK.consI rfl ImpK.refl) ((SubK.consI rfl ImpK.refl) ((SubK.consI rfl ImpK.refl) SubK.nil))))))))) ?_ ?_ ?_
 ·
  intro D lp o1 o2 O W lη lb V0 k o hk hI hWs
  have hwm:=getD_memN hk
  have hr:=win_rng hp hq hn1 hwm
  have hnx:=bsL_snoc (l:=l) (n:=n) (k:=((winT l p q n).getD k 0)) (ks:=(winT l p q n).take k)
  rw [←xu2 hk,hI] at hnx
  apply rnd_mk
  ·
   refine A1 ?_
   refine RE (x5 (k:=11) (n:=3) (agg:=true) zr68.1 zr68.2 rfl) trivial trivial ⟨rfl,trivial⟩ ?_
   refine A2 ?_
   exact K_thenF fun _ _ h=>h
  ·
   refine A5 ?_
   refine RE (d_callCXN (ps:=[.val (tWn n ((winT l p q n).getD k 0))]) (caps:=[.ptr 20 0]) (fun _=>120) (c_best1N nw l h hD hl ((winT l p q n).getD k 0) (startI ((winT l p q n).getD k 0)) (startI (((winT l p q n).getD k 0)+n)) hr.1 hr.2.1 hr.2.2) fi58 (Nat.le_trans hnw hWs) rfl (krC (ρ:=fun _=>120) (k:=20) rfl (krN (ρ:=fun _=>120))) (krC (ρ:=fun _=>120) (k:=20) rfl (krN (ρ:=fun _=>120))) ⟨⟨rfl,(SupX.lit rfl)⟩,trivial⟩ rfl) ⟨rfl,rfl,trivial⟩ ⟨rfl,trivial⟩ trivial ?_
   refine A3 ?_
   refine RE (x5 (k:=12) (n:=4) (agg:=true) zr33.1 zr33.2 rfl) trivial trivial ⟨rfl,trivial⟩ ?_
   refine A11 ?_
   refine x9 rfl (fun h103=> ?_) (fun h103=> ?_)
   ·
    have hs:=sumE_none h103
    refine A3 ?_
    refine R0 (xa7 (r:=tS [⟨2,true,(tS [⟨1,false,(tE (.bool false))⟩,⟨1,false,(tLm [])⟩])⟩,⟨2,true,(tS [⟨1,false,(tE (.bool false))⟩,⟨1,false,(tLm [])⟩])⟩]) (ts:=[]) bu33 zr33.2 Le.refl) ?_
    refine A9 ?_
    exact K_rndX (()) (.inl rfl) (⟨rfl,bsL_stop (i:=k+1) (by rw [hnx];exact bs1_N hs)⟩) ((SubK.consI rfl (ImpK.of (by rw [hs];rfl))) ((SubK.consI rfl ImpK.refl) ((SubK.consI rfl ImpK.refl) SubK.nil))) (SupH.cons rfl (supJL rfl) (SupH.cons rfl (supJL rfl) (SupH.cons rfl (supJL rfl) SupH.nil))) (lkOk rfl)
   ·
    obtain ⟨x,hx,hxs⟩:=xu6 (fun q h=>avO_short h) (Decidable.not_not.1 h103)
    refine A7 ?_
    refine RGcase (t:=29) rfl (fun h106=> ?_) (fun h106=> ?_)
    ·
     have ho:o=none:=by simpa using h106
     subst ho
     refine A16 ?_
     exact K_rnd ((some ((winT l p q n).getD k 0))) (by rw [hnx];exact bs1_1 hx) ((SubK.consI rfl ImpK.refl) ((SubK.consI rfl ImpK.refl) ((SubK.consI rfl (ImpK.of (by rw [fW_is hx];rfl))) ((SubK.consI rfl ImpK.refl) ((SubK.consI rfl ImpK.refl) ((SubK.consI rfl ImpK.refl) ((SubK.consI rfl ImpK.refl) ((SubK.consI rfl ImpK.refl) ((SubK.consI rfl ImpK.refl) SubK.nil))))))))) (SupH.cons rfl (supJL rfl) (SupH.cons rfl (supJL rfl) (SupH.cons rfl (supJL rfl) (SupH.cons rfl (supJL rfl) (SupH.cons rfl (supJL rfl) (SupH.cons rfl (supJL rfl) (SupH.cons rfl (supJL rfl) (SupH.cons rfl (supJL rfl) (SupH.cons rfl (supJL rfl) SupH.nil))))))))) (lkOk rfl)
    ·
     have ho2:o.isSome=true:=by simpa using h106
     obtain ⟨m,ho⟩:=Option.isSome_iff_exists.1 ho2
     subst ho
     have hmm:=avV_short hI
     refine A2 ?_
     refine RGon h106 rfl (xj0 (ts:=[_,_]) (c_FCmpA hx hxs (avV l n m) hmm) fi84 rfl ⟨tG_le,tG_le,trivial⟩) rfl ⟨rfl,rfl,trivial⟩ trivial trivial ?_
     refine A4 ?_
     refine x9 rfl (fun h106_2=> ?_) (fun h106_2=> ?_)
     ·
      refine A8 ?_
      exact K_rnd ((some ((winT l p q n).getD k 0))) (by rw [hnx,bs1_2 hx];exact if_pos (cmp_gt.1 h106_2)) ((SubK.consI rfl ImpK.refl) ((SubK.consI rfl ImpK.refl) ((SubK.consI rfl (ImpK.of (by rw [fW_is hx];rfl))) ((SubK.consI rfl ImpK.refl) ((SubK.consI rfl ImpK.refl) ((SubK.consI rfl ImpK.refl) ((SubK.consI rfl ImpK.refl) ((SubK.consI rfl ImpK.refl) ((SubK.consI rfl ImpK.refl) SubK.nil))))))))) (SupH.cons rfl (supJL rfl) (SupH.cons rfl (supJL rfl) (SupH.cons rfl (supJL rfl) (SupH.cons rfl (supJL rfl) (SupH.cons rfl (supJL rfl) (SupH.cons rfl (supJL rfl) (SupH.cons rfl (supJL rfl) (SupH.cons rfl (supJL rfl) (SupH.cons rfl (supJL rfl) SupH.nil))))))))) (lkOk rfl)
     ·
      refine A2 ?_
      exact K_rnd ((some m)) (by rw [hnx,bs1_2 hx];exact if_neg (fun hh=>h106_2 (cmp_gt.2 hh))) ((SubK.consI rfl ImpK.refl) ((SubK.consI rfl ImpK.refl) ((SubK.consI rfl ImpK.refl) ((SubK.consI rfl ImpK.refl) ((SubK.consI rfl ImpK.refl) ((SubK.consI rfl ImpK.refl) ((SubK.consI rfl ImpK.refl) ((SubK.consI rfl ImpK.refl) ((SubK.consI rfl ImpK.refl) SubK.nil))))))))) (SupH.cons rfl (supJL rfl) (SupH.cons rfl (supJL rfl) (SupH.cons rfl (supJL rfl) (SupH.cons rfl (supJL rfl) (SupH.cons rfl (supJL rfl) (SupH.cons rfl (supJL rfl) (SupH.cons rfl (supJL rfl) (SupH.cons rfl (supJL rfl) (SupH.cons rfl (supJL rfl) SupH.nil))))))))) (lkOk rfl)
 ·
  intro D hD o hI
  rw [List.take_length] at hI
  have hI:bsT l p q n=some o:=hI
  refine A9 ?_
  refine xc0 rfl (fun h110=> ?_) (fun h110=> ?_)
  ·
   have ho:o=none:=by simpa using h110
   subst ho
   refine A3 ?_
   refine R0 (xa7 (r:=tS [⟨2,true,(tS [⟨1,false,(tE (.bool false))⟩,⟨1,false,(tLm [])⟩])⟩,⟨2,true,(tS [⟨1,false,(tE (.bool false))⟩,⟨1,false,(tLm [])⟩])⟩]) (ts:=[]) bu33 zr33.2 Le.refl) ?_
   refine A7 ?_
   exact xs2 (LentC.loop LentC.mk' hD) (rs:=[.cell 4 68,.cell 5 33,.cell 6 45]) rfl rfl ⟨⟨_,_,_,_,_,rfl,rfl,ti68,(Le.of (by rw [hI];rfl))⟩,⟨_,_,_,_,_,rfl,rfl,ti33,(fr0L (by rw [hI];rfl))⟩,⟨_,_,_,_,_,rfl,rfl,ti45,(Le.int (by rw [hI];rfl))⟩,trivial⟩ trivial trivial rfl
  ·
   have ho2:o.isSome=true:=by simpa using h110
   obtain ⟨m,ho⟩:=Option.isSome_iff_exists.1 ho2
   subst ho
   refine A12 ?_
   exact xs2 (LentC.loop LentC.mk' hD) (rs:=[.cell 4 68,.cell 5 33,.cell 6 45]) rfl rfl ⟨⟨_,_,_,_,_,rfl,rfl,ti68,(Le.of (by rw [hI];rfl))⟩,⟨_,_,_,_,_,rfl,rfl,ti33,(Le.of (by rw [hI];rfl))⟩,⟨_,_,_,_,_,rfl,rfl,ti45,(Le.int (by rw [hI];rfl))⟩,trivial⟩ trivial trivial rfl
 ·
  intro D hD e i hi
  obtain ⟨rfl,hx⟩:=hi
  refine A2 ?_
  exact xs2 (LentC.loop LentC.mk' hD) (rs:=[.cell 4 68,.cell 5 33,.cell 6 45]) rfl rfl ⟨⟨_,_,_,_,_,rfl,rfl,ti68,(Le.of (by rw [hx];rfl))⟩,⟨_,_,_,_,_,rfl,rfl,ti33,(fr0L (by rw [hx];rfl))⟩,⟨_,_,_,_,_,rfl,rfl,ti45,(Le.int (by rw [hx];rfl))⟩,trivial⟩ trivial trivial rfl
def bOR (l:List Tst) (p q n:Int):Option Nat:=if lenOk l p q n then wO (bsT l p q n.toNat) else none
def bER (l:List Tst) (p q n:Int):Int:=if lenOk l p q n then eW (bsT l p q n.toNat) else 2
theorem c_bestN (l:List Tst) (p q n:Int) (hD: ∀s∈l,s.v.f.dig) (hl:l.length≤200000):
  CtN Tryz.prog 36 [tKG KL (tL 8 true tTs l),tI p,tI q,tI n] (fun nw=>tT [tWo n.toNat (bOR l p q n),tG (up nw) (tFr (fW l n.toNat (bOR l p q n))),tI (bER l p q n)]):=by
 refine CtN.intro Tryz.func36 rfl Tryz.ntmps36 rfl ?_
 intro w F
 refine A3 ?_
 refine RE (x5 (k:=8) (n:=3) (agg:=true) zr68.1 zr68.2 rfl) trivial trivial ⟨rfl,trivial⟩ (RE (x5 (k:=9) (n:=4) (agg:=true) zr33.1 zr33.2 rfl) trivial trivial ⟨rfl,trivial⟩ ?_)
 refine A6 ?_
 refine RE (d_loadG ti22) ⟨rfl,trivial⟩ ⟨rfl,trivial⟩ trivial ?_
 refine A2 ?_
 refine R3 (x3 (xq8 l p q hD) fi33 rfl) rfl rfl rfl ?_
 refine A2 ?_
 refine RGcase (t:=16) rfl (fun h118=> ?_) (fun h118=> ?_)
 ·
  have hk:askP l p q=false:=by simpa using h118
  refine A9 ?_
  refine R0 (xa7 (r:=tS [⟨1,false,(tE (.int .i64 0))⟩,⟨1,false,(tE (.int .i64 0))⟩,⟨1,false,(tE (.int .i64 0))⟩]) (ts:=[]) bu68 zr68.2 Le.refl) (R0 (xa7 (r:=tS [⟨2,true,(tS [⟨1,false,(tE (.bool false))⟩,⟨1,false,(tLm [])⟩])⟩,⟨2,true,(tS [⟨1,false,(tE (.bool false))⟩,⟨1,false,(tLm [])⟩])⟩]) (ts:=[]) bu33 zr33.2 Le.refl) ?_)
  refine A7 ?_
  exact xa8 Plain.mk' (rs:=[.cell 8 68,.cell 9 33,.tmp 10]) rfl rfl ⟨⟨_,_,_,_,_,rfl,rfl,ti68,(Le.of (by rw [bOR,if_neg (fun h=>by have:=h.1;rw [hk] at this;cases this)];rfl))⟩,⟨_,_,_,_,_,rfl,rfl,ti33,(fr0L (by rw [bOR,if_neg (fun h=>by have:=h.1;rw [hk] at this;cases this)];rfl))⟩,⟨_,rfl,(Le.int (by rw [bER,if_neg (fun h=>by have:=h.1;rw [hk] at this;cases this)]))⟩,trivial⟩
 ·
  have hk:askP l p q=true:=by simpa using h118
  have h:=(xg9.1 hk).1
  have hk2:=(xg9.1 hk).2
  refine A1 ?_
  refine RGon h118 rfl (x3 (xu9 n) fi34 rfl) rfl ⟨rfl,trivial⟩ trivial trivial ?_
  refine A4 ?_
  refine xc0 rfl (fun h118_2=> ?_) (fun h118_2=> ?_)
  ·
   have hn0: ¬(1≤n∧n≤1200):=by
    have h1:=h118_2
    simp at h1;omega
   refine A2 ?_
   refine R0 (xa7 (r:=tS [⟨1,false,(tE (.int .i64 0))⟩,⟨1,false,(tE (.int .i64 0))⟩,⟨1,false,(tE (.int .i64 0))⟩]) (ts:=[]) bu68 zr68.2 Le.refl) (R0 (xa7 (r:=tS [⟨2,true,(tS [⟨1,false,(tE (.bool false))⟩,⟨1,false,(tLm [])⟩])⟩,⟨2,true,(tS [⟨1,false,(tE (.bool false))⟩,⟨1,false,(tLm [])⟩])⟩]) (ts:=[]) bu33 zr33.2 Le.refl) ?_)
   refine A7 ?_
   exact xa8 Plain.mk' (rs:=[.cell 8 68,.cell 9 33,.tmp 10]) rfl rfl ⟨⟨_,_,_,_,_,rfl,rfl,ti68,(Le.of (by rw [bOR,if_neg (fun h=>hn0 h.2)];rfl))⟩,⟨_,_,_,_,_,rfl,rfl,ti33,(fr0L (by rw [bOR,if_neg (fun h=>hn0 h.2)];rfl))⟩,⟨_,rfl,(Le.int (by rw [bER,if_neg (fun h=>hn0 h.2)]))⟩,trivial⟩
  ·
   have hn0:1≤n∧n≤1200:=by simpa using h118_2
   have hok:lenOk l p q n:=⟨hk,hn0⟩
   obtain ⟨k0,rfl⟩: ∃k0:Nat,n=k0:=⟨n.toNat,by omega⟩
   have hn1:1≤k0:=by omega
   have hn2:k0≤1200:=by omega
   refine A8 ?_
   refine RE (xf0 (fun j=>cond (Nat.beq j 6) 2027 (cond (Nat.beq j 5) 1027 (cond (Nat.beq j 4) 27 (3027)))) (xu4 l p q k0) fi35 rfl (krN (ρ:=fun j=>cond (Nat.beq j 6) 2027 (cond (Nat.beq j 5) 1027 (cond (Nat.beq j 4) 27 (3027))))) (krC (ρ:=fun j=>cond (Nat.beq j 6) 2027 (cond (Nat.beq j 5) 1027 (cond (Nat.beq j 4) 27 (3027)))) (k:=4) rfl (krC (ρ:=fun j=>cond (Nat.beq j 6) 2027 (cond (Nat.beq j 5) 1027 (cond (Nat.beq j 4) 27 (3027)))) (k:=7) rfl (krC (ρ:=fun j=>cond (Nat.beq j 6) 2027 (cond (Nat.beq j 5) 1027 (cond (Nat.beq j 4) 27 (3027)))) (k:=5) rfl (krC (ρ:=fun j=>cond (Nat.beq j 6) 2027 (cond (Nat.beq j 5) 1027 (cond (Nat.beq j 4) 27 (3027)))) (k:=6) rfl (krN (ρ:=fun j=>cond (Nat.beq j 6) 2027 (cond (Nat.beq j 5) 1027 (cond (Nat.beq j 4) 27 (3027))))))))) ⟨⟨rfl,(SupX.lit rfl)⟩,⟨rfl,(SupX.lit rfl)⟩,⟨rfl,(SupX.lit rfl)⟩,⟨rfl,(SupX.lit rfl)⟩,trivial⟩ rfl) ⟨rfl,rfl,rfl,rfl,trivial⟩ trivial ⟨rfl,rfl,rfl,rfl,trivial⟩ (R1 (xh9 (ps:=[.ptr 4 0]) rfl) rfl (RE (d_callGN (fun j=>cond (Nat.beq j 107) 3027 (cond (Nat.beq j 106) 2027 (cond (Nat.beq j 105) 1027 (cond (Nat.beq j 104) 27 (4))))) (c_greatestN w.heap.size l p q k0 h hD hl (by omega) (by omega) hn1 hn2) fi57 (Nat.le_refl _) rfl (krC (ρ:=fun j=>cond (Nat.beq j 107) 3027 (cond (Nat.beq j 106) 2027 (cond (Nat.beq j 105) 1027 (cond (Nat.beq j 104) 27 (4))))) (k:=104) rfl (krC (ρ:=fun j=>cond (Nat.beq j 107) 3027 (cond (Nat.beq j 106) 2027 (cond (Nat.beq j 105) 1027 (cond (Nat.beq j 104) 27 (4))))) (k:=107) rfl (krC (ρ:=fun j=>cond (Nat.beq j 107) 3027 (cond (Nat.beq j 106) 2027 (cond (Nat.beq j 105) 1027 (cond (Nat.beq j 104) 27 (4))))) (k:=105) rfl (krC (ρ:=fun j=>cond (Nat.beq j 107) 3027 (cond (Nat.beq j 106) 2027 (cond (Nat.beq j 105) 1027 (cond (Nat.beq j 104) 27 (4))))) (k:=106) rfl (krC (ρ:=fun j=>cond (Nat.beq j 107) 3027 (cond (Nat.beq j 106) 2027 (cond (Nat.beq j 105) 1027 (cond (Nat.beq j 104) 27 (4))))) (k:=120) rfl (krN (ρ:=fun j=>cond (Nat.beq j 107) 3027 (cond (Nat.beq j 106) 2027 (cond (Nat.beq j 105) 1027 (cond (Nat.beq j 104) 27 (4))))))))))) (krN (ρ:=fun j=>cond (Nat.beq j 107) 3027 (cond (Nat.beq j 106) 2027 (cond (Nat.beq j 105) 1027 (cond (Nat.beq j 104) 27 (4)))))) trivial rfl) ⟨rfl,rfl,trivial⟩ ⟨rfl,rfl,rfl,rfl,rfl,trivial⟩ trivial ?_))
   refine A9 ?_
   exact xa8 Plain.mk' (rs:=[.cell 8 68,.cell 9 33,.tmp 10]) rfl rfl ⟨⟨_,_,_,_,_,rfl,rfl,ti68,(Le.of (by rw [bOR,if_pos hok,Int.toNat_natCast]))⟩,⟨_,_,_,_,_,rfl,rfl,ti33,(Le.of (by rw [bOR,if_pos hok,Int.toNat_natCast]))⟩,⟨_,rfl,(Le.int (by rw [bER,if_pos hok,Int.toNat_natCast]))⟩,trivial⟩
theorem c_WhenN (l:List Tst) (p q n:Int) (hD: ∀s∈l,s.v.f.dig) (hl:l.length≤200000):
  CtN Tryz.prog 17 [tKG KL (tL 8 true tTs l),tI p,tI q,tI n] (fun _=>tT [tI (wM (bOR l p q n)),tI (bER l p q n)]):=by
 refine CtN.intro Tryz.func17 rfl Tryz.ntmps17 rfl ?_
 intro w F
 refine A12 ?_
 refine RE (xe9 (ts:=[_,_,_,_]) (r:=tT [_,tG (up w.heap.size) _,_]) (c_bestN l p q n hD hl) fi36 (fun m hm=>le_T ⟨Le.refl,xi2 hm,Le.refl,trivial⟩) ⟨Le.refl,Le.refl,Le.refl,Le.refl,trivial⟩ rfl) ⟨rfl,rfl,rfl,rfl,trivial⟩ trivial trivial ?_
 refine A4 ?_
 refine RE (x5 (k:=10) (n:=3) (agg:=true) zr68.1 zr68.2 rfl) trivial trivial ⟨rfl,trivial⟩ (RE (x5 (k:=11) (n:=4) (agg:=true) zr33.1 zr33.2 rfl) trivial trivial ⟨rfl,trivial⟩ ?_)
 refine A15 ?_
 exact xc5 Plain.mk' rfl rfl rfl Le.refl Le.refl
theorem c_BestN (l:List Tst) (p q n:Int) (hD: ∀s∈l,s.v.f.dig) (hl:l.length≤200000):
  CtN Tryz.prog 18 [tKG KL (tL 8 true tTs l),tI p,tI q,tI n] (fun nw=>tT [tG (up nw) (tFr (fW l n.toNat (bOR l p q n))),tI (bER l p q n)]):=by
 refine CtN.intro Tryz.func18 rfl Tryz.ntmps18 rfl ?_
 intro w F
 refine A2 ?_
 refine RE (x5 (k:=8) (n:=4) (agg:=true) zr33.1 zr33.2 rfl) trivial trivial ⟨rfl,trivial⟩ ?_
 refine A9 ?_
 refine RE (xe9 (ts:=[_,_,_,_]) (r:=tT [_,tG (up w.heap.size) _,_]) (c_bestN l p q n hD hl) fi36 (fun m hm=>le_T ⟨Le.refl,xi2 hm,Le.refl,trivial⟩) ⟨Le.refl,Le.refl,Le.refl,Le.refl,trivial⟩ rfl) ⟨rfl,rfl,rfl,rfl,trivial⟩ trivial trivial ?_
 refine A4 ?_
 refine RE (x5 (k:=10) (n:=3) (agg:=true) zr68.1 zr68.2 rfl) trivial trivial ⟨rfl,trivial⟩ (RE (x5 (k:=11) (n:=4) (agg:=true) zr33.1 zr33.2 rfl) trivial trivial ⟨rfl,trivial⟩ ?_)
 refine A14 ?_
 exact xa8 Plain.mk' (rs:=[.cell 8 33,.tmp 9]) rfl rfl ⟨⟨_,_,_,_,_,rfl,rfl,ti33,Le.refl⟩,⟨_,rfl,Le.refl⟩,trivial⟩
instance fi64:FnI Tryz.prog 64:=⟨_,Tryz.func64,by kernel_rfl,rfl⟩
theorem c_R2OrderV (f g:Fr) (hf:f.dig) (hg:g.dig) (vf:f.valid=true) (vg:g.valid=true):Ct Tryz.prog 64 [tFr f,tFr g] (tI (cmpQ f.rat g.rat)):=by
 obtain ⟨e1,s1⟩:=Fr.of_valid' hf vf
 obtain ⟨e2,s2⟩:=Fr.of_valid' hg vg
 have h:=c_R2Order f.rat g.rat s1 s2
 rw [←e1,←e2] at h;exact h
def cmpV (f g:Fr):Int:=if f.valid=true∧g.valid=true then cmpQ f.rat g.rat else 0
theorem c_R2Cmp (f g:Fr) (hf:f.dig) (hg:g.dig):
  Ct Tryz.prog 42 [tFr f,tFr g] (tI (cmpV f g)):=by
 refine Ct.intro Tryz.func42 rfl Tryz.ntmps42 rfl ?_
 intro w F
 refine A11 ?_
 refine R1 (x3 (xu1 f hf.1 hf.2) fi63 rfl) rfl ?_
 refine A2 ?_
 refine RGcase (t:=8) rfl (fun h175=> ?_) (fun h175=> ?_)
 ·
  refine A14 ?_
  exact x4 Plain.mk' rfl rfl (Le.int (by rw [cmpV,if_neg (fun h=>by simp [h.1] at*)]))
 ·
  have vf:f.valid=true:=by simpa using h175
  refine A1 ?_
  refine RGon h175 rfl (x3 (xu1 g hg.1 hg.2) fi63 rfl) rfl ⟨rfl,trivial⟩ trivial trivial ?_
  refine A4 ?_
  refine xc0 rfl (fun h175_2=> ?_) (fun h175_2=> ?_)
  ·
   refine A7 ?_
   exact x4 Plain.mk' rfl rfl (Le.int (by rw [cmpV,if_neg (fun h=>by simp [h.1,h.2] at*)]))
  ·
   refine A6 ?_
   refine R2 (x3 (c_R2OrderV f g hf hg vf (by simpa using h175_2)) fi64 rfl) rfl rfl ?_
   refine A4 ?_
   exact x4 Plain.mk' rfl rfl (Le.int (by rw [cmpV,if_pos ⟨vf,by simpa using h175_2⟩]))
theorem c_R2CmpE {x:Fr} {q:Rat} (hx:x=fr q) (hq:short q) (f:Fr) (hF:f.dig) (hv:f.valid=true):Ct Tryz.prog 42 [tFr x,tFr f] (tI (cmpQ q f.rat)):=by
 have h:=c_R2Cmp (fr q) f ⟨xb6 x8 _,xb6 x8 _⟩ hF
 rw [cmpV,if_pos ⟨valid_fr hq,hv⟩,rat_fr,←hx] at h;exact h
instance fi7:FnI Tryz.prog 7:=⟨_,Tryz.func7,by kernel_rfl,rfl⟩
instance fi8:FnI Tryz.prog 8:=⟨_,Tryz.func8,by kernel_rfl,rfl⟩
instance fi19:FnI Tryz.prog 19:=⟨_,Tryz.func19,by kernel_rfl,rfl⟩
instance fi20:FnI Tryz.prog 20:=⟨_,Tryz.func20,by kernel_rfl,rfl⟩
instance fi39:FnI Tryz.prog 39:=⟨_,Tryz.func39,by kernel_rfl,rfl⟩
instance fi42:FnI Tryz.prog 42:=⟨_,Tryz.func42,by kernel_rfl,rfl⟩
instance fi59:FnI Tryz.prog 59:=⟨_,Tryz.func59,by kernel_rfl,rfl⟩
instance fi85:FnI Tryz.prog 85:=⟨_,Tryz.func85,by kernel_rfl,rfl⟩
instance fi86:FnI Tryz.prog 86:=⟨_,Tryz.func86,by kernel_rfl,rfl⟩
theorem leaps_step {y:Int} (_h:1≤y):leapsI y=leapsI (y - 1)+if leapI y=true then 1 else 0:=by
 simp only [leapsI,leapI,Bool.and_eq_true,Bool.or_eq_true,decide_eq_true_eq,Bool.not_eq_true',decide_eq_false_iff_not]
 split <;> omega
theorem fstE_bd (m:Int):0≤fstE m∧fstE m≤2:=by unfold fstE;split <;> decide
theorem win_stop {l:List Tst} {p q:Int} {n k:Nat} (hk:k≤2154) (h: ∀j,k≤j→j < 2154→ ¬okW l p q n j=true):winT l p q n=winP l p q n k:=by
 have: ∀m,k≤m→m≤2154→winP l p q n m=winP l p q n k:=fun m hm hm2=>by
  induction m with
  | zero=>rw [show k=0 by omega]
  | succ m ih=>
   rcases Nat.lt_or_ge m k with h1 | h1
   ·rw [show k=m+1 by omega]
   ·rw [xm6 (h m h1 (by omega)),ih h1 (by omega)]
 rw [winT,this 2154 hk (Nat.le_refl _)]
theorem win_far {l:List Tst} {p q:Int} {n k j:Nat} (h1:2154≤k+n∨q < startI (k+n)) (hj:k≤j): ¬okW l p q n j=true:=fun hw=>by
 simp only [okW,Bool.and_eq_true,decide_eq_true_eq] at hw
 rcases h1 with h1 | h1
 ·omega
 ·have:=start_mono (show k+n≤j+n by omega) (by omega);omega
theorem iL_snoc {l:List Tst} {p q:Int} {n k:Nat} (h:okW l p q n k=true):iL (winP l p q n k)++[(k:Int)]=iL (winP l p q n (k+1)):=by rw [xr1,if_pos h];simp [iL]
theorem winP_len {l:List Tst} {p q:Int} {n k:Nat}:(iL (winP l p q n k)).length≤k:=by
 rw [xo8]
 have:=List.length_filter_le (okW l p q n) (List.range k)
 rw [List.length_range] at this;exact this
theorem iL_get {ks:List Nat} {i:Nat}:(iL ks).getD i 0=((ks.getD i 0:Nat):Int):=by
 rw [iL,List.getD_eq_getElem?_getD,List.getElem?_map,List.getD_eq_getElem?_getD]
 cases ks[i]? <;> rfl
theorem okW_nC {l:List Tst} {p q:Int} {n k:Nat} (h1:k+n < 2154) (h2:p≤startI k) (h3:startI (k+n)≤q) (h4:nD l (startI k) (startI (k+n))=startI (k+n) - startI k):okW l p q n k=true:=by
 rw [okW,decide_eq_true h1,decide_eq_true h2,decide_eq_true h3,decide_eq_true h4];rfl
theorem okW_nD {l:List Tst} {p q:Int} {n k:Nat} (h:startI k < p∨nD l (startI k) (startI (k+n))≠startI (k+n) - startI k): ¬okW l p q n k=true:=fun hw=>by
 simp only [okW,Bool.and_eq_true,decide_eq_true_eq] at hw
 rcases h with h | h
 ·omega
 ·exact h hw.2
theorem c_R2CmpA {o:Option Rat} {x:Rat} (ho:o=some x) (hx:short x) (y:Rat) (hy:short y):Ct Tryz.prog 42 [tFr (sumF o),tFr (fr y)] (tI (cmpQ x y)):=by
 have h:=c_R2CmpE (x:=sumF o) (q:=x) (by rw [ho];rfl) hx (fr y) ⟨xb6 x8 _,xb6 x8 _⟩ (valid_fr hy)
 rw [rat_fr] at h;exact h
theorem c_SameIntsV (x:List Int):Ct Tryz.prog 23 [tL 1 false tI x,tL 1 false tI x] (tB true):=by
 have:=c_SameInts x x
 rw [decide_eq_true rfl] at this;exact this
theorem c_R3Leap (y:Int) (hy:0≤y):
  Ct Tryz.prog 86 [tI y] (tB (leapI y)):=by
 refine Ct.intro Tryz.func86 rfl Tryz.ntmps86 rfl ?_
 intro w F
 refine A9 ?_
 refine R2 (xi6 (by omega) (by omega)) rfl rfl ?_
 refine A3 ?_
 refine x9 rfl (fun h14=> ?_) (fun h14=> ?_)
 ·
  refine A7 ?_
  exact x4 Plain.mk' rfl rfl (Le.bool (by first | (simp [leapI, *];done) | (have h1:y%4=0:=(by omega);simp [leapI, *])))
 ·
  refine A5 ?_
  refine R2 (xi6 (by omega) (by omega)) rfl rfl ?_
  refine A2 ?_
  refine RGcaseD (t:=9) rfl (fun h17=> ?_) (fun h17=> ?_)
  ·
   refine A1 ?_
   refine RGon (decide_eq_true h17) rfl (xi6 (by omega) (by omega)) rfl ⟨rfl,rfl,trivial⟩ trivial trivial ?_
   refine A6 ?_
   exact x4 Plain.mk' rfl rfl (Le.bool (by first | (simp [leapI, *];done) | (have h1:y%4=0:=(by omega);simp [leapI, *])))
  ·
   refine A8 ?_
   exact x4 Plain.mk' rfl rfl (Le.bool (by first | (simp [leapI, *];done) | (have h1:y%4=0:=(by omega);simp [leapI, *])))
theorem c_R3Len (y:Int) (j:Nat) (hy:0≤y) (hj:j < 12):
  Ct Tryz.prog 85 [tI y,tI ((j:Int)+1)] (tI (lenI y j)):=by
 refine Ct.intro Tryz.func85 rfl Tryz.ntmps85 rfl ?_
 intro w F
 refine A18 ?_
 refine A1 ?_
 refine x9 rfl (fun h23=> ?_) (fun h23=> ?_)
 ·
  refine A11 ?_
  exact x4 Plain.mk' rfl rfl (Le.int (by have hjj:j=0∨j=2∨j=4∨j=6∨j=7∨j=9∨j=11:=(by omega);rcases hjj with rfl | rfl | rfl | rfl | rfl | rfl | rfl <;> simp [lenI,lens]))
 ·
  refine A6 ?_
  refine x9 rfl (fun h23_2=> ?_) (fun h23_2=> ?_)
  ·
   refine A11 ?_
   exact x4 Plain.mk' rfl rfl (Le.int (by have hjj:j=0∨j=2∨j=4∨j=6∨j=7∨j=9∨j=11:=(by omega);rcases hjj with rfl | rfl | rfl | rfl | rfl | rfl | rfl <;> simp [lenI,lens]))
  ·
   refine A6 ?_
   refine x9 rfl (fun h23_3=> ?_) (fun h23_3=> ?_)
   ·
    refine A11 ?_
    exact x4 Plain.mk' rfl rfl (Le.int (by have hjj:j=0∨j=2∨j=4∨j=6∨j=7∨j=9∨j=11:=(by omega);rcases hjj with rfl | rfl | rfl | rfl | rfl | rfl | rfl <;> simp [lenI,lens]))
   ·
    refine A6 ?_
    refine x9 rfl (fun h23_4=> ?_) (fun h23_4=> ?_)
    ·
     refine A11 ?_
     exact x4 Plain.mk' rfl rfl (Le.int (by have hjj:j=0∨j=2∨j=4∨j=6∨j=7∨j=9∨j=11:=(by omega);rcases hjj with rfl | rfl | rfl | rfl | rfl | rfl | rfl <;> simp [lenI,lens]))
    ·
     refine A6 ?_
     refine x9 rfl (fun h23_5=> ?_) (fun h23_5=> ?_)
     ·
      refine A11 ?_
      exact x4 Plain.mk' rfl rfl (Le.int (by have hjj:j=0∨j=2∨j=4∨j=6∨j=7∨j=9∨j=11:=(by omega);rcases hjj with rfl | rfl | rfl | rfl | rfl | rfl | rfl <;> simp [lenI,lens]))
     ·
      refine A6 ?_
      refine x9 rfl (fun h23_6=> ?_) (fun h23_6=> ?_)
      ·
       refine A11 ?_
       exact x4 Plain.mk' rfl rfl (Le.int (by have hjj:j=0∨j=2∨j=4∨j=6∨j=7∨j=9∨j=11:=(by omega);rcases hjj with rfl | rfl | rfl | rfl | rfl | rfl | rfl <;> simp [lenI,lens]))
      ·
       refine A5 ?_
       refine x9 rfl (fun h23_7=> ?_) (fun h23_7=> ?_)
       ·
        refine A8 ?_
        exact x4 Plain.mk' rfl rfl (Le.int (by have hjj:j=0∨j=2∨j=4∨j=6∨j=7∨j=9∨j=11:=(by omega);rcases hjj with rfl | rfl | rfl | rfl | rfl | rfl | rfl <;> simp [lenI,lens]))
       ·
        refine A7 ?_
        refine x9 rfl (fun h25=> ?_) (fun h25=> ?_)
        ·
         refine A11 ?_
         exact x4 Plain.mk' rfl rfl (Le.int (by have hjj:j=3∨j=5∨j=8∨j=10:=(by omega);rcases hjj with rfl | rfl | rfl | rfl <;> simp [lenI,lens]))
        ·
         refine A6 ?_
         refine x9 rfl (fun h25_2=> ?_) (fun h25_2=> ?_)
         ·
          refine A11 ?_
          exact x4 Plain.mk' rfl rfl (Le.int (by have hjj:j=3∨j=5∨j=8∨j=10:=(by omega);rcases hjj with rfl | rfl | rfl | rfl <;> simp [lenI,lens]))
         ·
          refine A6 ?_
          refine x9 rfl (fun h25_3=> ?_) (fun h25_3=> ?_)
          ·
           refine A11 ?_
           exact x4 Plain.mk' rfl rfl (Le.int (by have hjj:j=3∨j=5∨j=8∨j=10:=(by omega);rcases hjj with rfl | rfl | rfl | rfl <;> simp [lenI,lens]))
          ·
           refine A5 ?_
           refine x9 rfl (fun h25_4=> ?_) (fun h25_4=> ?_)
           ·
            refine A8 ?_
            exact x4 Plain.mk' rfl rfl (Le.int (by have hjj:j=3∨j=5∨j=8∨j=10:=(by omega);rcases hjj with rfl | rfl | rfl | rfl <;> simp [lenI,lens]))
           ·
            refine A6 ?_
            refine x9 rfl (fun h27=> ?_) (fun h27=> ?_)
            ·
             refine A4 ?_
             refine R1 (x3 (c_R3Leap y hy) fi86 rfl) rfl ?_
             refine A2 ?_
             refine xc0 rfl (fun h28=> ?_) (fun h28=> ?_)
             ·
              refine A9 ?_
              exact x4 Plain.mk' rfl rfl (Le.int (by have hj1:j=1:=(by omega);rw [lenI,if_pos ⟨hj1,by assumption⟩]))
             ·
              refine A10 ?_
              exact x4 Plain.mk' rfl rfl (Le.int (by have hj1:j=1:=(by omega);subst hj1;rw [lenI,if_neg (fun h=>by simp [h.2] at*)];rfl))
            ·
             refine A9 ?_
             exfalso;omega
theorem c_R3Day (k:Nat) (hk:k < 2154):
  Ct Tryz.prog 59 [tI (1900+(k:Int) / 12),tI (((k%12:Nat):Int)+1),tI 1] (tT [tI (startI k),tI 0]):=by
 have hle0:=lenI_bd (y:=(1900+(k:Int) / 12)) (j:=k%12) (by omega)
 have hst:=start_last
 have hs0:=start_mono (show k≤2153 by omega) (by omega)
 refine Ct.intro Tryz.func59 rfl Tryz.ntmps59 rfl ?_
 intro w F
 refine A12 ?_
 refine RGcaseD (t:=13) rfl (fun h38=> ?_) (fun h38=> ?_)
 ·
  refine A18 ?_
  refine A15 ?_
  exfalso;omega
 ·
  refine A4 ?_
  refine RGcaseD (t:=17) rfl (fun h38_2=> ?_) (fun h38_2=> ?_)
  ·
   refine A18 ?_
   refine A11 ?_
   exfalso;omega
  ·
   refine A4 ?_
   refine RGcaseD (t:=21) rfl (fun h38_3=> ?_) (fun h38_3=> ?_)
   ·
    refine A18 ?_
    refine A7 ?_
    exfalso;omega
   ·
    refine A4 ?_
    refine RGcaseD (t:=25) rfl (fun h38_4=> ?_) (fun h38_4=> ?_)
    ·
     refine A18 ?_
     refine A3 ?_
     exfalso;omega
    ·
     refine A4 ?_
     refine RGcaseD (t:=29) rfl (fun h38_5=> ?_) (fun h38_5=> ?_)
     ·
      refine A17 ?_
      exfalso;omega
     ·
      refine A3 ?_
      refine RGon (decide_eq_false h38_5) rfl (x3 (c_R3Len _ (k%12) (by omega) (by omega)) fi85 rfl) rfl ⟨rfl,rfl,trivial⟩ trivial trivial ?_
      refine A4 ?_
      refine x9 rfl (fun h38_6=> ?_) (fun h38_6=> ?_)
      ·
       refine A8 ?_
       exfalso;omega
      ·
       refine A16 ?_
       refine cL (fun (e:Nat)=>e≤k / 12) (fun (e:Nat)=>upd (upd (upd (upd (fun _=>none) 0 (some (.val (tI (1900+(k:Int) / 12))))) 1 (some (.val (tI (((k%12:Nat):Int)+1))))) 8 (some (.val (tI (365*(e:Int)+(leapsI (1899+(e:Int)) - leapsI 1899)))))) 9 (some (.val (tI (1900+(e:Int)))))) (fun (e:Nat)=>fun _=>none) [] (fun (e:Nat)=>k / 12 - e) (0) (Nat.zero_le _) (hg:=(sI ((Sub.consI rfl (Imp.int (by simp))) (sI (sI Sub.nil))))) ?_
       intro e hI
       have hlp:=leaps_step (y:=1900+(e:Int)) (by omega)
       have hlb:0≤leapsI (1899+(e:Int)) - leapsI 1899∧leapsI (1899+(e:Int)) - leapsI 1899≤1000:=by simp only [leapsI];omega
       rw [show (1900+(e:Int)) - 1=1899+(e:Int) by omega] at hlp
       refine A8 ?_
       refine x9 rfl (fun h42=> ?_) (fun h42=> ?_)
       ·
        refine A14 ?_
        refine R1 (x3 (c_R3Leap _ (by omega)) fi86 rfl) rfl ?_
        refine A2 ?_
        refine xc0 rfl (fun h44=> ?_) (fun h44=> ?_)
        ·
         refine A12 ?_
         exact kF (e+1) ⟨(by omega),(by omega)⟩ (hg:=((Sub.consI rfl (Imp.int (by omega))) ((Sub.consI rfl (Imp.int (by rw [if_pos (by assumption)] at hlp;rw [show (1899+((e+1:Nat):Int))=1900+(e:Int) by omega,hlp];omega))) (sI (sI Sub.nil)))))
        ·
         refine A8 ?_
         exact kF (e+1) ⟨(by omega),(by omega)⟩ (hg:=((Sub.consI rfl (Imp.int (by omega))) ((Sub.consI rfl (Imp.int (by rw [if_neg (by simp [*])] at hlp;rw [show (1899+((e+1:Nat):Int))=1900+(e:Int) by omega,hlp];omega))) (sI (sI Sub.nil)))))
       ·
        refine A12 ?_
        refine cL (fun (j:Nat)=>j≤k%12) (fun (j:Nat)=>upd (upd (upd (upd (fun _=>none) 0 (some (.val (tI (1900+(k:Int) / 12))))) 1 (some (.val (tI (((k%12:Nat):Int)+1))))) 8 (some (.val (tI (365*((1900+(k:Int) / 12) - 1900)+leapsI ((1900+(k:Int) / 12) - 1) - leapsI 1899+cumI (1900+(k:Int) / 12) j))))) 10 (some (.val (tI ((j:Int)+1))))) (fun (j:Nat)=>fun _=>none) [] (fun (j:Nat)=>k%12 - j) (0) (Nat.zero_le _) (hg:=(sI ((Sub.consI rfl (Imp.int (by have he:((e:Nat):Int)=(k:Int) / 12:=(by omega);rw [he,show 1899+(k:Int) / 12=1900+(k:Int) / 12 - 1 by omega];simp only [cumI];omega))) (sI (sI Sub.nil))))) ?_
        intro j hI
        have hcb:=cumI_bd (y:=(1900+(k:Int) / 12)) (j:=j) (by omega)
        have hll:0≤leapsI ((1900+(k:Int) / 12) - 1) - leapsI 1899∧leapsI ((1900+(k:Int) / 12) - 1) - leapsI 1899≤1000:=by simp only [leapsI];omega
        refine A8 ?_
        refine x9 rfl (fun h48=> ?_) (fun h48=> ?_)
        ·
         refine A8 ?_
         have hle:=lenI_bd (y:=(1900+(k:Int) / 12)) (j:=j) (by omega)
         refine R2 (x3 (c_R3Len _ j (by omega) (by omega)) fi85 rfl) rfl rfl ?_
         refine A10 ?_
         exact kF (j+1) ⟨(by omega),(by omega)⟩ (hg:=((Sub.consI rfl (Imp.int (by omega))) ((Sub.consI rfl (Imp.int (by simp only [cumI];omega))) (sI (sI Sub.nil)))))
        ·
         refine A7 ?_
         have hjk:j=k%12:=by omega
         have hS:(365*((1900+(k:Int) / 12) - 1900)+leapsI ((1900+(k:Int) / 12) - 1) - leapsI 1899+cumI (1900+(k:Int) / 12) j)=startI k:=by rw [startI,hjk]
         refine A5 ?_
         refine x9 rfl (fun h51=> ?_) (fun h51=> ?_)
         ·
          refine A8 ?_
          exfalso;omega
         ·
          refine A10 ?_
          exact xc5 Plain.mk' rfl rfl rfl (Le.int (by rw [hS])) Le.refl
theorem c_R3First (m:Int):
  Ct Tryz.prog 39 [tI m] (tT [tI (fstD m),tI (fstE m)]):=by
 refine Ct.intro Tryz.func39 rfl Tryz.ntmps39 rfl ?_
 intro w F
 refine A12 ?_
 refine RGcaseD (t:=8) rfl (fun h147=> ?_) (fun h147=> ?_)
 ·
  refine A14 ?_
  exact xc5 Plain.mk' rfl rfl rfl (Le.int (by rw [fstD,if_neg (by omega)])) (Le.int (by rw [fstE,if_neg (by omega)]))
 ·
  refine A5 ?_
  refine x9 rfl (fun h147_2=> ?_) (fun h147_2=> ?_)
  ·
   refine A8 ?_
   exact xc5 Plain.mk' rfl rfl rfl (Le.int (by rw [fstD,if_neg (by omega)])) (Le.int (by rw [fstE,if_neg (by omega)]))
  ·
   refine A5 ?_
   refine R2 (d_quoP (by omega) (by omega) (wr64 (by omega) (by omega))) rfl rfl ?_
   refine A2 ?_
   refine R2 (xi6 (by omega) (by omega)) rfl rfl ?_
   refine A1 ?_
   refine R3 (xj0 (ts:=[_,_,_]) (c_R3Day m.toNat (by omega)) fi59 rfl ⟨(Le.int (by omega)),(Le.int (by omega)),Le.refl,trivial⟩) rfl rfl rfl ?_
   refine A15 ?_
   exact xc5 Plain.mk' rfl rfl rfl (Le.int (by rw [fstD,if_pos (by omega)])) (Le.int (by rw [fstE,if_pos (by omega)]))
theorem c_R9Windows (l:List Tst) (hl:l.length≤200000) (a b n:Int) (hD: ∀s∈l,s.v.f.dig) (hs: ∀s∈l,s.v.f.n.l.length≤1048576∧s.v.f.d.l.length≤1048576):
  Ct Tryz.prog 19 [tL 8 true tTs l,tI a,tI b,tI n] (tT [tL 1 false tI (winR l a b n).1,tI (winR l a b n).2]):=by
 refine Ct.intro Tryz.func19 rfl Tryz.ntmps19 rfl ?_
 intro w F
 refine A12 ?_
 refine R3 (x3 (c_R9may l hl a b hD hs) fi37 rfl) rfl rfl rfl ?_
 refine A2 ?_
 refine RGcase (t:=22) rfl (fun h60=> ?_) (fun h60=> ?_)
 ·
  refine A18 ?_
  exact xc5 Plain.mk' rfl rfl rfl (leNil (by rw [winR,if_neg (fun h=>by have h1:=h.1;simp [h1] at*)])) (Le.int (by rw [winR,if_neg (fun h=>by have h1:=h.1;simp [h1] at*)]))
 ·
  refine A4 ?_
  refine RGcaseD (t:=26) rfl (fun h60_2=> ?_) (fun h60_2=> ?_)
  ·
   refine A14 ?_
   exact xc5 Plain.mk' rfl rfl rfl (leNil (by rw [winR,if_neg (fun h=>by have:=h.2;omega)])) (Le.int (by rw [winR,if_neg (fun h=>by have:=h.2;omega)]))
  ·
   refine A5 ?_
   refine x9 rfl (fun h60_3=> ?_) (fun h60_3=> ?_)
   ·
    refine A8 ?_
    exact xc5 Plain.mk' rfl rfl rfl (leNil (by rw [winR,if_neg (fun h=>by have:=h.2;omega)])) (Le.int (by rw [winR,if_neg (fun h=>by have:=h.2;omega)]))
   ·
    refine A3 ?_
    have hk:askP l a b=true:=by first | assumption | simp_all
    obtain ⟨k0,rfl⟩:=Int.eq_ofNat_of_zero_le (show 0≤n by omega)
    have hok:lenOk l a b (k0:Int):=⟨hk,by omega,by omega⟩
    have hk2:=(xg9.1 hk).2
    have h:=(xg9.1 hk).1
    have ht:=xj3 h
    have hn1:1≤k0:=by omega
    have hn2:k0≤1200:=by omega
    refine A2 ?_
    refine R1 (x3 (c_R5Table l (by omega) ht) fi38 rfl) rfl ?_
    refine A5 ?_
    refine RE (xj2 (k:=11) 3 1 false rfl (fun _=>rfl)) trivial trivial ⟨rfl,trivial⟩ ?_
    refine A9 ?_
    refine cL (fun (m:Nat)=>m≤2154) (fun (m:Nat)=>upd (upd (upd (upd (upd (upd (upd (fun _=>none) 0 (some (.val (tL 8 true tTs l)))) 1 (some (.val (tI a)))) 2 (some (.val (tI b)))) 3 (some (.val (tI (k0:Int))))) 10 (some (.val (tL 1 false tI (rowD (tabT l)))))) 11 (some (.own (.sl 11 1 0 (iL (winP l a b k0 m)).length)))) 12 (some (.val (tI m)))) (fun (m:Nat)=>upd (fun _=>none) 11 (some (⟨3,1,false,rV tI (iL (winP l a b k0 m))⟩))) [11] (fun (m:Nat)=>2154 - m) (0) (Nat.zero_le _) (hh:=((SubK.consI rfl ImpK.refl) SubK.nil)) ?_
    intro m hI
    have hm0:=hI
    have hxl:=winP_len (l:=l) (p:=a) (q:=b) (n:=k0) (k:=m)
    have f1:=xs5 (m:=(m:Int)) (by omega)
    have f2:=xs5 (m:=(m:Int)+(k0:Int)) (by omega)
    have f3:=fstE_bd (m:Int)
    have f4:=fstE_bd ((m:Int)+(k0:Int))
    refine A7 ?_
    refine x9 rfl (fun h65=> ?_) (fun h65=> ?_)
    ·
     refine A7 ?_
     refine R1 (x3 (c_R3First (m:Int)) fi39 rfl) rfl ?_
     refine A12 ?_
     refine R1 (x3 (c_R3First ((m:Int)+(k0:Int))) fi39 rfl) rfl ?_
     refine A15 ?_
     refine RGcaseD (t:=52) rfl (fun h68=> ?_) (fun h68=> ?_)
     ·
      refine A16 ?_
      refine RE (xf8 (f:=tI) (xs:=(iL (winP l a b k0 m))) (fun _ h=>h) (xn8 rfl) rfl) ⟨rfl,trivial⟩ ⟨rfl,trivial⟩ trivial ?_
      refine A5 ?_
      exact xc5 Plain.mk' rfl rfl rfl (Le.of (by rw [winR,if_pos hok,Int.toNat_natCast,win_stop hm0 (fun j h1 h2=>by first | omega | exact win_far (k:=m) (Decidable.byCases (p:=m+k0 < 2154) (fun hmn=> .inr (by rw [←xq4 hmn];omega)) (fun hmn=> .inl (by omega))) h1)])) (Le.int (by rw [winR,if_pos hok]))
     ·
      refine A6 ?_
      refine x9 rfl (fun h68_2=> ?_) (fun h68_2=> ?_)
      ·
       refine A9 ?_
       refine RE (xf8 (f:=tI) (xs:=(iL (winP l a b k0 m))) (fun _ h=>h) (xn8 rfl) rfl) ⟨rfl,trivial⟩ ⟨rfl,trivial⟩ trivial ?_
       refine A5 ?_
       exact xc5 Plain.mk' rfl rfl rfl (Le.of (by rw [winR,if_pos hok,Int.toNat_natCast,win_stop hm0 (fun j h1 h2=>by first | omega | exact win_far (k:=m) (Decidable.byCases (p:=m+k0 < 2154) (fun hmn=> .inr (by rw [←xq4 hmn];omega)) (fun hmn=> .inl (by omega))) h1)])) (Le.int (by rw [winR,if_pos hok]))
      ·
       refine A3 ?_
       have hmn:m+k0 < 2154:=by omega
       have e1:=fstD_is (show m < 2154 by omega)
       have e2:=xq4 hmn
       have e3:=xq6 (show m < m+k0 by omega) (by omega)
       have e4:=start_nn (show m≤2160 by omega)
       refine A5 ?_
       refine RGcaseD (t:=60) rfl (fun h71=> ?_) (fun h71=> ?_)
       ·
        refine A3 ?_
        refine RGon (decide_eq_true h71) rfl (x3 (c_R9covered l (fstD (m:Int)) (fstD ((m:Int)+(k0:Int))) ht (by omega) (by omega) (by omega)) fi40 rfl) rfl ⟨rfl,rfl,rfl,trivial⟩ trivial trivial ?_
        refine A3 ?_
        refine x9 rfl (fun h71_2=> ?_) (fun h71_2=> ?_)
        ·
         refine A3 ?_
         refine R1 (xc6 (n:=1) (f:=fun n:Int=>tI n) [(m:Int)] Tryz.underlying27 el3 zf3 rfl (fun _=>inferInstance) rfl rfl rfl) rfl (RE (xc2 (k:=11) (k':=69) (f:=fun n:Int=>tI n) (ys:=[(m:Int)]) (ts':=rV tI ((iL (winP l a b k0 m))++[(m:Int)])) Tryz.underlying27 el3 zf3 rfl rfl (fun _=>inferInstance) xg3 (by simp;omega) (by simp;omega) (by simp [rV]) (n':=(iL (winP l a b k0 m)).length+1) rfl) ⟨rfl,rfl,trivial⟩ ⟨rfl,trivial⟩ ⟨rfl,trivial⟩ ?_)
         refine A9 ?_
         have hw:=okW_nC (l:=l) (p:=a) (q:=b) hmn (by omega) (by omega) (by rw [←e1,←e2];assumption)
         exact xf7 (l:=[11]) (fun j=>cond (Nat.beq j 11) 69 (j)) (m+1) ⟨(by omega),(by omega)⟩ ((SubR.consI rfl (Imp.int (by omega))) ((SubR.consI rfl (Imp.of (by rw [←iL_snoc hw,List.length_append];rfl))) (SubR.cons rfl (SubR.int rfl (by first | omega | rfl | (dsimp only;omega)) (SubR.int rfl (by first | omega | rfl | (dsimp only;omega)) (SubR.int rfl (by first | omega | rfl | (dsimp only;omega)) (SubR.cons rfl SubR.nil))))))) ((SubKR.consI rfl (ImpK.of (by rw [iL_snoc hw];exact xf4.symm))) SubKR.nil) (SupG.val (SupG.own rfl (SupG.val (SupG.val (SupG.val (SupG.val (SupG.val SupG.nil))))))) (SupH.cons rfl (supJ xd3) SupH.nil) (lkOk rfl) rfl rfl (fun _ h=>by cases h)
        ·
         refine A8 ?_
         exact kF (m+1) ⟨(by omega),(by omega)⟩ (hg:=((Sub.consI rfl (Imp.int (by omega))) ((Sub.consI rfl (Imp.of (by rw [xm6 (okW_nD (.inr (by rw [←e1,←e2];assumption)))]))) (sC (sI (sI (sI (sC Sub.nil)))))))) (hh:=((SubK.consI rfl (ImpK.of (by rw [xm6 (okW_nD (.inr (by rw [←e1,←e2];assumption)))]))) SubK.nil))
       ·
        refine A16 ?_
        exact kF (m+1) ⟨(by omega),(by omega)⟩ (hg:=((Sub.consI rfl (Imp.int (by omega))) ((Sub.consI rfl (Imp.of (by rw [xm6 (okW_nD (.inl (by omega)))]))) (sC (sI (sI (sI (sC Sub.nil)))))))) (hh:=((SubK.consI rfl (ImpK.of (by rw [xm6 (okW_nD (.inl (by omega)))]))) SubK.nil))
    ·
     refine A7 ?_
     refine RE (xf8 (f:=tI) (xs:=(iL (winP l a b k0 m))) (fun _ h=>h) (xn8 rfl) rfl) ⟨rfl,trivial⟩ ⟨rfl,trivial⟩ trivial ?_
     refine A5 ?_
     exact xc5 Plain.mk' rfl rfl rfl (Le.of (by rw [winR,if_pos hok,Int.toNat_natCast,win_stop hm0 (fun j h1 h2=>by first | omega | exact win_far (k:=m) (Decidable.byCases (p:=m+k0 < 2154) (fun hmn=> .inr (by rw [←xq4 hmn];omega)) (fun hmn=> .inl (by omega))) h1)])) (Le.int (by rw [winR,if_pos hok]))
theorem hrTE {x y:Value} (m:Nat) (F:Dom) (w:World) (v:Value) (hp:(tT [tE x,tE y]).p F w v):(tT [tE x,tE y]).p (fun b=>F b∧m≤b) w v:=by
 obtain ⟨vs,h1,h2⟩:=hp
 refine ⟨vs,h1,?_⟩
 match vs,h2 with
 | [a,b],h2=>exact ⟨h2.1,h2.2.1,trivial⟩
 | [],h2=>exact h2.elim
 | [_],h2=>exact h2.2.elim
 | _::_::_::_,h2=>exact h2.2.2.elim
theorem kg_back {K:Kw} {t u:Ty} {r:List Ty} {F:Dom} {w:World}: ∀{vs:List Value},Tup.all F w (t::tKG K u::r) vs→Tup.all F w (tKG K t::u::r) vs
 | _::_::_,h=>⟨⟨h.1,h.2.1.2⟩,h.2.1.1,h.2.2⟩
 | [],h=>h.elim
 | [_],h=>h.2.elim
theorem kg_swap {K:Kw} {t u:Ty} {r:List Ty} {F:Dom} {w:World}: ∀{vs:List Value},Tup.all F w (tKG K t::u::r) vs→Tup.all F w (t::tKG K u::r) vs
 | _::_::_,h=>⟨h.1.1,⟨h.2.1,h.1.2⟩,h.2.2⟩
 | [],h=>h.elim
 | [_],h=>h.2.elim
theorem CtN.swap {P:Program} {f:FuncId} {K:Kw} {t u:Ty} {r:List Ty} {rr:Nat→Ty} (h:CtN P f (tKG K t::u::r) rr):CtN P f (t::tKG K u::r) rr:=fun F w vs hv=>h F w vs (kg_back hv)
theorem Ct.swap {P:Program} {f:FuncId} {K:Kw} {t u q:Ty} {r:List Ty} (h:Ct P f (t::tKG K u::r) q):Ct P f (tKG K t::u::r) q:=fun F w vs hv=>h F w vs (kg_swap hv)
def wI (o:Option Nat):Int:=(o.map fun (k:Nat)=>(k:Int)).getD (-1)
theorem winR_ok {l:List Tst} {a b n:Int} (h:(winR l a b n).2=0):lenOk l a b n:=by
 by_cases hk:lenOk l a b n
 ·exact hk
 ·rw [winR,if_neg hk] at h;exact absurd h (by decide)
theorem c_R9Both (l:List Tst) (hl:l.length≤200000) (a b n:Int) (hD: ∀s∈l,s.v.f.dig) (hs: ∀s∈l,s.v.f.n.l.length≤1048576∧s.v.f.d.l.length≤1048576):
  Ct Tryz.prog 20 [tL 8 true tTs l,tI a,tI b,tI n] (tT [tI (wM (bOR l a b n)),tFr (fW l n.toNat (bOR l a b n)),tI (bER l a b n)]):=by
 refine Ct.intro Tryz.func20 rfl Tryz.ntmps20 rfl ?_
 intro w F
 refine A3 ?_
 refine RE (x5 (k:=9) (n:=4) (agg:=true) zr33.1 zr33.2 rfl) trivial trivial ⟨rfl,trivial⟩ ?_
 refine A9 ?_
 refine RE (x3 (c_R9Windows l hl a b n hD hs) fi19 rfl) ⟨rfl,rfl,rfl,rfl,trivial⟩ trivial trivial ?_
 refine A14 ?_
 refine x9 rfl (fun h81=> ?_) (fun h81=> ?_)
 ·
  have hno: ¬lenOk l a b n:=fun hk=>h81 (by rw [winR,if_pos hk])
  refine A2 ?_
  refine R0 (xa7 (r:=tS [⟨2,true,(tS [⟨1,false,(tE (.bool false))⟩,⟨1,false,(tLm [])⟩])⟩,⟨2,true,(tS [⟨1,false,(tE (.bool false))⟩,⟨1,false,(tLm [])⟩])⟩]) (ts:=[]) bu33 zr33.2 Le.refl) ?_
  refine A8 ?_
  exact xa8 Plain.mk' (rs:=[.tmp 8,.cell 9 33,.tmp 10]) rfl rfl ⟨⟨_,rfl,(Le.int (by rw [bOR,if_neg hno];rfl))⟩,⟨_,_,_,_,_,rfl,rfl,ti33,(Le.of (by rw [bOR,if_neg hno];rfl))⟩,⟨_,rfl,(Le.int (by rw [bER,if_neg hno,winR,if_neg hno]))⟩,trivial⟩
 ·
  refine A4 ?_
  have hok:=winR_ok (l:=l) (a:=a) (b:=b) (n:=n) (by omega)
  obtain ⟨k0,rfl⟩:=Int.eq_ofNat_of_zero_le (show 0≤n by have:=hok.2;omega)
  have hk2:=(xg9.1 hok.1).2
  have h:=(xg9.1 hok.1).1
  have ht:=xj3 h
  have hn1:1≤k0:=by have:=hok.2;omega
  have hn2:k0≤1200:=by have:=hok.2;omega
  have hwr:winR l a b (k0:Int)=(iL (winT l a b k0),0):=by rw [winR,if_pos hok,Int.toNat_natCast]
  refine A6 ?_
  refine x9 rfl (fun h84=> ?_) (fun h84=> ?_)
  ·
   have hT:bsT l a b k0=some none:=by
    have h0:winT l a b k0=[]:=by
     rw [hwr] at*;rw [xo8] at*;exact List.length_eq_zero_iff.1 (by omega)
    rw [bsT,h0];rfl
   refine A2 ?_
   refine R0 (xa7 (r:=tS [⟨2,true,(tS [⟨1,false,(tE (.bool false))⟩,⟨1,false,(tLm [])⟩])⟩,⟨2,true,(tS [⟨1,false,(tE (.bool false))⟩,⟨1,false,(tLm [])⟩])⟩]) (ts:=[]) bu33 zr33.2 Le.refl) ?_
   refine A7 ?_
   exact xa8 Plain.mk' (rs:=[.tmp 8,.cell 9 33,.tmp 10]) rfl rfl ⟨⟨_,rfl,(Le.int (by rw [bOR,if_pos hok,Int.toNat_natCast,hT];rfl))⟩,⟨_,_,_,_,_,rfl,rfl,ti33,(Le.of (by rw [bOR,if_pos hok,Int.toNat_natCast,hT];rfl))⟩,⟨_,rfl,(Le.int (by rw [bER,if_pos hok,Int.toNat_natCast,hT];rfl))⟩,trivial⟩
  ·
   refine A9 ?_
   refine RE (x5 (k:=14) (n:=4) (agg:=true) zr33.1 zr33.2 rfl) trivial trivial ⟨rfl,trivial⟩ ?_
   refine A9 ?_
   refine cL (fun (fm:(Nat)×(Option Nat))=>(fun (i:Nat) (o:Option Nat)=>i≤(winT l a b k0).length∧bsL l k0 ((winT l a b k0).take i)=some o∧(0 < i→o.isSome=true)) fm.1 fm.2) (fun (fm:(Nat)×(Option Nat))=>(fun (i:Nat) (o:Option Nat)=>upd (upd (upd (upd (upd (upd (upd (fun _=>none) 0 (some (.val (tL 8 true tTs l)))) 3 (some (.val (tI (k0:Int))))) 9 (some (.own (.ptr 9 0)))) 11 (some (.val (tL 1 false tI (iL (winT l a b k0)))))) 13 (some (.val (tI (wI o))))) 14 (some (.own (.ptr 14 0)))) 15 (some (.val (tI i)))) fm.1 fm.2) (fun (fm:(Nat)×(Option Nat))=>(fun (i:Nat) (o:Option Nat)=>upd (upd (fun _=>none) 9 (some (⟨33,4,true,[.val (tFr fr0)]⟩))) 14 (some (⟨33,4,true,[.val (tFr (fW l k0 o))]⟩))) fm.1 fm.2) [9,14] (fun (fm:(Nat)×(Option Nat))=>(fun (i:Nat) (o:Option Nat)=>(winT l a b k0).length - i) fm.1 fm.2) ((0,none)) (by dsimp only;exact ⟨Nat.zero_le _,rfl,fun h=>absurd h (by decide)⟩) (hg:=(sI (sC (sI ((Sub.consI rfl (Imp.of (by rw [hwr]))) (sC (sI (sC Sub.nil)))))))) (hh:=((SubK.consI rfl ImpK.refl) ((SubK.consI rfl ImpK.refl) SubK.nil))) ?_
   intro fm hI
   obtain ⟨i,o⟩:=fm
   replace hI:i≤(winT l a b k0).length∧bsL l k0 ((winT l a b k0).take i)=some o∧(0 < i→o.isSome=true):=hI
   show wc _ _ _ _ (upd (upd (upd (upd (upd (upd (upd (fun _=>none) 0 (some (.val (tL 8 true tTs l)))) 3 (some (.val (tI (k0:Int))))) 9 (some (.own (.ptr 9 0)))) 11 (some (.val (tL 1 false tI (iL (winT l a b k0)))))) 13 (some (.val (tI (wI o))))) 14 (some (.own (.ptr 14 0)))) 15 (some (.val (tI i)))) (upd (upd (fun _=>none) 9 (some (⟨33,4,true,[.val (tFr fr0)]⟩))) 14 (some (⟨33,4,true,[.val (tFr (fW l k0 o))]⟩))) _
   obtain ⟨hi,hb,hso⟩:=hI
   have hwl:=win_len (l:=l) (p:=a) (q:=b) (n:=k0)
   refine A9 ?_
   refine x9 rfl (fun h89=> ?_) (fun h89=> ?_)
   ·
    refine A5 ?_
    have hil:i < (winT l a b k0).length:=by rw [xo8] at*;omega
    have hwm:=getD_memN hil
    have hr:=win_rng (p:=a) (q:=b) (by omega) (by omega) hn1 hwm
    have hws:=win_is hwm
    have hgi:((iL (winT l a b k0)).getD i 0)=((((winT l a b k0).getD i 0):Nat):Int):=iL_get
    have e1:fstD ((iL (winT l a b k0)).getD i 0)=startI ((winT l a b k0).getD i 0):=by rw [iL_get];exact fstD_is (by omega)
    have e2:fstD (((iL (winT l a b k0)).getD i 0)+(k0:Int))=startI (((winT l a b k0).getD i 0)+k0):=by rw [iL_get];exact xq4 hws.1
    have hnx:=bsL_snoc (l:=l) (n:=k0) (k:=((winT l a b k0).getD i 0)) (ks:=(winT l a b k0).take i)
    rw [←xu2 hil,hb] at hnx
    refine A3 ?_
    refine R2 (x6 sl27 (i) (by omega) (gD (l:=iL (winT l a b k0)) (n:=i) (d:=0) (by rw [xo8];omega))) rfl rfl ?_
    refine A1 ?_
    refine R1 (x3 (c_R3First ((iL (winT l a b k0)).getD i 0)) fi39 rfl) rfl ?_
    refine A11 ?_
    refine R2 (x6 sl27 (i) (by omega) (gD (l:=iL (winT l a b k0)) (n:=i) (d:=0) (by rw [xo8];omega))) rfl rfl ?_
    refine A3 ?_
    refine R1 (x3 (c_R3First (((iL (winT l a b k0)).getD i 0)+(k0:Int))) fi39 rfl) rfl ?_
    refine A12 ?_
    refine R3 (xj0 (ts:=[_,_,_]) (c_R9mean l hl (startI ((winT l a b k0).getD i 0)) (startI (((winT l a b k0).getD i 0)+k0)) hD hs h hr.1 hr.2.1 hr.2.2) fi41 rfl ⟨Le.refl,(Le.int e1),(Le.int e2),trivial⟩) rfl rfl rfl ?_
    refine A3 ?_
    refine RE (x5 (k:=20) (n:=4) (agg:=true) zr33.1 zr33.2 rfl) trivial trivial ⟨rfl,trivial⟩ ?_
    refine A11 ?_
    refine x9 rfl (fun h93=> ?_) (fun h93=> ?_)
    ·
     have hsn:=sumE_none h93
     have hT:bsT l a b k0=none:=bsL_stop (i:=i+1) (by rw [hnx];exact bs1_N hsn)
     refine A2 ?_
     refine R0 (xa7 (r:=tS [⟨2,true,(tS [⟨1,false,(tE (.bool false))⟩,⟨1,false,(tLm [])⟩])⟩,⟨2,true,(tS [⟨1,false,(tE (.bool false))⟩,⟨1,false,(tLm [])⟩])⟩]) (ts:=[]) bu33 zr33.2 Le.refl) ?_
     refine A13 ?_
     exact xa8 Plain.mk' (rs:=[.tmp 8,.cell 9 33,.tmp 10]) rfl rfl ⟨⟨_,rfl,(Le.int (by rw [bOR,if_pos hok,Int.toNat_natCast,hT];rfl))⟩,⟨_,_,_,_,_,rfl,rfl,ti33,(Le.of (by rw [bOR,if_pos hok,Int.toNat_natCast,hT];rfl))⟩,⟨_,rfl,(Le.int (by rw [bER,if_pos hok,Int.toNat_natCast,hT,hsn];rfl))⟩,trivial⟩
    ·
     obtain ⟨x,hx,hxs⟩:=xu6 (fun q h=>avO_short h) (Decidable.not_not.1 h93)
     refine A7 ?_
     refine RGcaseD (t:=75) rfl (fun h96=> ?_) (fun h96=> ?_)
     ·
      have ho:o=none:=by
       cases o with
       | none=>rfl
       | some k=>exact absurd h96 (by simp [wI])
      subst ho
      refine A11 ?_
      refine R2 (x6 sl27 (i) (by omega) (gD (l:=iL (winT l a b k0)) (n:=i) (d:=0) (by rw [xo8];omega))) rfl rfl ?_
      refine A12 ?_
      exact kF ((i+1,some ((winT l a b k0).getD i 0))) ⟨(by dsimp only;exact ⟨by omega,by rw [hnx];exact bs1_1 hx,fun _=>rfl⟩),(by dsimp only;omega)⟩ (hg:=((Sub.consI rfl (Imp.int (by omega))) (sC ((Sub.consI rfl (Imp.int (by rw [iL_get];rfl))) (sC (sC (sI (sC Sub.nil)))))))) (hh:=((SubK.consI rfl (ImpK.of (by rw [fW_is hx];rfl))) ((SubK.consI rfl ImpK.refl) SubK.nil)))
     ·
      obtain ⟨mo,ho⟩: ∃k,o=some k:=by
       cases o with
       | none=>exact absurd (by decide) h96
       | some k=>exact ⟨k,rfl⟩
      subst ho
      have hmm:=avV_short hb
      refine A2 ?_
      refine RGon (decide_eq_false h96) rfl (xj0 (ts:=[_,_]) (c_R2CmpA hx hxs (avV l k0 mo) hmm) fi42 rfl ⟨Le.refl,Le.refl,trivial⟩) rfl ⟨rfl,rfl,trivial⟩ trivial trivial ?_
      refine A4 ?_
      refine x9 rfl (fun h96_2=> ?_) (fun h96_2=> ?_)
      ·
       refine A3 ?_
       refine R2 (x6 sl27 (i) (by omega) (gD (l:=iL (winT l a b k0)) (n:=i) (d:=0) (by rw [xo8];omega))) rfl rfl ?_
       refine A12 ?_
       exact kF ((i+1,some ((winT l a b k0).getD i 0))) ⟨(by dsimp only;exact ⟨by omega,by rw [hnx];exact (bs1_2 hx).trans (if_pos (cmp_gt.1 h96_2)),fun _=>rfl⟩),(by dsimp only;omega)⟩ (hg:=((Sub.consI rfl (Imp.int (by omega))) (sC ((Sub.consI rfl (Imp.int (by rw [iL_get];rfl))) (sC (sC (sI (sC Sub.nil)))))))) (hh:=((SubK.consI rfl (ImpK.of (by rw [fW_is hx];rfl))) ((SubK.consI rfl ImpK.refl) SubK.nil)))
      ·
       refine A8 ?_
       exact kF ((i+1,some mo)) ⟨(by dsimp only;exact ⟨by omega,by rw [hnx];exact (bs1_2 hx).trans (if_neg (fun hh=>h96_2 (cmp_gt.2 hh))),fun _=>rfl⟩),(by dsimp only;omega)⟩ (hg:=((Sub.consI rfl (Imp.int (by omega))) (sC (sI (sC (sC (sI (sC Sub.nil)))))))) (hh:=((SubK.consI rfl ImpK.refl) ((SubK.consI rfl ImpK.refl) SubK.nil)))
   ·
    refine A6 ?_
    have hie:i=(winT l a b k0).length:=by rw [xo8] at*;omega
    have hT:bsT l a b k0=some o:=by rw [hie,List.take_length] at hb;exact hb
    have h0i:0 < i:=by rw [hwr] at*;rw [xo8] at*;omega
    obtain ⟨mo,ho⟩:=Option.isSome_iff_exists.1 (hso h0i)
    subst ho
    refine A9 ?_
    exact xa8 Plain.mk' (rs:=[.tmp 8,.cell 9 33,.tmp 10]) rfl rfl ⟨⟨_,rfl,(Le.int (by rw [bOR,if_pos hok,Int.toNat_natCast,hT];rfl))⟩,⟨_,_,_,_,_,rfl,rfl,ti33,(Le.of (by rw [bOR,if_pos hok,Int.toNat_natCast,hT];rfl))⟩,⟨_,rfl,(Le.int (by rw [bER,if_pos hok,Int.toNat_natCast,hT];rfl))⟩,trivial⟩
theorem c_bests9 (l:List Tst) (a b n:Int) (hl:l.length≤60) (hD: ∀s∈l,s.v.f.dig) (hs: ∀s∈l,s.v.f.n.l.length≤1200∧s.v.f.d.l.length≤1200):
  Ct Tryz.prog 7 [tL 8 true tTs l,tKG KL (tI a),tI b,tI n] (tB true):=by
 refine Ct.introO Tryz.func7 rfl Tryz.ntmps7 rfl ?_
 intro w F
 refine A8 ?_
 refine R1 (xe9 (ts:=[_]) (r:=tG (up w.heap.size) _) (c_LentStepsN l hl (fun s hsm=>by have:=hs s hsm;omega)) fi15 (fun m hm=>xi2 hm) ⟨tG_le,trivial⟩ rfl) rfl ?_
 refine A4 ?_
 refine C_lent (W:=tStW l) 99 42 9 (g':=fun v=>upd (upd (upd (upd (upd (upd (fun _=>none) 0 (some (.val (tL 8 true tTs l)))) 1 (some (.val (tKG KL (tI a))))) 2 (some (.val (tI b)))) 3 (some (.val (tI n)))) 8 (some (.val (tB false)))) 9 (some (.val (tE v)))) (h':=fun _=>none) rfl rfl (fun _ L hL=>SlC.cons rfl .cst (SlC.cons rfl (.val tG_E) (SlC.cons rfl (.val tG_E) (SlC.cons rfl (.val tG_E) (SlC.cons rfl (.val (tG_old hL)) (SlC.cons rfl (.val (tG_old hL)) (SlC.nil))))))) (fun _ _ _ _=>KyC.nil) ?_
 intro L w1 v hv hL1 hL2
 refine A5 ?_
 refine RE (xs6 (us':=[tE v,tKG KL (tI a),tI b,tI n]) (r:=tT [tL 1 false tI (winR l a b n).1,tI (winR l a b n).2]) OvC.mk' (CtN.swap (c_WindowsN l a b n hD (by omega))) fi16 hrT ⟨.inr ⟨_,rfl,stW_le _ _ _ hv⟩,.inl Le.refl,.inl Le.refl,.inl Le.refl,trivial⟩ rfl) ⟨rfl,rfl,rfl,rfl,trivial⟩ ⟨rfl,trivial⟩ trivial ?_
 refine A13 ?_
 refine RE (xs6 (us':=[tE v,tKG KL (tI a),tI b,tI n]) (r:=tT [tI (wM (bOR l a b n)),tI (bER l a b n)]) OvC.mk' (CtN.swap (c_WhenN l a b n hD (by omega))) fi17 hrTE ⟨.inr ⟨_,rfl,stW_le _ _ _ hv⟩,.inl Le.refl,.inl Le.refl,.inl Le.refl,trivial⟩ rfl) ⟨rfl,rfl,rfl,rfl,trivial⟩ ⟨rfl,trivial⟩ trivial ?_
 refine A13 ?_
 refine RE (xs6 (us':=[tE v,tKG KL (tI a),tI b,tI n]) (r:=tT [tFr (fW l n.toNat (bOR l a b n)),tI (bER l a b n)]) OvC.mk' (CtN.swap (c_BestN l a b n hD (by omega))) fi18 hrT ⟨.inr ⟨_,rfl,stW_le _ _ _ hv⟩,.inl Le.refl,.inl Le.refl,.inl Le.refl,trivial⟩ rfl) ⟨rfl,rfl,rfl,rfl,trivial⟩ ⟨rfl,trivial⟩ trivial ?_
 refine A3 ?_
 refine RE (x5 (k:=14) (n:=4) (agg:=true) zr33.1 zr33.2 rfl) trivial trivial ⟨rfl,trivial⟩ ?_
 refine A10 ?_
 refine RE (xj0 (ts:=[_,_,_,_]) (c_R9Windows l (by omega) a b n hD (fun s hsm=>by have:=hs s hsm;omega)) fi19 rfl ⟨Le.refl,tKG_le,Le.refl,Le.refl,trivial⟩) ⟨rfl,rfl,rfl,rfl,trivial⟩ trivial trivial ?_
 refine A13 ?_
 refine RE (xj0 (ts:=[_,_,_,_]) (c_R9Both l (by omega) a b n hD (fun s hsm=>by have:=hs s hsm;omega)) fi20 rfl ⟨Le.refl,tKG_le,Le.refl,Le.refl,trivial⟩) ⟨rfl,rfl,rfl,rfl,trivial⟩ trivial trivial ?_
 refine A4 ?_
 refine RE (x5 (k:=19) (n:=4) (agg:=true) zr33.1 zr33.2 rfl) trivial trivial ⟨rfl,trivial⟩ ?_
 refine A12 ?_
 refine RGon (decide_eq_false (by simp)) rfl xa0 rfl ⟨rfl,trivial⟩ trivial trivial (RGon (decide_eq_false (by simp)) rfl xa0 rfl ⟨rfl,trivial⟩ trivial trivial (RGon (decide_eq_false (by simp)) rfl d_neq rfl ⟨rfl,rfl,trivial⟩ trivial trivial (R2 (xc4 (decide_eq_false (by simp))) rfl rfl ?_)))
 refine A1 ?_
 refine RGon (decide_eq_false (by simp)) rfl xa0 rfl ⟨rfl,trivial⟩ trivial trivial (RGon (decide_eq_false (by simp)) rfl xa0 rfl ⟨rfl,trivial⟩ trivial trivial (RGon (decide_eq_false (by simp)) rfl d_neq rfl ⟨rfl,rfl,trivial⟩ trivial trivial (R2 (xc4 (decide_eq_false (by simp))) rfl rfl ?_)))
 refine A1 ?_
 refine RGon (decide_eq_false (by simp)) rfl xa0 rfl ⟨rfl,trivial⟩ trivial trivial (RGon (decide_eq_false (by simp)) rfl xa0 rfl ⟨rfl,trivial⟩ trivial trivial (RGon (decide_eq_false (by simp)) rfl d_neq rfl ⟨rfl,rfl,trivial⟩ trivial trivial (R2 (xc4 (decide_eq_false (by simp))) rfl rfl ?_)))
 refine A1 ?_
 refine RGon (decide_eq_false (by simp)) rfl xa0 rfl ⟨rfl,trivial⟩ trivial trivial (RGon (decide_eq_false (by simp)) rfl xa0 rfl ⟨rfl,trivial⟩ trivial trivial (RGon (decide_eq_false (by simp)) rfl (xs6 (us':=[tE v,tL 8 true tTs l]) (r:=tB true) (rr:=fun _=>tB true) OvC.mk' (c_KeptSteps l hl (fun s hsm=>by have:=hs s hsm;omega)) fi21 (hrE fun _=>rfl) ⟨.inr ⟨_,rfl,hv⟩,.inl Le.refl,trivial⟩ rfl) rfl ⟨rfl,rfl,trivial⟩ ⟨rfl,trivial⟩ trivial (RGon (decide_eq_false (by simp)) rfl xj4 rfl ⟨rfl,trivial⟩ trivial trivial (R2 (xc4 (decide_eq_false (by simp))) rfl rfl ?_))))
 refine A8 ?_
 refine RE (xq7 (us:=[tE v]) OvC.mk' (v_OverStepsL L w1 l hl (fun s hsm=>by have:=hs s hsm;omega) v hv) fi22 ⟨Free.E,trivial⟩ rfl) ⟨rfl,trivial⟩ ⟨rfl,trivial⟩ trivial ?_
 refine A6 ?_
 refine R2 (x3 (c_SameIntsV _) fi23 rfl) rfl rfl ?_
 refine A3 ?_
 refine RGon rfl rfl (x3 (c_SameFracT _) fi24 rfl) rfl ⟨rfl,rfl,trivial⟩ trivial trivial ?_
 refine A5 ?_
 exact E_retB (RBase.ov hL2) trivial rfl rfl
end An.S
namespace An.S
open Go
end An.S
namespace An.S
open Go Go.Proofs An
theorem dig_fr (q:Rat):(fr q).dig:=⟨xb6 x8 _,xb6 x8 _⟩
end An.S
namespace An.S
open Go
theorem short_divInt {n d:Int} (hd:0 < d) (h1: -9223372036854775808≤n) (h2:n≤9223372036854775807) (h3:d≤9223372036854775807):short (Rat.divInt n d):=by
 have e:=xt7 (n:=n) hd
 have e1:(wh (Rat.divInt n d).num).l.length=(wh (n / (Int.gcd n d:Int))).l.length:=congrArg (fun f:Fr=>f.n.l.length) e
 have e2:(wh ((Rat.divInt n d).den:Int)).l.length=(wh (d / (Int.gcd n d:Int))).l.length:=congrArg (fun f:Fr=>f.d.l.length) e
 refine ⟨?_,?_⟩
 ·show (wh (Rat.divInt n d).num).l.length≤256
  rw [e1];exact len16_div (len16_small h1 h2)
 ·show (wh ((Rat.divInt n d).den:Int)).l.length≤256
  rw [e2];exact len16_div (len16_small (by omega) h3)
end An.S
namespace An
open Go
section
variable {P:Program} {c:Base} {g:Slots} {h:Keys} {al:Names} {d ty:Nat} {pos:String} {af:Array Edge} {Q:Exit→Act→World→Prop}
end
section
variable {α:Type} (L:Nat→List α) (m:Nat→Nat→α) (d:α)
variable {L m d}
end
section
variable {n es k:Nat} {κ len:Nat→Nat} {t0:Nat→Ent}
end
section
variable {P:Program} {c:Base} {g:Slots} {h:Keys} {al:Names} {a:Act} {w:World} {η:Env}
end
section
variable {P:Program} {c:Base} {d ty:Nat} {pos:String} {af:Array Edge} {gd:Option (Nat×Bool)}
end
section
variable {P:Program} {c:Base} {d ty:Nat} {pos:String} {af:Array Edge} {gd:Option (Nat×Bool)}
end
section
variable {P:Program} {c:Base} {g:Slots} {h:Keys} {al:Names} {Q:Exit→Act→World→Prop}
theorem wl_imp {A:Array Oper} {rest:List Oper} {t:Nat} {e e':Ent} (hg:g t=some e) (hi:Imp e e') (hs: ∀k∈e'.supp,k∈e.supp) (H:wl P c A Q rest (upd g t (some e')) h al):wl P c A Q rest g h al:=fun a w ⟨η,s⟩=>
 H a w ⟨η,⟨s.tn,s.df,fun q y hy=>by
  by_cases hq:q=t
  ·subst hq
   rw [xb0] at hy
   cases hy
   obtain ⟨h1,h2,h3⟩:=s.slot q e hg
   exact ⟨h1,fun k hk=>h2 k (hs k hk),hi _ _ _ _ h3⟩
  ·rw [xa4 _ _ _ hq] at hy
   exact s.slot q y hy,s.key,s.inj,s.fr,s.lk,s.pin,s.vol,s.yal,s.jj,s.lbl⟩⟩
end
end An
namespace An.S
open Go Go.Proofs An
instance fi12:FnI Tryz.prog 12:=⟨_,Tryz.func12,by kernel_rfl,rfl⟩
instance fi13:FnI Tryz.prog 13:=⟨_,Tryz.func13,by kernel_rfl,rfl⟩
theorem kg_nil {K:Kw} {r:List Ty} {F:Dom} {w:World}: ∀{vs:List Value},Tup.all F w (tKG K (tE (.slice none 0 0))::r) vs→Tup.all F w (tKG K (tL 8 true tTs [])::r) vs
 | _::_,h=>⟨⟨leNil rfl _ _ _ h.1.1,h.1.2⟩,h.2⟩
 | [],h=>h.elim
theorem short_kfr {x d:Int} (hd:0 < d) (h1: -9223372036854775808≤x) (h2:x≤9223372036854775807) (h3:d≤9223372036854775807):short (kfr x d):=by
 rw [kfr_big (by omega)];exact short_divInt hd h1 h2 h3
theorem Does.leV {P:Program} {c:Base} {o:Oper} {rd:List (Operand×Ent)} {kr:List (Nat×HEnt)} {d:Nat} {t t':Ty} {kw:List (Nat×Option HEnt)} {nk:List Nat} (hl:Le t t') (hd:Does P c o ⟨rd,kr,some (d,some (.val t)),kw,nk⟩):Does P c o ⟨rd,kr,some (d,some (.val t')),kw,nk⟩:=by
 intro g h al a w hp hs
 refine Oper.wpIn_mono (fun a' w' hs'=> ?_) (hd g h al a w ⟨hp.rd,hp.kr,hp.nk,fun x hx=>by cases hx;exact hp.d (d,some (.val t')) rfl⟩ hs)
 have:=hs'.recast (t:=d) (e':= .val t') (xb0 _ _ _) (fun F η v hv=>hl _ _ _ hv) rfl
 simp only [Eff.g,upd_twice] at this ⊢
 exact this
theorem bit_mul {a b:Int} (h:0≤a∧a≤1) (h2:0≤b∧b≤1000):0≤a*b∧a*b≤1000:=by
 rcases (show a=0∨a=1 by omega) with rfl | rfl <;> simp <;> omega
def gdS (s:Tst):Prop:=s.v.f.dig∧s.v.f.n.l.length≤256∧s.v.f.d.l.length≤256
theorem gd_kfr {n d:Int} (h1: -9223372036854775808≤n) (h2:n≤9223372036854775807) (hd:0 < d) (h3:d≤9223372036854775807):(fr (kfr n d)).dig∧(fr (kfr n d)).n.l.length≤256∧(fr (kfr n d)).d.l.length≤256:=by
 have h:=short_kfr hd h1 h2 h3
 exact ⟨dig_fr _,h.1,h.2⟩
theorem gd_num {a b n d:Int} {k:Nat} (h1: -9223372036854775808≤n) (h2:n≤9223372036854775807) (hd:0 < d) (h3:d≤9223372036854775807):gdS ⟨a,b,⟨k,fr (kfr n d),0⟩⟩:=gd_kfr h1 h2 hd h3
theorem gd_all {l:List Tst} (h: ∀s∈l,gdS s):(∀s∈l,s.v.f.dig)∧ ∀s∈l,s.v.f.n.l.length≤1200∧s.v.f.d.l.length≤1200:=
 ⟨fun s hs=>(h s hs).1,fun s hs=>by have:=(h s hs).2;omega⟩
theorem gd_set {l:List Tst} {i:Nat} {x:Tst} (h: ∀s∈l,gdS s) (hx:gdS x): ∀s∈l.set i x,gdS s:=fun s hs=>by
 rcases List.mem_or_eq_of_mem_set hs with hs | rfl
 ·exact h s hs
 ·exact hx
theorem gd_snoc {l:List Tst} {x:Tst} (h: ∀s∈l,gdS s) (hx:gdS x): ∀s∈l++[x],gdS s:=fun s hs=>by
 rcases List.mem_append.1 hs with hs | hs
 ·exact h s hs
 ·rw [List.mem_singleton.1 hs];exact hx
theorem gd_one {x:Tst} (hx:gdS x): ∀s∈[x],gdS s:=fun s hs=>by rw [List.mem_singleton.1 hs];exact hx
theorem gd_two {x y:Tst} (hx:gdS x) (hy:gdS y): ∀s∈[x,y],gdS s:=fun s hs=>by
 rcases List.mem_cons.1 hs with rfl | hs
 ·exact hx
 ·exact gd_one hy s hs
def fil (i:Nat):List Nat:=List.replicate i 65535++List.replicate (256 - i) 0
theorem fil_len {i:Nat} (h:i≤256):(fil i).length=256:=by simp [fil];omega
theorem fil_get {i j:Nat} (h:i≤256):(fil i)[j]? =if j < i then some 65535 else if j < 256 then some 0 else none:=by
 rw [fil,List.getElem?_append,List.length_replicate,List.getElem?_replicate,List.getElem?_replicate]
 by_cases h2:j < i
 ·simp [h2]
 ·rw [if_neg h2,if_neg h2]
  by_cases h3:j < 256
  ·rw [if_pos h3,if_pos (by omega)]
  ·rw [if_neg h3,if_neg (by omega)]
theorem fil_set {i:Nat} (h:i < 256):(fil i).set i 65535=fil (i+1):=by
 apply List.ext_getElem?
 intro j
 rw [List.getElem?_set,fil_get (by omega),fil_get (by omega),fil_len (by omega)]
 by_cases h1:i=j
 ·subst h1;rw [if_pos rfl,if_pos h,if_pos (by omega)]
 ·rw [if_neg h1]
  by_cases h2:j < i
  ·rw [if_pos h2,if_pos (by omega)]
  ·rw [if_neg h2,if_neg (show ¬j < i+1 by omega)]
theorem fil_dig:Dig 65536 (fil 256):=by
 rw [show fil 256=List.replicate 256 65535 by simp [fil]]
 intro x hx
 rw [List.eq_of_mem_replicate hx];decide
theorem ts_row (s:Tst):Imp (.val (tTs s)) (.own (An.rowV [.val (tI s.lo),.val (tI s.hi),.val (tE (.int .u8 (s.v.kind:Int))),.val (tB s.v.f.n.neg),.val (tLm s.v.f.n.l),.val (tB s.v.f.d.neg),.val (tLm s.v.f.d.l),.val (tI s.v.i)])):=by
 intro F w η v hv
 obtain ⟨cs,rfl,h2,h3⟩:=hv
 have h4:cs.size=8:=h2
 obtain ⟨⟨_,a1⟩,⟨_,a2⟩,⟨_,a3⟩,_⟩:=h3
 obtain ⟨c3,e3,s3,f3⟩:=a3
 simp only [pick,cond_true,Value.agg.injEq] at e3
 subst e3
 obtain ⟨⟨_,b1⟩,⟨_,b2⟩,⟨_,b3⟩,_⟩:=f3
 dsimp only at a1 a2 b1 b2 b3
 rw [xb8 (by omega) (by omega) (fun _=>rfl)] at b1 b3
 rw [xb8 (by omega) (by omega) (fun h=>by cases h)] at b2
 obtain ⟨c4,e4,s4,f4⟩:=b2
 simp only [pick,cond_true,Value.agg.injEq] at e4
 subst e4
 obtain ⟨⟨_,d1⟩,⟨_,d2⟩,_⟩:=f4
 dsimp only at d1 d2
 rw [xb8 (by omega) (by omega) (fun h=>by cases h)] at d1 d2
 obtain ⟨c5,e5,s5,f5⟩:=d1
 obtain ⟨c6,e6,s6,f6⟩:=d2
 simp only [pick,cond_true,Value.agg.injEq] at e5 e6
 subst e5 e6
 obtain ⟨⟨_,g1⟩,⟨_,g2⟩,_⟩:=f5
 obtain ⟨⟨_,g3⟩,⟨_,g4⟩,_⟩:=f6
 dsimp only at g1 g2 g3 g4
 rw [xb8 (by omega) (by omega) (fun _=>rfl)] at g1 g2 g3 g4
 refine rowV_sat.2 ⟨cs,rfl,h2,fun i e hi=> ?_⟩
 match i,hi with
 | 0,hi=>cases hi;exact a1
 | 1,hi=>cases hi;exact a2
 | 2,hi=>cases hi;exact b1
 | 3,hi=>cases hi;exact g1
 | 4,hi=>cases hi;exact g2
 | 5,hi=>cases hi;exact g3
 | 6,hi=>cases hi;exact g4
 | 7,hi=>cases hi;exact b3
theorem row_ts {lo hi i:Int} {k:Nat} {a b:Bool} {x y:List Nat}:Le (tS (fdOne [tI lo,tI hi,tE (.int .u8 (k:Int)),tB a,tLm x,tB b,tLm y,tI i])) (tTs ⟨lo,hi,⟨k,⟨⟨a,x⟩,⟨b,y⟩⟩,i⟩⟩):=by
 intro F w v hv
 obtain ⟨cs,rfl,h2,h3⟩:=hv
 have h4:cs.size=8:=h2
 obtain ⟨⟨_,b1⟩,⟨_,b2⟩,⟨_,b3⟩,⟨_,b4⟩,⟨_,b5⟩,⟨_,b6⟩,⟨_,b7⟩,⟨_,b8⟩,_⟩:=h3
 dsimp only at b1 b2 b3 b4 b5 b6 b7 b8
 refine ⟨cs,rfl,h2,⟨fun _=>rfl,b1⟩,⟨fun _=>rfl,b2⟩,⟨fun h=>(by cases h),_,rfl,by simp [Fd.sum];omega,⟨fun _=>rfl,?_⟩,⟨fun h=>(by cases h),_,rfl,by simp [Fd.sum];omega,
  ⟨fun h=>(by cases h),_,rfl,by simp [Fd.sum];omega,⟨fun _=>rfl,?_⟩,⟨fun _=>rfl,?_⟩,trivial⟩,⟨fun h=>(by cases h),_,rfl,by simp [Fd.sum];omega,⟨fun _=>rfl,?_⟩,⟨fun _=>rfl,?_⟩,trivial⟩,trivial⟩,⟨fun _=>rfl,?_⟩,trivial⟩,trivial⟩ <;> dsimp only
 ·rw [xb8 (by omega) (by omega) (fun _=>rfl)];exact b3
 ·rw [xb8 (by simp;omega) (by omega) (fun _=>rfl),xb8 (by simp;omega) (by omega) (fun _=>rfl),xb8 (by omega) (by omega) (fun _=>rfl)];exact b4
 ·rw [xb8 (by simp;omega) (by omega) (fun _=>rfl),xb8 (by simp;omega) (by omega) (fun _=>rfl),xb8 (by omega) (by omega) (fun _=>rfl)];exact b5
 ·rw [xb8 (by simp;omega) (by omega) (fun _=>rfl),xb8 (by simp;omega) (by omega) (fun _=>rfl),xb8 (by omega) (by omega) (fun _=>rfl)];exact b6
 ·rw [xb8 (by simp;omega) (by omega) (fun _=>rfl),xb8 (by simp;omega) (by omega) (fun _=>rfl),xb8 (by omega) (by omega) (fun _=>rfl)];exact b7
 ·rw [xb8 (by omega) (by omega) (fun _=>rfl)];exact b8
theorem xh2 {a b n d:Int} (h1: -9223372036854775808≤n) (h2:n≤9223372036854775807) (hd:0 < d) (h3:d≤9223372036854775807):gdS ⟨a,b,xc n d⟩:=gd_kfr h1 h2 hd h3
def ends9:List Int:=[0,1,30,31,32,58,59,60,89,90,91,119,120,121]
def nums9:List Int:=[-9223372036854775808, -1,0,1,2,1200,1201,65535,65536,65537,9223372036854775807]
def frm9:List Int:=[0,31,59,90]
def til9:List Int:=[31,59,90,120]
theorem ends9_len:ends9.length=14:=rfl
theorem nums9_len:nums9.length=11:=rfl
theorem frm9_len:frm9.length=4:=rfl
theorem til9_len:til9.length=4:=rfl
theorem ends9_bd {i:Nat} (h:i < 14):0≤ends9.getD i 0∧ends9.getD i 0≤121:=by
 have: ∀i:Fin 14,0≤ends9.getD i.val 0∧ends9.getD i.val 0≤121:=by decide
 exact this ⟨i,h⟩
theorem til9_bd {i:Nat} (h:i < 4):0≤til9.getD i 0∧til9.getD i 0≤120:=by
 have: ∀i:Fin 4,0≤til9.getD i.val 0∧til9.getD i.val 0≤120:=by decide
 exact this ⟨i,h⟩
section
variable (l:List Tst) (hg: ∀s∈l,gdS s)
include hg
theorem xk3 (a b n:Int) (hl:l.length≤60):Ct Tryz.prog 7 [tKG KL (tL 8 true tTs l),tI a,tI b,tI n] (tB true):=Ct.swap (c_bests9 l a b n hl (gd_all hg).1 (gd_all hg).2)
theorem c_meansG (a b:Int) (hl:l.length≤60):Ct Tryz.prog 12 [tL 8 true tTs l,tI a,tI b] (tB true):=c_means9 l a b hl (gd_all hg).1 (gd_all hg).2
end
theorem c_bestsNil:Ct Tryz.prog 7 [tKG KL (tE (.slice none 0 0)),tI 0,tI 99,tI 1] (tB true):=fun F w vs hv=>xk3 [] (fun s hs=>by cases hs) 0 99 1 (by simp) F w vs (kg_nil hv)
abbrev P11:Fr:=fr (kfr 1 1)
abbrev LNG9:Tst:=⟨31,59,⟨3,⟨⟨P11.n.neg,fil 256⟩,P11.d⟩,0⟩⟩
theorem lng9_ok:gdS LNG9:=by
 have h:=gd_kfr (n:=1) (d:=1) (by decide) (by decide) (by decide) (by decide)
 exact ⟨⟨fil_dig,h.1.2⟩,by show (fil 256).length≤256;rw [fil_len (Nat.le_refl _)];decide,h.2.2⟩
theorem c_SlSmall:
  Ct0 KL Tryz.prog 4 (tB true):=by
 refine Ct0.intro 250 Tryz.func4 rfl Tryz.ntmps4 rfl ?_
 intro w F
 refine xc8 ?_
 refine xd5 ?_
 refine R1 xd7 rfl (xd4 (by kernel_rfl) (xb5 (xc8 ?_)))
 refine xd5 ?_
 refine RE (xc6 (n:=14) (f:=(fun n:Int=>tI n)) ends9 Tryz.underlying27 el3 zf3 rfl (fun _=>inferInstance) rfl rfl rfl) ⟨rfl,rfl,rfl,rfl,rfl,rfl,rfl,rfl,rfl,rfl,rfl,rfl,rfl,rfl,trivial⟩ trivial trivial (R1 xd7 rfl (xd4 (by kernel_rfl) (xb5 (xc8 (xc8 ?_)))))
 refine xd5 ?_
 refine R1 xd7 rfl (xd4 (by kernel_rfl) (xb5 (xm8 ?_)))
 refine cL (fun (n:Nat)=>n≤64) (fun (n:Nat)=>upd (upd (upd (fun _=>none) 1 (some (.val (tL 1 false (fun n:Int=>tI n) ends9)))) 2 (some (.val (tI n)))) 250 (some (.val (tK KL)))) (fun (n:Nat)=>fun _=>none) [] (fun (n:Nat)=>64 - n) (0) (Nat.zero_le _) ?_
 intro n hI
 refine xc8 (xc8 ?_)
 refine xd5 ?_
 refine R1 xa0 rfl (R2 d_lss rfl rfl (xd4 (by kernel_rfl) (xb5 ?_)))
 refine x9 rfl (fun h87=> ?_) (fun h87=> ?_)
 ·
  refine xo9 (xb5 (xc8 (xm8 (xc8 ?_))))
  refine xd5 ?_
  refine RE (xj2 (k:=3) 37 8 true rfl (fun h=>by cases h)) trivial trivial ⟨rfl,trivial⟩ (xd4 (by kernel_rfl) (xb5 (xc8 (xc8 ?_))))
  refine xd5 ?_
  refine RE (xc6 (n:=4) (f:=(fun n:Int=>tI n)) frm9 Tryz.underlying27 el3 zf3 rfl (fun _=>inferInstance) rfl rfl rfl) ⟨rfl,rfl,rfl,rfl,trivial⟩ trivial trivial (R1 (d_len Tryz.underlying27) rfl (R1 xa0 rfl (xd4 (by kernel_rfl) (xb5 (xm8 ?_)))))
  refine cL (fun (fm:(Nat)×(List Tst))=>(fun (i:Nat) (xs:List Tst)=>i≤4∧xs.length≤i∧ ∀s∈xs,gdS s) fm.1 fm.2) (fun (fm:(Nat)×(List Tst))=>(fun (i:Nat) (xs:List Tst)=>upd (upd (upd (upd (upd (upd (upd (fun _=>none) 1 (some (.val (tL 1 false (fun n:Int=>tI n) ends9)))) 2 (some (.val (tI n)))) 3 (some (.own (.sl 3 8 0 xs.length)))) 22 (some (.val (tL 1 false (fun n:Int=>tI n) frm9)))) 23 (some (.val (tI 4)))) 24 (some (.val (tI i)))) 250 (some (.val (tK KL)))) fm.1 fm.2) (fun (fm:(Nat)×(List Tst))=>(fun (i:Nat) (xs:List Tst)=>upd (fun _=>none) 3 (some (⟨37,8,true,rV tTs xs⟩))) fm.1 fm.2) [3] (fun (fm:(Nat)×(List Tst))=>(fun (i:Nat) (xs:List Tst)=>4 - i) fm.1 fm.2) ((0,[])) (by dsimp only;exact ⟨Nat.zero_le _,Nat.le_refl _,fun s hs=>by cases hs⟩) (hh:=((SubK.consI rfl ImpK.refl) SubK.nil)) ?_
  intro fm hI2
  obtain ⟨i,xs⟩:=fm
  replace hI2:i≤4∧xs.length≤i∧ ∀s∈xs,gdS s:=hI2
  show wc _ _ _ _ (upd (upd (upd (upd (upd (upd (upd (fun _=>none) 1 (some (.val (tL 1 false (fun n:Int=>tI n) ends9)))) 2 (some (.val (tI n)))) 3 (some (.own (.sl 3 8 0 xs.length)))) 22 (some (.val (tL 1 false (fun n:Int=>tI n) frm9)))) 23 (some (.val (tI 4)))) 24 (some (.val (tI i)))) 250 (some (.val (tK KL)))) (upd (fun _=>none) 3 (some (⟨37,8,true,rV tTs xs⟩))) _
  obtain ⟨hi,hxl,hg⟩:=hI2
  obtain ⟨x,hx⟩: ∃x,x=n / 2 ^ i:=⟨_,rfl⟩
  refine xc8 ?_
  refine xd5 ?_
  refine R2 d_lss rfl rfl (xd4 (by kernel_rfl) (xb5 (xc8 ?_)))
  refine x9 rfl (fun h89=> ?_) (fun h89=> ?_)
  ·
   refine xo9 (xb5 (xc8 (xm8 (xc8 ?_))))
   refine xd5 ?_
   refine R1 xa0 rfl (R2 (x6 sl27 (i) (by omega) (gD (l:=frm9) (n:=i) (d:=0) (by rw [frm9_len];omega))) rfl rfl (R1 (xi3 ti3) rfl (R1 xd7 rfl (R1 xd7 rfl (xd4 (by kernel_rfl) (xb5 (xc8 ?_)))))))
   refine xd5 ?_
   refine R1 xa0 rfl (R1 xa0 rfl (R2 (xh4 (r:=((x:Nat):Int)) (by omega) (by rw [hx];exact shrN (s:=i) rfl (show i≤64 by omega))) rfl rfl (R2 (xi6 (by omega) (by omega)) rfl rfl (R2 (xi5 (wr64 (by omega) (by omega))) rfl rfl (R2 (xc9 (wr64 (by omega) (by omega))) rfl rfl (R1 xa0 rfl (R2 (xi6 (by omega) (by omega)) rfl rfl ?_)))))))
   refine R2 (xc9 (wr64 (by omega) (by omega))) rfl rfl (R1 xd7 rfl (xd4 (by kernel_rfl) (xb5 (xc8 ?_))))
   refine xd5 ?_
   refine RE (xc6 (n:=4) (f:=(fun n:Int=>tI n)) til9 Tryz.underlying27 el3 zf3 rfl (fun _=>inferInstance) rfl rfl rfl) ⟨rfl,rfl,rfl,rfl,trivial⟩ trivial trivial (R1 xa0 rfl (R2 (x6 sl27 (i) (by omega) (gD (l:=til9) (n:=i) (d:=0) (by rw [til9_len];omega))) rfl rfl ?_))
   have htb:=til9_bd (i:=i) (by omega)
   refine R1 (xi3 ti3) rfl (R1 xa0 rfl (R2 (xh4 (r:=((n / 16:Nat):Int)) (by decide) ((shrN (s:=4) rfl (by decide)).trans (by simp))) rfl rfl (R2 (xi6 (by omega) (by omega)) rfl rfl (R1 xa0 rfl (R2 (xi6 (by omega) (by omega)) rfl rfl ?_)))))
   have hbm:=bit_mul (a:=((n / 16:Nat):Int)%2) (b:=(i:Int)%2) (by omega) (by omega)
   refine R2 (xi5 (wr64 (by omega) (by omega))) rfl rfl (R2 (xe4 (wr64 (by omega) (by omega))) rfl rfl (R1 xd7 rfl (xd4 (by kernel_rfl) (xb5 (xc8 (xc8 ?_))))))
   refine xd5 ?_
   refine R1 xa0 rfl (R1 (d_lenO Tryz.underlying22) rfl (R2 (xe4 (wr64 (by omega) (by omega))) rfl rfl (R1 xd7 rfl (xd4 (by kernel_rfl) (xb5 (xc8 ?_))))))
   refine C_draw mixed ?_
   refine R1 xa0 rfl (R2 d_geq rfl rfl (R1 xa0 rfl ?_))
   refine RGcaseD (t:=54) rfl (fun h92=> ?_) (fun h92=> ?_)
   ·
    refine RGon (decide_eq_true h92) rfl xa0 rfl ⟨rfl,trivial⟩ trivial trivial (RGon (decide_eq_true h92) rfl xa0 rfl ⟨rfl,trivial⟩ trivial trivial (RGon (decide_eq_true h92) rfl (xa5 sl22 (by omega) (by omega) rfl) rfl ⟨rfl,rfl,trivial⟩ trivial trivial (RGon (decide_eq_true h92) rfl (xd2 fo37_1.h rfl) rfl ⟨rfl,trivial⟩ trivial trivial (RGon (decide_eq_true h92) rfl (xr0 (es:=8) (o:=1) (xs.length - 1) ti3 (xn1 (d:=tst0) (by omega)) (At.g 1 rfl rfl) (by omega)) rfl ⟨rfl,trivial⟩ ⟨rfl,trivial⟩ trivial (RGon (decide_eq_true h92) rfl xa0 rfl ⟨rfl,trivial⟩ trivial trivial (RGon (decide_eq_true h92) rfl d_eql rfl ⟨rfl,rfl,trivial⟩ trivial trivial (R2 (xe3 (decide_eq_true h92)) rfl rfl ?_)))))))
    refine R1 xa0 rfl ?_
    refine RGcaseD (t:=63) rfl (fun h92_2=> ?_) (fun h92_2=> ?_)
    ·
     refine RGon (decide_eq_true h92_2) rfl xa0 rfl ⟨rfl,trivial⟩ trivial trivial (RGon (decide_eq_true h92_2) rfl xa0 rfl ⟨rfl,trivial⟩ trivial trivial (RGon (decide_eq_true h92_2) rfl (xa5 sl22 (by omega) (by omega) rfl) rfl ⟨rfl,rfl,trivial⟩ trivial trivial (RGon (decide_eq_true h92_2) rfl (xd2 fo37_2.h rfl) rfl ⟨rfl,trivial⟩ trivial trivial (RGon (decide_eq_true h92_2) rfl (xr0 (es:=8) (o:=2) (xs.length - 1) ti35 (xn1 (d:=tst0) (by omega)) (At.g 2 rfl rfl) (by omega)) rfl ⟨rfl,trivial⟩ ⟨rfl,trivial⟩ trivial (RGon (decide_eq_true h92_2) rfl xa0 rfl ⟨rfl,trivial⟩ trivial trivial (RGon (decide_eq_true h92_2) rfl (x3 (c_Cash (5+(x:Int)%2*3+(i:Int)%2) 1 (by omega) (by omega) (by decide) (by decide)) fi10 rfl) rfl ⟨rfl,rfl,trivial⟩ trivial trivial (RGon (decide_eq_true h92_2) rfl (x3 (xw1 _ _) fi9 rfl) rfl ⟨rfl,rfl,trivial⟩ trivial trivial ?_)))))))
     refine R2 (xe3 (decide_eq_true h92_2)) rfl rfl (R_end (by kernel_rfl) (xb5 ?_))
     refine x9 rfl (fun h92_3=> ?_) (fun h92_3=> ?_)
     ·
      refine xc8 ?_
      refine xd5 ?_
      refine R1 xa0 rfl (R1 xa0 rfl (R1 xa0 rfl (R2 (xa5 sl22 (by omega) (by omega) rfl) rfl rfl (R1 (xd2 fo37_1.h rfl) rfl (RE (xs8 (es:=8) (o:=1) (t2:=tTs ⟨(xs.getD (xs.length - 1) tst0).lo,(til9.getD i 0 - ((n / 16:Nat):Int)%2*((i:Int)%2)),(xs.getD (xs.length - 1) tst0).v⟩) (xs.length - 1) ti3 (xn1 (d:=tst0) (by omega)) (Up.g 1 rfl rfl rfl) (by omega) (rV_set rfl)) ⟨rfl,rfl,trivial⟩ ⟨rfl,trivial⟩ trivial (xd4 (by kernel_rfl) (xb5 ?_)))))))
      refine C_exit (K_exT (K_exB (xb5 ?_)))
      refine xd5 ?_
      refine R2 (xc9 (wr64 (by omega) (by omega))) rfl rfl (R1 xa0 rfl (xd4 (by kernel_rfl) ?_))
      exact kF ((i+1,(xs.set (xs.length - 1) ⟨(xs.getD (xs.length - 1) tst0).lo,(til9.getD i 0 - ((n / 16:Nat):Int)%2*((i:Int)%2)),(xs.getD (xs.length - 1) tst0).v⟩))) ⟨(by dsimp only;exact ⟨by omega,by rw [List.length_set];omega,gd_set hg (hg (xs.getD (xs.length - 1) tst0) (xb9 (l:=xs) (i:=xs.length - 1) (by omega)))⟩),(by dsimp only;omega)⟩ (hg:=(sC (sI (sI (sC ((Sub.consI rfl (Imp.of (by dsimp only;rw [List.length_set]))) (sI (sC Sub.nil)))))))) (hh:=((SubK.consI rfl ImpK.refl) SubK.nil))
     ·
      refine xo9 (xb5 ?_)
      refine xd5 ?_
      refine R1 xa0 rfl (R1 xa0 rfl (R1 xa0 rfl (R1 xa0 rfl (RE (x3 (c_pay (frm9.getD i 0) (til9.getD i 0 - ((n / 16:Nat):Int)%2*((i:Int)%2)) (5+(x:Int)%2*3+(i:Int)%2) 1 (by omega) (by omega) (by decide) (by decide)) fi11 rfl) ⟨rfl,rfl,rfl,rfl,trivial⟩ trivial trivial (R1 (xc6 (n:=1) (f:=tTs) [(⟨frm9.getD i 0,(til9.getD i 0 - ((n / 16:Nat):Int)%2*((i:Int)%2)),xc (5+(x:Int)%2*3+(i:Int)%2) 1⟩:Tst)] Tryz.underlying22 el37 zf37 rfl (fun _=>inferInstance) rfl rfl rfl) rfl (RE (xc2 (k:=3) (k':=84) (f:=tTs) (ys:=[(⟨frm9.getD i 0,(til9.getD i 0 - ((n / 16:Nat):Int)%2*((i:Int)%2)),xc (5+(x:Int)%2*3+(i:Int)%2) 1⟩:Tst)]) (ts':=rV tTs (xs++[(⟨frm9.getD i 0,(til9.getD i 0 - ((n / 16:Nat):Int)%2*((i:Int)%2)),xc (5+(x:Int)%2*3+(i:Int)%2) 1⟩:Tst)])) Tryz.underlying22 el37 zf37 rfl rfl (fun _=>inferInstance) xg3 (by simp;omega) (by simp;omega) (by simp [rV]) (n':=xs.length+1) rfl) ⟨rfl,rfl,trivial⟩ ⟨rfl,trivial⟩ ⟨rfl,trivial⟩ (R1 xd7 rfl ?_)))))))
      refine xd4 (by kernel_rfl) (K_norB (xb5 ?_))
      refine xd5 ?_
      refine R2 (xc9 (wr64 (by omega) (by omega))) rfl rfl (R1 xa0 rfl (xd4 (by kernel_rfl) ?_))
      exact xf7 (l:=[3]) (fun j=>cond (Nat.beq j 3) 84 (j)) ((i+1,xs++[(⟨frm9.getD i 0,(til9.getD i 0 - ((n / 16:Nat):Int)%2*((i:Int)%2)),xc (5+(x:Int)%2*3+(i:Int)%2) 1⟩:Tst)])) ⟨(by dsimp only;exact ⟨by omega,by rw [List.length_append];simp;omega,gd_snoc hg (xh2 (by omega) (by omega) (by decide) (by decide))⟩),(by dsimp only;omega)⟩ (SubR.cons rfl (SubR.int rfl (by first | omega | rfl | (dsimp only;omega)) (SubR.int rfl (by first | omega | rfl | (dsimp only;omega)) (SubR.cons rfl ((SubR.consI rfl (Imp.of (by dsimp only;rw [List.length_append];rfl))) (SubR.int rfl (by first | omega | rfl | (dsimp only;omega)) (SubR.cons rfl SubR.nil))))))) ((SubKR.consI rfl (ImpK.of xf4.symm)) SubKR.nil) (SupG.val (SupG.val (SupG.val (SupG.val (SupG.own rfl (SupG.val (SupG.val SupG.nil))))))) (SupH.cons rfl (supJ xd3) SupH.nil) (lkOk rfl) rfl rfl (fun _ h=>by cases h)
    ·
     refine RGoff (decide_eq_false h92_2) rfl rfl (RGoff (decide_eq_false h92_2) rfl rfl (RGoff (decide_eq_false h92_2) rfl rfl (RGoff (decide_eq_false h92_2) rfl rfl (RGoff (decide_eq_false h92_2) rfl rfl (RGoff (decide_eq_false h92_2) rfl rfl (RGoff (decide_eq_false h92_2) rfl rfl (RGoff (decide_eq_false h92_2) rfl rfl ?_)))))))
     refine R2 (xc4 (decide_eq_false h92_2)) rfl rfl (R_end (by kernel_rfl) (xb5 (C_bF rfl rfl (xo9 (xb5 ?_)))))
     refine xd5 ?_
     refine R1 xa0 rfl (R1 xa0 rfl (R1 xa0 rfl (R1 xa0 rfl (RE (x3 (c_pay (frm9.getD i 0) (til9.getD i 0 - ((n / 16:Nat):Int)%2*((i:Int)%2)) (5+(x:Int)%2*3+(i:Int)%2) 1 (by omega) (by omega) (by decide) (by decide)) fi11 rfl) ⟨rfl,rfl,rfl,rfl,trivial⟩ trivial trivial (R1 (xc6 (n:=1) (f:=tTs) [(⟨frm9.getD i 0,(til9.getD i 0 - ((n / 16:Nat):Int)%2*((i:Int)%2)),xc (5+(x:Int)%2*3+(i:Int)%2) 1⟩:Tst)] Tryz.underlying22 el37 zf37 rfl (fun _=>inferInstance) rfl rfl rfl) rfl (RE (xc2 (k:=3) (k':=84) (f:=tTs) (ys:=[(⟨frm9.getD i 0,(til9.getD i 0 - ((n / 16:Nat):Int)%2*((i:Int)%2)),xc (5+(x:Int)%2*3+(i:Int)%2) 1⟩:Tst)]) (ts':=rV tTs (xs++[(⟨frm9.getD i 0,(til9.getD i 0 - ((n / 16:Nat):Int)%2*((i:Int)%2)),xc (5+(x:Int)%2*3+(i:Int)%2) 1⟩:Tst)])) Tryz.underlying22 el37 zf37 rfl rfl (fun _=>inferInstance) xg3 (by simp;omega) (by simp;omega) (by simp [rV]) (n':=xs.length+1) rfl) ⟨rfl,rfl,trivial⟩ ⟨rfl,trivial⟩ ⟨rfl,trivial⟩ (R1 xd7 rfl ?_)))))))
     refine xd4 (by kernel_rfl) (K_norB (xb5 ?_))
     refine xd5 ?_
     refine R2 (xc9 (wr64 (by omega) (by omega))) rfl rfl (R1 xa0 rfl (xd4 (by kernel_rfl) ?_))
     exact xf7 (l:=[3]) (fun j=>cond (Nat.beq j 3) 84 (j)) ((i+1,xs++[(⟨frm9.getD i 0,(til9.getD i 0 - ((n / 16:Nat):Int)%2*((i:Int)%2)),xc (5+(x:Int)%2*3+(i:Int)%2) 1⟩:Tst)])) ⟨(by dsimp only;exact ⟨by omega,by rw [List.length_append];simp;omega,gd_snoc hg (xh2 (by omega) (by omega) (by decide) (by decide))⟩),(by dsimp only;omega)⟩ (SubR.cons rfl (SubR.int rfl (by first | omega | rfl | (dsimp only;omega)) (SubR.int rfl (by first | omega | rfl | (dsimp only;omega)) (SubR.cons rfl ((SubR.consI rfl (Imp.of (by dsimp only;rw [List.length_append];rfl))) (SubR.int rfl (by first | omega | rfl | (dsimp only;omega)) (SubR.cons rfl SubR.nil))))))) ((SubKR.consI rfl (ImpK.of xf4.symm)) SubKR.nil) (SupG.val (SupG.val (SupG.val (SupG.val (SupG.own rfl (SupG.val (SupG.val SupG.nil))))))) (SupH.cons rfl (supJ xd3) SupH.nil) (lkOk rfl) rfl rfl (fun _ h=>by cases h)
   ·
    refine RGoff (decide_eq_false h92) rfl rfl (RGoff (decide_eq_false h92) rfl rfl (RGoff (decide_eq_false h92) rfl rfl (RGoff (decide_eq_false h92) rfl rfl (RGoff (decide_eq_false h92) rfl rfl (RGoff (decide_eq_false h92) rfl rfl (RGoff (decide_eq_false h92) rfl rfl (R2 (xc4 (decide_eq_false h92)) rfl rfl ?_)))))))
    refine R1 xa0 rfl (RGoff0 rfl rfl (RGoff0 rfl rfl (RGoff0 rfl rfl (RGoff0 rfl rfl (RGoff0 rfl rfl (RGoff0 rfl rfl (RGoff0 rfl rfl ?_)))))))
    refine RGoff0 rfl rfl (R2 (xc4 rfl) rfl rfl (R_end (by kernel_rfl) (xb5 (C_bF rfl rfl (xo9 (xb5 ?_))))))
    refine xd5 ?_
    refine R1 xa0 rfl (R1 xa0 rfl (R1 xa0 rfl (R1 xa0 rfl (RE (x3 (c_pay (frm9.getD i 0) (til9.getD i 0 - ((n / 16:Nat):Int)%2*((i:Int)%2)) (5+(x:Int)%2*3+(i:Int)%2) 1 (by omega) (by omega) (by decide) (by decide)) fi11 rfl) ⟨rfl,rfl,rfl,rfl,trivial⟩ trivial trivial (R1 (xc6 (n:=1) (f:=tTs) [(⟨frm9.getD i 0,(til9.getD i 0 - ((n / 16:Nat):Int)%2*((i:Int)%2)),xc (5+(x:Int)%2*3+(i:Int)%2) 1⟩:Tst)] Tryz.underlying22 el37 zf37 rfl (fun _=>inferInstance) rfl rfl rfl) rfl (RE (xc2 (k:=3) (k':=84) (f:=tTs) (ys:=[(⟨frm9.getD i 0,(til9.getD i 0 - ((n / 16:Nat):Int)%2*((i:Int)%2)),xc (5+(x:Int)%2*3+(i:Int)%2) 1⟩:Tst)]) (ts':=rV tTs (xs++[(⟨frm9.getD i 0,(til9.getD i 0 - ((n / 16:Nat):Int)%2*((i:Int)%2)),xc (5+(x:Int)%2*3+(i:Int)%2) 1⟩:Tst)])) Tryz.underlying22 el37 zf37 rfl rfl (fun _=>inferInstance) xg3 (by simp;omega) (by simp;omega) (by simp [rV]) (n':=xs.length+1) rfl) ⟨rfl,rfl,trivial⟩ ⟨rfl,trivial⟩ ⟨rfl,trivial⟩ (R1 xd7 rfl ?_)))))))
    refine xd4 (by kernel_rfl) (K_norB (xb5 ?_))
    refine xd5 ?_
    refine R2 (xc9 (wr64 (by omega) (by omega))) rfl rfl (R1 xa0 rfl (xd4 (by kernel_rfl) ?_))
    exact xf7 (l:=[3]) (fun j=>cond (Nat.beq j 3) 84 (j)) ((i+1,xs++[(⟨frm9.getD i 0,(til9.getD i 0 - ((n / 16:Nat):Int)%2*((i:Int)%2)),xc (5+(x:Int)%2*3+(i:Int)%2) 1⟩:Tst)])) ⟨(by dsimp only;exact ⟨by omega,by rw [List.length_append];simp;omega,gd_snoc hg (xh2 (by omega) (by omega) (by decide) (by decide))⟩),(by dsimp only;omega)⟩ (SubR.cons rfl (SubR.int rfl (by first | omega | rfl | (dsimp only;omega)) (SubR.int rfl (by first | omega | rfl | (dsimp only;omega)) (SubR.cons rfl ((SubR.consI rfl (Imp.of (by dsimp only;rw [List.length_append];rfl))) (SubR.int rfl (by first | omega | rfl | (dsimp only;omega)) (SubR.cons rfl SubR.nil))))))) ((SubKR.consI rfl (ImpK.of xf4.symm)) SubKR.nil) (SupG.val (SupG.val (SupG.val (SupG.val (SupG.own rfl (SupG.val (SupG.val SupG.nil))))))) (SupH.cons rfl (supJ xd3) SupH.nil) (lkOk rfl) rfl rfl (fun _ h=>by cases h)
  ·
   refine C_exit (K_exT (K_exT (K_exB (xb5 (xc8 (C_give (t:=3) (k:=3) (f:=tTs) (xs:=xs) rfl rfl (fun _ h=>h) (xn8 rfl) rfl ?_))))))
   refine xd5 ?_
   refine R1 xd7 rfl (xd4 (by kernel_rfl) (xb5 (xm8 ?_)))
   refine cL (fun (j:Nat)=>j≤14) (fun (j:Nat)=>upd (upd (upd (upd (upd (fun _=>none) 1 (some (.val (tL 1 false (fun n:Int=>tI n) ends9)))) 2 (some (.val (tI n)))) 3 (some (.val (tL 8 true tTs xs)))) 9 (some (.val (tI j)))) 250 (some (.val (tK KL)))) (fun (j:Nat)=>fun _=>none) [] (fun (j:Nat)=>14 - j) (0) (Nat.zero_le _) ?_
   intro j hI3
   have hel:=ends9_len
   refine xc8 (xc8 ?_)
   refine xd5 ?_
   refine R1 xa0 rfl (R1 xa0 rfl (R1 (d_len Tryz.underlying27) rfl (R2 d_lss rfl rfl (xd4 (by kernel_rfl) (xb5 ?_)))))
   refine x9 rfl (fun h98=> ?_) (fun h98=> ?_)
   ·
    refine xo9 (xb5 (xc8 (xm8 (xc8 ?_))))
    refine C_draw mixed ?_
    refine R1 xa0 rfl (R1 xa0 rfl (R1 xa0 rfl (R2 (x6 sl27 (j) (by omega) (gD (l:=ends9) (n:=j) (d:=0) (by rw [ends9_len];omega))) rfl rfl ?_)))
    have heb:=ends9_bd (i:=j) (by omega)
    refine R1 (xi3 ti3) rfl (R1 xa0 rfl (R2 (xi6 (by omega) (by omega)) rfl rfl ?_))
    have hbm:=bit_mul (a:=(n:Int)%2) (b:=ends9.getD j 0) (by omega) (by omega)
    rw [Int.mul_comm] at hbm
    refine R2 (xi5 (wr64 (by omega) (by omega))) rfl rfl (R1 xa0 rfl (R1 xa0 rfl (R1 (d_len Tryz.underlying27) rfl (R2 (xe4 (wr64 (by omega) (by omega))) rfl rfl (R1 xa0 rfl (R2 (xi6 (by omega) (by omega)) rfl rfl (R2 (xe4 (wr64 (by omega) (by omega))) rfl rfl ?_)))))))
    refine R2 (x6 sl27 (13 - j%3) (by omega) (gD (l:=ends9) (n:=13 - j%3) (d:=0) (by rw [ends9_len];omega))) rfl rfl (R1 (xi3 ti3) rfl (R1 xa0 rfl (R2 (xi6 (by omega) (by omega)) rfl rfl (R2 (xc9 (wr64 (by omega) (by omega))) rfl rfl (RE (xf5 250 xh5 (xk3 xs hg _ _ _ (by omega)) fi7 rfl) ⟨rfl,rfl,rfl,rfl,rfl,trivial⟩ trivial trivial (R1 xj4 rfl (R1 xa0 rfl ?_)))))))
    refine RGon rfl rfl xa0 rfl ⟨rfl,trivial⟩ trivial trivial (RGon rfl rfl xa0 rfl ⟨rfl,trivial⟩ trivial trivial (RGon rfl rfl xa0 rfl ⟨rfl,trivial⟩ trivial trivial (RGon rfl rfl (x6 sl27 (j) (by omega) (gD (l:=ends9) (n:=j) (d:=0) (by rw [ends9_len];omega))) rfl ⟨rfl,rfl,trivial⟩ trivial trivial (RGon rfl rfl (xi3 ti3) rfl ⟨rfl,trivial⟩ trivial trivial (RGon rfl rfl xa0 rfl ⟨rfl,trivial⟩ trivial trivial (RGon rfl rfl xa0 rfl ⟨rfl,trivial⟩ trivial trivial (RGon rfl rfl (d_len Tryz.underlying27) rfl ⟨rfl,trivial⟩ trivial trivial ?_)))))))
    refine RGon rfl rfl (xe4 (wr64 (by omega) (by omega))) rfl ⟨rfl,rfl,trivial⟩ trivial trivial (RGon rfl rfl xa0 rfl ⟨rfl,trivial⟩ trivial trivial (RGon rfl rfl (xi6 (by omega) (by omega)) rfl ⟨rfl,rfl,trivial⟩ trivial trivial (RGon rfl rfl (xe4 (wr64 (by omega) (by omega))) rfl ⟨rfl,rfl,trivial⟩ trivial trivial (RGon rfl rfl (x6 sl27 (13 - n%14) (by omega) (gD (l:=ends9) (n:=13 - n%14) (d:=0) (by rw [ends9_len];omega))) rfl ⟨rfl,rfl,trivial⟩ trivial trivial (RGon rfl rfl (xi3 ti3) rfl ⟨rfl,trivial⟩ trivial trivial (RGon rfl rfl (x3 (c_meansG xs hg _ _ (by omega)) fi12 rfl) rfl ⟨rfl,rfl,rfl,trivial⟩ trivial trivial (RGon rfl rfl xj4 rfl ⟨rfl,trivial⟩ trivial trivial ?_)))))))
    refine R2 (xc4 rfl) rfl rfl (R_end (by kernel_rfl) (xb5 (C_bF rfl rfl (xo9 (K_norB (xb5 ?_))))))
    refine xd5 ?_
    refine R1 xa0 rfl (R2 (xc9 (wr64 (by omega) (by omega))) rfl rfl (R1 xd7 rfl (xd4 (by kernel_rfl) ?_)))
    exact kF (j+1) ⟨(by omega),(by omega)⟩
   ·
    refine C_exit (K_exT (K_exT (K_exB (K_norB (xb5 ?_)))))
    refine xd5 ?_
    refine R1 xa0 rfl (R2 (xc9 (wr64 (by omega) (by omega))) rfl rfl (R1 xd7 rfl (xd4 (by kernel_rfl) ?_)))
    exact kF (n+1) ⟨(by omega),(by omega)⟩
 ·
  refine C_exit (K_exT (K_exT (K_exB (xb5 (xc8 ?_)))))
  refine xd5 ?_
  refine RE (x3 (c_pay 65336 65536 7 1 (by decide) (by decide) (by decide) (by decide)) fi11 rfl) ⟨rfl,rfl,rfl,rfl,trivial⟩ trivial trivial (R1 (xc6 (n:=1) (f:=tTs) [(⟨65336,65536,xc 7 1⟩:Tst)] Tryz.underlying22 el37 zf37 rfl (fun _=>inferInstance) rfl rfl rfl) rfl (R1 xd7 rfl (xd4 (by kernel_rfl) (xb5 (xc8 ?_)))))
  refine xd5 ?_
  refine RE (xc6 (n:=11) (f:=(fun n:Int=>tI n)) nums9 Tryz.underlying27 el3 zf3 rfl (fun _=>inferInstance) rfl rfl rfl) ⟨rfl,rfl,rfl,rfl,rfl,rfl,rfl,rfl,rfl,rfl,rfl,trivial⟩ trivial trivial (R1 xd7 rfl (xd4 (by kernel_rfl) (xb5 (xc8 (xc8 ?_)))))
  refine xd5 ?_
  refine R1 xd7 rfl (xd4 (by kernel_rfl) (xb5 (xm8 ?_)))
  refine cL (fun (i:Nat)=>i≤11) (fun (i:Nat)=>upd (upd (upd (upd (fun _=>none) 10 (some (.val (tL 8 true tTs [(⟨65336,65536,xc 7 1⟩:Tst)])))) 11 (some (.val (tL 1 false (fun n:Int=>tI n) nums9)))) 12 (some (.val (tI i)))) 250 (some (.val (tK KL)))) (fun (i:Nat)=>fun _=>none) [] (fun (i:Nat)=>11 - i) (0) (Nat.zero_le _) ?_
  intro i hI
  have hnl:=nums9_len
  refine xc8 (xc8 ?_)
  refine xd5 ?_
  refine R1 xa0 rfl (R1 xa0 rfl (R1 (d_len Tryz.underlying27) rfl (R2 d_lss rfl rfl (xd4 (by kernel_rfl) (xb5 ?_)))))
  refine x9 rfl (fun h106=> ?_) (fun h106=> ?_)
  ·
   refine xo9 (xb5 (xc8 (xm8 (xc8 ?_))))
   refine xd5 ?_
   refine R1 xa0 rfl (R1 xa0 rfl (R1 xa0 rfl (R2 (x6 sl27 (i) (by omega) (gD (l:=nums9) (n:=i) (d:=0) (by rw [nums9_len];omega))) rfl rfl (R1 (xi3 ti3) rfl (RE (xf5 250 xh5 (xk3 [(⟨65336,65536,xc 7 1⟩:Tst)] (gd_one (xh2 (by decide) (by decide) (by decide) (by decide))) _ _ _ (by simp)) fi7 rfl) ⟨rfl,rfl,rfl,rfl,rfl,trivial⟩ trivial trivial (R1 xj4 rfl (R1 xa0 rfl ?_)))))))
   refine RGon rfl rfl xa0 rfl ⟨rfl,trivial⟩ trivial trivial (RGon rfl rfl xa0 rfl ⟨rfl,trivial⟩ trivial trivial (RGon rfl rfl xa0 rfl ⟨rfl,trivial⟩ trivial trivial (RGon rfl rfl (x6 sl27 (i) (by omega) (gD (l:=nums9) (n:=i) (d:=0) (by rw [nums9_len];omega))) rfl ⟨rfl,rfl,trivial⟩ trivial trivial (RGon rfl rfl (xi3 ti3) rfl ⟨rfl,trivial⟩ trivial trivial (RGon rfl rfl (xf5 250 xh5 (xk3 [(⟨65336,65536,xc 7 1⟩:Tst)] (gd_one (xh2 (by decide) (by decide) (by decide) (by decide))) _ _ _ (by simp)) fi7 rfl) rfl ⟨rfl,rfl,rfl,rfl,rfl,trivial⟩ trivial trivial (RGon rfl rfl xj4 rfl ⟨rfl,trivial⟩ trivial trivial (R2 (xc4 rfl) rfl rfl ?_)))))))
   refine R1 xa0 rfl (RGon rfl rfl xa0 rfl ⟨rfl,trivial⟩ trivial trivial (RGon rfl rfl xa0 rfl ⟨rfl,trivial⟩ trivial trivial (RGon rfl rfl xa0 rfl ⟨rfl,trivial⟩ trivial trivial (RGon rfl rfl (x6 sl27 (i) (by omega) (gD (l:=nums9) (n:=i) (d:=0) (by rw [nums9_len];omega))) rfl ⟨rfl,rfl,trivial⟩ trivial trivial (RGon rfl rfl (xi3 ti3) rfl ⟨rfl,trivial⟩ trivial trivial (RGon rfl rfl (xf5 250 xh5 (xk3 [(⟨65336,65536,xc 7 1⟩:Tst)] (gd_one (xh2 (by decide) (by decide) (by decide) (by decide))) _ _ _ (by simp)) fi7 rfl) rfl ⟨rfl,rfl,rfl,rfl,rfl,trivial⟩ trivial trivial (RGon rfl rfl xj4 rfl ⟨rfl,trivial⟩ trivial trivial ?_)))))))
   refine R2 (xc4 rfl) rfl rfl (R1 xa0 rfl (RGon rfl rfl xa0 rfl ⟨rfl,trivial⟩ trivial trivial (RGon rfl rfl xa0 rfl ⟨rfl,trivial⟩ trivial trivial (RGon rfl rfl xa0 rfl ⟨rfl,trivial⟩ trivial trivial (RGon rfl rfl (x6 sl27 (i) (by omega) (gD (l:=nums9) (n:=i) (d:=0) (by rw [nums9_len];omega))) rfl ⟨rfl,rfl,trivial⟩ trivial trivial (RGon rfl rfl (xi3 ti3) rfl ⟨rfl,trivial⟩ trivial trivial (RGon rfl rfl (x3 (c_meansG [(⟨65336,65536,xc 7 1⟩:Tst)] (gd_one (xh2 (by decide) (by decide) (by decide) (by decide))) _ _ (by simp)) fi12 rfl) rfl ⟨rfl,rfl,rfl,trivial⟩ trivial trivial ?_)))))))
   refine RGon rfl rfl xj4 rfl ⟨rfl,trivial⟩ trivial trivial (R2 (xc4 rfl) rfl rfl (R1 xa0 rfl (RGon rfl rfl xa0 rfl ⟨rfl,trivial⟩ trivial trivial (RGon rfl rfl xa0 rfl ⟨rfl,trivial⟩ trivial trivial (RGon rfl rfl xa0 rfl ⟨rfl,trivial⟩ trivial trivial (RGon rfl rfl (x6 sl27 (i) (by omega) (gD (l:=nums9) (n:=i) (d:=0) (by rw [nums9_len];omega))) rfl ⟨rfl,rfl,trivial⟩ trivial trivial (RGon rfl rfl (xi3 ti3) rfl ⟨rfl,trivial⟩ trivial trivial ?_)))))))
   refine RGon rfl rfl (x3 (c_meansG [(⟨65336,65536,xc 7 1⟩:Tst)] (gd_one (xh2 (by decide) (by decide) (by decide) (by decide))) _ _ (by simp)) fi12 rfl) rfl ⟨rfl,rfl,rfl,trivial⟩ trivial trivial (RGon rfl rfl xj4 rfl ⟨rfl,trivial⟩ trivial trivial (R2 (xc4 rfl) rfl rfl (xd4 (by kernel_rfl) (xb5 (C_bF rfl rfl (xo9 (K_norB ?_)))))))
   refine xb5 ?_
   refine xd5 ?_
   refine R1 xa0 rfl (R2 (xc9 (wr64 (by omega) (by omega))) rfl rfl (R1 xd7 rfl (xd4 (by kernel_rfl) ?_)))
   exact kF (i+1) ⟨(by omega),(by omega)⟩
  ·
   refine C_exit (K_exT (K_exT (K_exB (xb5 (xc8 ?_)))))
   refine xd5 ?_
   refine RE (x3 (c_pay 0 40000 3 2 (by decide) (by decide) (by decide) (by decide)) fi11 rfl) ⟨rfl,rfl,rfl,rfl,trivial⟩ trivial trivial (RE (x3 (c_pay 40000 65536 2 1 (by decide) (by decide) (by decide) (by decide)) fi11 rfl) ⟨rfl,rfl,rfl,rfl,trivial⟩ trivial trivial (R2 (xc6 (n:=2) (f:=tTs) [(⟨0,40000,xc 3 2⟩:Tst),(⟨40000,65536,xc 2 1⟩:Tst)] Tryz.underlying22 el37 zf37 rfl (fun _=>inferInstance) rfl rfl rfl) rfl rfl (R1 xd7 rfl (xd4 (by kernel_rfl) (xb5 (xc8 ?_))))))
   refine C_regY ?_
   refine xh6 (x3 (c_pay 31 59 1 1 (by decide) (by decide) (by decide) (by decide)) fi11 rfl) ⟨rfl,rfl,rfl,rfl,trivial⟩ trivial trivial rfl (xh6 (d_allocC (k:=14) (n:=8) [.int .i64 0,.int .i64 0,.int .u8 0,.bool false,.slice none 0 0,.bool false,.slice none 0 0,.int .i64 0] zr37.1 rfl rfl rfl rfl) trivial trivial ⟨rfl,trivial⟩ rfl (wl_imp (t:=187) rfl (ts_row _) (fun k hk=>by rw [rowV_supp] at hk;cases hk) (xh6 (d_storeM ti37 rfl rfl rfl) ⟨rfl,rfl,trivial⟩ ⟨rfl,trivial⟩ trivial rfl (wl_nil (xb5 (xc8 ?_))))))
   refine xd5 ?_
   refine RE (xh1 (k:=188) (t:=tE (.int .u16 0)) (ts:=rV (fun n:Nat=>tE (.int .u16 (n:Int))) (fil 0)) 256 256 Tryz.underlying29 el42 (fun _ _=>rfl) rfl (by decide) (by decide) (Nat.le_refl _) (by decide) (by decide) (rV_rep (f:=(fun n:Nat=>tE (.int .u16 (n:Int)))) 256 0 rfl)) ⟨rfl,rfl,trivial⟩ trivial ⟨rfl,trivial⟩ (R1 (xd2 fo37_2.h rfl) rfl (R1 (xd2 fo35_1.h rfl) rfl (R1 (xd2 fo33_0.h rfl) rfl (R1 (xd2 fo31_1.h rfl) rfl (RE (xc3 (es:=1) (agg:=false) (4) ti29 rfl rfl rfl) ⟨rfl,rfl,trivial⟩ ⟨rfl,trivial⟩ trivial (xd4 (by kernel_rfl) (xb5 ?_)))))))
   refine xc8 (xc8 ?_)
   refine xd5 ?_
   refine R1 (xd2 fo37_2.h rfl) rfl (R1 (xd2 fo35_1.h rfl) rfl (R1 (xd2 fo33_0.h rfl) rfl (R1 (xd2 fo31_1.h rfl) rfl (RE (xd8 (4) ti29 rfl rfl) ⟨rfl,trivial⟩ ⟨rfl,trivial⟩ trivial (R1 (d_lenO Tryz.underlying29) rfl (R1 xa0 rfl (xd4 (by kernel_rfl) ?_)))))))
   refine xb5 (xm8 ?_)
   refine cL (fun (i:Nat)=>i≤256) (fun (i:Nat)=>upd (upd (upd (upd (upd (fun _=>none) 13 (some (.val (tL 8 true tTs [(⟨0,40000,xc 3 2⟩:Tst),(⟨40000,65536,xc 2 1⟩:Tst)])))) 14 (some (.own (.ptr 14 0)))) 198 (some (.val (tI 256)))) 199 (some (.val (tI i)))) 250 (some (.val (tK KL)))) (fun (i:Nat)=>upd (upd (fun _=>none) 14 (some (⟨37,1,false,[.val (tI 31),.val (tI 59),.val (tE (.int .u8 ((3:Nat):Int))),.val (tB P11.n.neg),.own (.sl 188 1 0 256),.val (tB P11.d.neg),.val (tLm P11.d.l),.val (tI 0)]⟩))) 188 (some (⟨42,1,false,rV (fun n:Nat=>tE (.int .u16 (n:Int))) (fil i)⟩))) [14,188] (fun (i:Nat)=>256 - i) (0) (Nat.zero_le _) (hh:=((SubK.consI rfl ImpK.refl) ((SubK.consI rfl ImpK.refl) SubK.nil))) ?_
   intro i hI
   refine xc8 ?_
   refine xd5 ?_
   refine R2 d_lss rfl rfl (xd4 (by kernel_rfl) (xb5 (xc8 ?_)))
   refine x9 rfl (fun h114=> ?_) (fun h114=> ?_)
   ·
    refine xo9 (xb5 (xc8 (xm8 (xc8 ?_))))
    refine xd5 ?_
    refine R1 xa0 rfl (R1 xd7 rfl (xd4 (by kernel_rfl) (xb5 ?_)))
    refine xd5 ?_
    refine R1 (xd2 fo37_2.h rfl) rfl (R1 (xd2 fo35_1.h rfl) rfl (R1 (xd2 fo33_0.h rfl) rfl (R1 (xd2 fo31_1.h rfl) rfl (RE (xd8 (4) ti29 rfl rfl) ⟨rfl,trivial⟩ ⟨rfl,trivial⟩ trivial (R1 xa0 rfl (R2 (xa5 sl29 (by omega) (by omega) rfl) rfl rfl (RE (xc3 (i) ti42 (rV_lt (by rw [fil_len (by omega)];omega)) (by omega) (rV_set (f:=(fun n:Nat=>tE (.int .u16 (n:Int)))) (m:=65535) rfl)) ⟨rfl,rfl,trivial⟩ ⟨rfl,trivial⟩ trivial ?_)))))))
    refine xd4 (by kernel_rfl) (K_norB (xb5 ?_))
    refine xd5 ?_
    refine R2 (xc9 (wr64 (by omega) (by omega))) rfl rfl (R1 xa0 rfl (xd4 (by kernel_rfl) ?_))
    exact kF (i+1) ⟨(by omega),(by omega)⟩ (hh:=((SubK.consI rfl (ImpK.of (by rw [←fil_set (by omega)]))) ((SubK.consI rfl ImpK.refl) SubK.nil)))
   ·
    refine C_exit (K_exT (K_exT (K_exB (xb5 (xc8 ?_)))))
    have hi6:i=256:=by omega
    subst hi6
    refine C_giveC (q:=14) (j:=188) (f:=(fun n:Nat=>tE (.int .u16 (n:Int)))) (xs:=fil 256) 4 rfl rfl rfl rfl (NoLbK.of fun _ h=>h) (xn8 (fil_len (Nat.le_refl _))) (fil_len (Nat.le_refl _)) rfl ?_
    refine C_draw mixed ?_
    refine RE (x3 (c_pay 0 31 1 1 (by decide) (by decide) (by decide) (by decide)) fi11 rfl) ⟨rfl,rfl,rfl,rfl,trivial⟩ trivial trivial (RE (Does.leV row_ts (d_loadM (us:=[tI 31,tI 59,tE (.int .u8 ((3:Nat):Int)),tB P11.n.neg,tLm (fil 256),tB P11.d.neg,tLm P11.d.l,tI 0]) (t:=tS (fdOne [tI 31,tI 59,tE (.int .u8 ((3:Nat):Int)),tB P11.n.neg,tLm (fil 256),tB P11.d.neg,tLm P11.d.l,tI 0])) ti37 rfl rfl rfl rfl)) ⟨rfl,trivial⟩ ⟨rfl,trivial⟩ trivial (RE (x3 (c_pay 59 90 2 1 (by decide) (by decide) (by decide) (by decide)) fi11 rfl) ⟨rfl,rfl,rfl,rfl,trivial⟩ trivial trivial (R3 (xc6 (n:=3) (f:=tTs) [(⟨0,31,xc 1 1⟩:Tst),LNG9,(⟨59,90,xc 2 1⟩:Tst)] Tryz.underlying22 el37 zf37 rfl (fun _=>inferInstance) rfl rfl rfl) rfl rfl rfl (R1 xd7 rfl (R_end (by kernel_rfl) (xb5 (xc8 ?_)))))))
    refine xd5 ?_
    refine R1 xa0 rfl (RE (xf5 250 xh5 (xk3 [(⟨0,40000,xc 3 2⟩:Tst),(⟨40000,65536,xc 2 1⟩:Tst)] (gd_two (xh2 (by decide) (by decide) (by decide) (by decide)) (xh2 (by decide) (by decide) (by decide) (by decide))) _ _ _ (by simp)) fi7 rfl) ⟨rfl,rfl,rfl,rfl,rfl,trivial⟩ trivial trivial (R1 xa0 rfl (RGon rfl rfl xa0 rfl ⟨rfl,trivial⟩ trivial trivial (RGon rfl rfl (xf5 250 xh5 (xk3 [(⟨0,40000,xc 3 2⟩:Tst),(⟨40000,65536,xc 2 1⟩:Tst)] (gd_two (xh2 (by decide) (by decide) (by decide) (by decide)) (xh2 (by decide) (by decide) (by decide) (by decide))) _ _ _ (by simp)) fi7 rfl) rfl ⟨rfl,rfl,rfl,rfl,rfl,trivial⟩ trivial trivial (R2 (xe3 rfl) rfl rfl (R1 xa0 rfl (RGon rfl rfl xa0 rfl ⟨rfl,trivial⟩ trivial trivial ?_)))))))
    refine RGon rfl rfl (xf5 250 xh5 (xk3 [(⟨0,31,xc 1 1⟩:Tst),LNG9,(⟨59,90,xc 2 1⟩:Tst)] (fun s hs=>by rcases List.mem_cons.1 hs with rfl | hs;exact (xh2 (by decide) (by decide) (by decide) (by decide));exact gd_two lng9_ok (xh2 (by decide) (by decide) (by decide) (by decide)) s hs) _ _ _ (by simp)) fi7 rfl) rfl ⟨rfl,rfl,rfl,rfl,rfl,trivial⟩ trivial trivial (R2 (xe3 rfl) rfl rfl (R1 xa0 rfl (RGon rfl rfl xa0 rfl ⟨rfl,trivial⟩ trivial trivial (RGon rfl rfl (xf5 250 xh5 (xk3 [(⟨0,31,xc 1 1⟩:Tst),LNG9,(⟨59,90,xc 2 1⟩:Tst)] (fun s hs=>by rcases List.mem_cons.1 hs with rfl | hs;exact (xh2 (by decide) (by decide) (by decide) (by decide));exact gd_two lng9_ok (xh2 (by decide) (by decide) (by decide) (by decide)) s hs) _ _ _ (by simp)) fi7 rfl) rfl ⟨rfl,rfl,rfl,rfl,rfl,trivial⟩ trivial trivial (R2 (xe3 rfl) rfl rfl (R1 xa0 rfl (RGon rfl rfl xa0 rfl ⟨rfl,trivial⟩ trivial trivial ?_)))))))
    refine RGon rfl rfl (xf5 250 xh5 (xk3 [(⟨0,31,xc 1 1⟩:Tst),LNG9,(⟨59,90,xc 2 1⟩:Tst)] (fun s hs=>by rcases List.mem_cons.1 hs with rfl | hs;exact (xh2 (by decide) (by decide) (by decide) (by decide));exact gd_two lng9_ok (xh2 (by decide) (by decide) (by decide) (by decide)) s hs) _ _ _ (by simp)) fi7 rfl) rfl ⟨rfl,rfl,rfl,rfl,rfl,trivial⟩ trivial trivial (R2 (xe3 rfl) rfl rfl (R1 xa0 rfl (RGon rfl rfl xa0 rfl ⟨rfl,trivial⟩ trivial trivial (RGon rfl rfl (x3 (c_meansG [(⟨0,31,xc 1 1⟩:Tst),LNG9,(⟨59,90,xc 2 1⟩:Tst)] (fun s hs=>by rcases List.mem_cons.1 hs with rfl | hs;exact (xh2 (by decide) (by decide) (by decide) (by decide));exact gd_two lng9_ok (xh2 (by decide) (by decide) (by decide) (by decide)) s hs) _ _ (by simp)) fi12 rfl) rfl ⟨rfl,rfl,rfl,trivial⟩ trivial trivial (R2 (xe3 rfl) rfl rfl (R1 xa0 rfl (RGon rfl rfl (x3 (c_Num 1 2 (by decide) (by decide) (by decide) (by decide)) fi13 rfl) rfl ⟨rfl,rfl,trivial⟩ trivial trivial ?_)))))))
    refine RGon rfl rfl (xa7 (r:=tS [⟨1,false,tI 0⟩,⟨1,false,tI 99⟩,⟨6,true,tVa ⟨2,fr (kfr 1 2),0⟩⟩]) (ts:=[(0,tI 0),(1,tI 99),(2,tVa ⟨2,fr (kfr 1 2),0⟩)]) bu37 zr37.2 (Bc 0 rfl rfl rfl (Bc 1 rfl rfl rfl (Bc 2 rfl rfl rfl Le.refl)))) rfl ⟨rfl,rfl,rfl,trivial⟩ trivial trivial (RGon rfl rfl (xc6 (n:=1) (f:=tTs) [(⟨0,99,⟨2,fr (kfr 1 2),0⟩⟩:Tst)] Tryz.underlying22 el37 zf37 rfl (fun _=>inferInstance) rfl rfl rfl) rfl ⟨rfl,trivial⟩ trivial trivial (RGon rfl rfl (xf5 250 xh5 (xk3 [(⟨0,99,⟨2,fr (kfr 1 2),0⟩⟩:Tst)] (gd_one (gd_num (by decide) (by decide) (by decide) (by decide))) _ _ _ (by simp)) fi7 rfl) rfl ⟨rfl,rfl,rfl,rfl,rfl,trivial⟩ trivial trivial (R2 (xe3 rfl) rfl rfl (R1 xa0 rfl (RGon rfl rfl (xf5 250 xh5 c_bestsNil fi7 rfl) rfl ⟨rfl,rfl,rfl,rfl,rfl,trivial⟩ trivial trivial (R2 (xe3 rfl) rfl rfl (R1 xa0 rfl ?_)))))))
    refine RGon rfl rfl (xj0 (ts:=[_,_,_]) (c_meansG [] (fun s hs=>by cases hs) 5 5 (by simp)) fi12 rfl ⟨leNil rfl,Le.refl,Le.refl,trivial⟩) rfl ⟨rfl,rfl,rfl,trivial⟩ trivial trivial (R2 (xe3 rfl) rfl rfl (R1 xa0 rfl (RGon rfl rfl (d_call0 250 xh5 c_awake09 fi8) rfl ⟨rfl,trivial⟩ trivial trivial (R2 (xe3 rfl) rfl rfl (R1 xd7 rfl (xd4 (by kernel_rfl) (xb5 ?_)))))))
    refine C_ret ?_
    exact x4 Plain.mk' rfl rfl Le.refl
end An.S
