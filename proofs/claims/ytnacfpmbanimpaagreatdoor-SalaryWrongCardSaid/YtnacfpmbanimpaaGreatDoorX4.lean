/- Part 4 of a proof: W11, W12, LibZe, LibKn, Cal, Q1, O9, Split, Tl, LibZa, S1, Ref, Ref2, Ref3, S2, S3, S4, Tl2, S5, LibZ, S6, LibZb, S7. -/
import Derived.Lib.LaidTab
import Derived.Test.YtnacfpmbanimpaaGreatDoorChecked
import Derived.Test.YtnacfpmbanimpaaGreatDoorTie
import Derived.Shelf.SlSortCmp.NoneTotal
import Derived.Test.YtnacfpmbanimpaaGreatDoorX3
/- Package frac. -/
namespace An.S
open Go Go.Proofs An
set_option maxHeartbeats 1000000
theorem ti31 : TyI Tryz.prog 31 4 true := ⟨by kernel_rfl, by kernel_rfl⟩
theorem ti81 : TyI Tryz.prog 81 4 true := ⟨by kernel_rfl, by kernel_rfl⟩
theorem fo31_0 : fieldO Tryz.prog 31 0 = some 0 := by kernel_rfl
theorem fo31_1 : fieldO Tryz.prog 31 1 = some 2 := by kernel_rfl
theorem fo81_0 : fieldO Tryz.prog 81 0 = some 0 := by kernel_rfl
theorem fi71 : FnI Tryz.prog 71 := ⟨_, Tryz.func71, by kernel_rfl, rfl⟩
theorem fi73 : FnI Tryz.prog 73 := ⟨_, Tryz.func73, by kernel_rfl, rfl⟩
theorem fi74 : FnI Tryz.prog 74 := ⟨_, Tryz.func74, by kernel_rfl, rfl⟩
theorem fi75 : FnI Tryz.prog 75 := ⟨_, Tryz.func75, by kernel_rfl, rfl⟩
theorem fi76 : FnI Tryz.prog 76 := ⟨_, Tryz.func76, by kernel_rfl, rfl⟩
theorem fi77 : FnI Tryz.prog 77 := ⟨_, Tryz.func77, by kernel_rfl, rfl⟩
theorem fi90 : FnI Tryz.prog 90 := ⟨_, Tryz.func90, by kernel_rfl, rfl⟩
theorem fi102 : FnI Tryz.prog 102 := ⟨_, Tryz.func102, by kernel_rfl, rfl⟩
theorem fi103 : FnI Tryz.prog 103 := ⟨_, Tryz.func103, by kernel_rfl, rfl⟩
theorem zr31 : (Tryz.prog.info? 31).bind (·.zero) = some (.agg #[.bool false, .slice none 0 0, .bool false, .slice none 0 0]) ∧ ∀ F w, (tS [⟨2, true, (tS [⟨1, false, (tE (.bool false))⟩, ⟨1, false, (tLm [])⟩])⟩, ⟨2, true, (tS [⟨1, false, (tE (.bool false))⟩, ⟨1, false, (tLm [])⟩])⟩]).p F w (.agg #[.bool false, .slice none 0 0, .bool false, .slice none 0 0]) := ⟨by kernel_rfl, fun _ _ => ⟨_, rfl, rfl, ⟨fun h => Bool.noConfusion h, ⟨_, rfl, rfl, ⟨fun _ => rfl, rfl⟩, ⟨fun _ => rfl, ⟨none, 0, rfl, Nat.le_refl _, by decide, .inl rfl⟩⟩, trivial⟩⟩, ⟨fun h => Bool.noConfusion h, ⟨_, rfl, rfl, ⟨fun _ => rfl, rfl⟩, ⟨fun _ => rfl, ⟨none, 0, rfl, Nat.le_refl _, by decide, .inl rfl⟩⟩, trivial⟩⟩, trivial⟩⟩
theorem zr81 : (Tryz.prog.info? 81).bind (·.zero) = some (.agg #[.bool false, .slice none 0 0, .bool false, .slice none 0 0]) ∧ ∀ F w, (tS [⟨4, true, (tS [⟨2, true, (tS [⟨1, false, (tE (.bool false))⟩, ⟨1, false, (tLm [])⟩])⟩, ⟨2, true, (tS [⟨1, false, (tE (.bool false))⟩, ⟨1, false, (tLm [])⟩])⟩])⟩]).p F w (.agg #[.bool false, .slice none 0 0, .bool false, .slice none 0 0]) := ⟨by kernel_rfl, fun _ _ => ⟨_, rfl, rfl, ⟨fun h => Bool.noConfusion h, ⟨_, rfl, rfl, ⟨fun h => Bool.noConfusion h, ⟨_, rfl, rfl, ⟨fun _ => rfl, rfl⟩, ⟨fun _ => rfl, ⟨none, 0, rfl, Nat.le_refl _, by decide, .inl rfl⟩⟩, trivial⟩⟩, ⟨fun h => Bool.noConfusion h, ⟨_, rfl, rfl, ⟨fun _ => rfl, rfl⟩, ⟨fun _ => rfl, ⟨none, 0, rfl, Nat.le_refl _, by decide, .inl rfl⟩⟩, trivial⟩⟩, trivial⟩⟩, trivial⟩⟩
theorem bu31 : BuI Tryz.prog 31 (fun i => [(0, 2), (2, 2)][i]?) (.agg #[.bool false, .slice none 0 0, .bool false, .slice none 0 0]) := BuI.struct Tryz.underlying31 (by kernel_rfl) (by kernel_rfl)
theorem bu81 : BuI Tryz.prog 81 (fun i => [(0, 4)][i]?) (.agg #[.bool false, .slice none 0 0, .bool false, .slice none 0 0]) := BuI.struct Tryz.underlying81 (by kernel_rfl) (by kernel_rfl)
theorem isOne_iff {x : Wh} (hn : x.neg = false) (hl : x.l.length = 1) : decide (((x.l.getD 0 0 : Nat) : Int) = 1) = decide (x = ⟨false, [1]⟩) := by
  obtain ⟨n, l⟩ := x
  simp only at hn hl
  subst hn
  obtain ⟨a, rfl⟩ := List.length_eq_one_iff.1 hl
  simp
  omega
theorem neg_wh (z : Int) : wh (-z) = ⟨!(wh z).neg && decide (0 < (wh z).l.length), (wh z).l⟩ := by
  have h : (wh z).l.length = 0 ↔ z = 0 := by
    show (dig 65536 z.natAbs).length = 0 ↔ z = 0
    rw [List.length_eq_zero_iff, xh5 xd2]; omega
  have e1 : (wh (-z)).l = (wh z).l := by show dig 65536 (-z).natAbs = dig 65536 z.natAbs; rw [Int.natAbs_neg]
  have e2 : (wh (-z)).neg = (!(wh z).neg && decide (0 < (wh z).l.length)) := by
    show decide (-z < 0) = (!decide (z < 0) && decide (0 < (wh z).l.length))
    by_cases h0 : z = 0
    · subst h0; simp [wh_zero]
    · have : 0 < (wh z).l.length := by omega
      rw [decide_eq_true this, Bool.and_true, ← decide_not]
      exact decide_eq_decide.2 (by omega)
  have e3 : ∀ a : Wh, a = ⟨a.neg, a.l⟩ := fun _ => rfl
  rw [e3 (wh (-z)), e1, e2]
theorem c_isOne (x : Wh) :
  Ct Tryz.prog 90 [tWh x] (tB (decide (x = ⟨false, [1]⟩))) := by
 refine Ct.intro Tryz.func90 rfl Tryz.ntmps90 rfl ?_
 intro w F
 refine x6 ?_
 refine x8 ?_
 refine RE (xc9 (k := 1) ti29 rfl) ⟨rfl, trivial⟩ trivial ⟨rfl, trivial⟩ (R1 x5 rfl (x7 (by kernel_rfl) (x4 (x6 ?_))))
 refine x8 ?_
 refine R1 (x9 fo29_0 rfl) rfl (xa6 (0) ti4 rfl rfl rfl (At.g 0 rfl rfl) rfl (R1 xe4 rfl (R1 x3 rfl ?_)))
 refine RGcase (t := 6) rfl (fun h54 => ?_) (fun h54 => ?_)
 ·
  refine RGon h54 rfl (x9 fo29_1 rfl) rfl ⟨rfl, trivial⟩ trivial trivial (xb7 h54 rfl rfl (0) ti22 rfl rfl rfl (At.g 1 rfl rfl) rfl (RGon h54 rfl (xc4 Tryz.underlying22) rfl ⟨rfl, trivial⟩ trivial trivial (RGon h54 rfl xe3 rfl ⟨rfl, rfl, trivial⟩ trivial trivial (R2 (xb2 h54) rfl rfl (R1 x3 rfl ?_)))))
  refine RGcaseD (t := 12) rfl (fun h54_2 => ?_) (fun h54_2 => ?_)
  ·
   refine RGon (decide_eq_true h54_2) rfl (x9 fo29_1 rfl) rfl ⟨rfl, trivial⟩ trivial trivial (xb7 (decide_eq_true h54_2) rfl rfl (0) ti22 rfl rfl rfl (At.g 1 rfl rfl) rfl (RGon (decide_eq_true h54_2) rfl (xb9 sl22 (0) (by omega) (gN (by omega))) rfl ⟨rfl, rfl, trivial⟩ trivial trivial (RGon (decide_eq_true h54_2) rfl (xc5 ti46) rfl ⟨rfl, trivial⟩ trivial trivial (RGon (decide_eq_true h54_2) rfl xe3 rfl ⟨rfl, rfl, trivial⟩ trivial trivial (R2 (xb2 (decide_eq_true h54_2)) rfl rfl (R1 x5 rfl (x7 (by kernel_rfl) ?_)))))))
   refine x4 (xa1 ?_)
   exact xa4 Plain.mk' rfl rfl (Le.bool (isOne_iff (by simpa using h54) (by omega)))
  ·
   refine RGoff (decide_eq_false h54_2) rfl rfl (RGoff (decide_eq_false h54_2) rfl rfl (RGoff (decide_eq_false h54_2) rfl rfl (RGoff (decide_eq_false h54_2) rfl rfl (RGoff (decide_eq_false h54_2) rfl rfl (R2 (xb0 (decide_eq_false h54_2)) rfl rfl (R1 x5 rfl (x7 (by kernel_rfl) ?_)))))))
   refine x4 (xa1 ?_)
   exact xa4 Plain.mk' rfl rfl (Le.bool (decide_eq_false (fun h => h54_2 (by rw [h]; rfl))).symm)
 ·
  refine RGoff h54 rfl rfl (RGoff h54 rfl rfl (RGoff h54 rfl rfl (RGoff h54 rfl rfl (R2 (xb0 h54) rfl rfl (R1 x3 rfl (RGoff0 rfl rfl (RGoff0 rfl rfl ?_)))))))
  refine RGoff0 rfl rfl (RGoff0 rfl rfl (RGoff0 rfl rfl (R2 (xb0 rfl) rfl rfl (R1 x5 rfl (x7 (by kernel_rfl) (x4 (xa1 ?_)))))))
  exact xa4 Plain.mk' rfl rfl (Le.bool (decide_eq_false (fun h => by rw [h] at h54; simp at h54)).symm)
theorem c_Tlong (f : Fr) :
  Ct Tryz.prog 76 [tTm f] (tB (!f.sh)) := by
 refine Ct.intro Tryz.func76 rfl Tryz.ntmps76 rfl ?_
 intro w F
 refine x6 ?_
 refine x8 ?_
 refine RE (xc9 (k := 1) ti81 rfl) ⟨rfl, trivial⟩ trivial ⟨rfl, trivial⟩ (R1 x5 rfl (x7 (by kernel_rfl) (x4 (x6 ?_))))
 refine x8 ?_
 refine R1 (x9 fo81_0 rfl) rfl (R1 (x9 fo31_0 rfl) rfl (R1 (x9 fo29_1 rfl) rfl (xa6 (0) ti22 rfl rfl rfl (At.t (At.g 0 rfl rfl) (At.t (At.g 0 rfl rfl) (At.g 1 rfl rfl))) rfl (R1 (xc4 Tryz.underlying22) rfl (R2 d_gtr rfl rfl (R1 x3 rfl ?_))))))
 refine RGcaseD (t := 9) rfl (fun h33 => ?_) (fun h33 => ?_)
 ·
  refine RGoff (decide_eq_true h33) rfl rfl (RGoff (decide_eq_true h33) rfl rfl (RGoff (decide_eq_true h33) rfl rfl (RGoff (decide_eq_true h33) rfl rfl (RGoff (decide_eq_true h33) rfl rfl (RGoff (decide_eq_true h33) rfl rfl (R2 (xb2 (decide_eq_true h33)) rfl rfl (R1 x5 rfl ?_)))))))
  refine x7 (by kernel_rfl) (x4 (xa1 ?_))
  exact xa4 Plain.mk' rfl rfl (Le.bool (by rw [Fr.sh, decide_eq_false (show ¬ f.n.l.length ≤ 256 by omega)]; rfl))
 ·
  refine RGon (decide_eq_false h33) rfl (x9 fo81_0 rfl) rfl ⟨rfl, trivial⟩ trivial trivial (RGon (decide_eq_false h33) rfl (x9 fo31_1 rfl) rfl ⟨rfl, trivial⟩ trivial trivial (RGon (decide_eq_false h33) rfl (x9 fo29_1 rfl) rfl ⟨rfl, trivial⟩ trivial trivial (xb7 (decide_eq_false h33) rfl rfl (0) ti22 rfl rfl rfl (At.t (At.g 0 rfl rfl) (At.t (At.g 1 rfl rfl) (At.g 1 rfl rfl))) rfl (RGon (decide_eq_false h33) rfl (xc4 Tryz.underlying22) rfl ⟨rfl, trivial⟩ trivial trivial (RGon (decide_eq_false h33) rfl d_gtr rfl ⟨rfl, rfl, trivial⟩ trivial trivial (R2 (xb0 (decide_eq_false h33)) rfl rfl (R1 x5 rfl ?_)))))))
  refine x7 (by kernel_rfl) (x4 (xa1 ?_))
  exact xa4 Plain.mk' rfl rfl (Le.bool (by rw [Fr.sh, decide_eq_true (show f.n.l.length ≤ 256 by omega), Bool.true_and, ← decide_not]; exact decide_eq_decide.2 (by omega)))
theorem c_Tresult (f : Fr) :
  Ct Tryz.prog 45 [tTm f] (tT [tFr (if f.sh then f else fr0), tI (if f.sh then 0 else 3)]) := by
 refine Ct.intro Tryz.func45 rfl Tryz.ntmps45 rfl ?_
 intro w F
 refine x6 ?_
 refine x8 ?_
 refine RE (xc9 (k := 1) ti81 rfl) ⟨rfl, trivial⟩ trivial ⟨rfl, trivial⟩ (RE (xb4 (k := 2) (n := 4) (agg := true) zr31.1 zr31.2 rfl) trivial trivial ⟨rfl, trivial⟩ (R1 x5 rfl (x7 (by kernel_rfl) (x4 (x6 (x6 ?_))))))
 refine x8 ?_
 refine RE (xa8 (0) ti81 rfl rfl) ⟨rfl, trivial⟩ ⟨rfl, trivial⟩ trivial (R1 (xa0 (c_Tlong f) fi76 rfl) rfl (x7 (by kernel_rfl) (x4 ?_)))
 refine xf8 rfl (fun h46 => ?_) (fun h46 => ?_)
 ·
  have hs : f.sh = false := by simpa using h46
  refine x6 ?_
  refine x8 ?_
  refine R0 (xc8 (r := tS [⟨2, true, (tS [⟨1, false, (tE (.bool false))⟩, ⟨1, false, (tLm [])⟩])⟩, ⟨2, true, (tS [⟨1, false, (tE (.bool false))⟩, ⟨1, false, (tLm [])⟩])⟩]) (ts := []) bu31 zr31.2 ⟨_, rfl⟩ rfl Le.refl)  (RE (xa3 (es := 4) (agg := true) (0) ti31 rfl rfl rfl) ⟨rfl, rfl, trivial⟩ ⟨rfl, trivial⟩ trivial (R1 x5 rfl (x7 (by kernel_rfl) (x4 (xa1 (xa7 ?_))))))
  exact xf1 Plain.mk' (rs := [.cell 2 31, .tmp 3]) rfl rfl ⟨⟨_, _, _, _, _, rfl, rfl, ti31, (Le.of (by rw [hs]; rfl))⟩, ⟨_, rfl, (Le.int (by rw [hs]; rfl))⟩, trivial⟩
 ·
  have hs : f.sh = true := by simpa using h46
  refine xa5 (x4 (x6 ?_))
  refine x8 ?_
  refine R1 (x9 fo81_0 rfl) rfl (xa6 (0) ti31 rfl rfl rfl (At.g 0 rfl rfl) rfl (RE (xa3 (es := 4) (agg := true) (0) ti31 rfl rfl rfl) ⟨rfl, rfl, trivial⟩ ⟨rfl, trivial⟩ trivial (R1 x5 rfl (x7 (by kernel_rfl) (x4 (xa1 ?_))))))
  exact xf1 Plain.mk' (rs := [.cell 2 31, .tmp 3]) rfl rfl ⟨⟨_, _, _, _, _, rfl, rfl, ti31, (Le.of (by rw [hs]; rfl))⟩, ⟨_, rfl, (Le.int (by rw [hs]; rfl))⟩, trivial⟩
theorem c_Tintegral (f : Fr) :
  Ct Tryz.prog 89 [tTm f] (tB (decide (f.d = ⟨false, [1]⟩))) := by
 refine Ct.intro Tryz.func89 rfl Tryz.ntmps89 rfl ?_
 intro w F
 refine x6 ?_
 refine x8 ?_
 refine RE (xc9 (k := 1) ti81 rfl) ⟨rfl, trivial⟩ trivial ⟨rfl, trivial⟩ (R1 x5 rfl (x7 (by kernel_rfl) (x4 (x6 ?_))))
 refine x8 ?_
 refine R1 (x9 fo81_0 rfl) rfl (R1 (x9 fo31_1 rfl) rfl (xa6 (0) ti29 rfl rfl rfl (At.t (At.g 0 rfl rfl) (At.g 1 rfl rfl)) rfl (R1 (xa0 (c_isOne _) fi90 rfl) rfl (R1 x5 rfl (x7 (by kernel_rfl) (x4 (xa1 ?_)))))))
 exact xa4 Plain.mk' rfl rfl Le.refl
theorem c_Tzero (f : Fr) :
  Ct Tryz.prog 96 [tTm f] (tB (decide (f.n.l.length = 0))) := by
 refine Ct.intro Tryz.func96 rfl Tryz.ntmps96 rfl ?_
 intro w F
 refine x6 ?_
 refine x8 ?_
 refine RE (xc9 (k := 1) ti81 rfl) ⟨rfl, trivial⟩ trivial ⟨rfl, trivial⟩ (R1 x5 rfl (x7 (by kernel_rfl) (x4 (x6 ?_))))
 refine x8 ?_
 refine R1 (x9 fo81_0 rfl) rfl (R1 (x9 fo31_0 rfl) rfl (R1 (x9 fo29_1 rfl) rfl (xa6 (0) ti22 rfl rfl rfl (At.t (At.g 0 rfl rfl) (At.t (At.g 0 rfl rfl) (At.g 1 rfl rfl))) rfl (R1 (xc4 Tryz.underlying22) rfl (R2 xe3 rfl rfl (R1 x5 rfl (x7 (by kernel_rfl) ?_)))))))
 refine x4 (xa1 ?_)
 exact xa4 Plain.mk' rfl rfl (Le.bool (decide_eq_decide.2 (by omega)))
theorem c_divisor (x y : Int) (hx : len16 x ≤ 1024) (hy : len16 y ≤ 1024) :
  Ct Tryz.prog 74 [tWh (wh x), tWh (wh y)] (tWh (wh ((Int.gcd x y : Nat) : Int))) := by
 refine Ct.intro Tryz.func74 rfl Tryz.ntmps74 rfl ?_
 intro w F
 refine x6 ?_
 refine x8 ?_
 refine RE (xc9 (k := 2) ti29 rfl) ⟨rfl, trivial⟩ trivial ⟨rfl, trivial⟩ (RE (xc9 (k := 3) ti29 rfl) ⟨rfl, trivial⟩ trivial ⟨rfl, trivial⟩ (RE (xb4 (k := 4) (n := 2) (agg := true) zr29.1 zr29.2 rfl) trivial trivial ⟨rfl, trivial⟩ (x7 (by kernel_rfl) (x4 (x6 ?_)))))
 refine x8 ?_
 refine RE (xa8 (0) ti29 rfl rfl) ⟨rfl, trivial⟩ ⟨rfl, trivial⟩ trivial (RE (xa8 (0) ti29 rfl rfl) ⟨rfl, trivial⟩ ⟨rfl, trivial⟩ trivial (R2 (xa0 (c_Gcd x y hx hy) fi102 rfl) rfl rfl (R1 x3 rfl (R1 (xa2 rfl) rfl (R1 (xa2 rfl) rfl (RE (xb4 (k := 5) (n := 2) (agg := true) zr29.1 zr29.2 rfl) trivial trivial ⟨rfl, trivial⟩ (RE (xa3 (es := 2) (agg := true) (0) ti29 rfl rfl rfl) ⟨rfl, rfl, trivial⟩ ⟨rfl, trivial⟩ trivial ?_)))))))
 refine R1 x5 rfl (x7 (by kernel_rfl) (x4 (x6 ?_)))
 refine x8 ?_
 refine RE (xa8 (0) ti29 rfl rfl) ⟨rfl, trivial⟩ ⟨rfl, trivial⟩ trivial (RE (xa3 (es := 2) (agg := true) (0) ti29 rfl rfl rfl) ⟨rfl, rfl, trivial⟩ ⟨rfl, trivial⟩ trivial (x7 (by kernel_rfl) (x4 (xa1 ?_))))
 exact xg4 Plain.mk' rfl ⟨_, _, _, _, _, rfl, rfl, ti29, Le.refl⟩
theorem c_fplus (x y : Int) (hx : len16 x ≤ 1024) (hy : len16 y ≤ 1024) (hz : len16 (x + y) ≤ 1024) :
  Ct Tryz.prog 46 [tWh (wh x), tWh (wh y)] (tWh (wh (x + y))) := by
 refine Ct.intro Tryz.func46 rfl Tryz.ntmps46 rfl ?_
 intro w F
 refine x6 ?_
 refine x8 ?_
 refine RE (xc9 (k := 2) ti29 rfl) ⟨rfl, trivial⟩ trivial ⟨rfl, trivial⟩ (RE (xc9 (k := 3) ti29 rfl) ⟨rfl, trivial⟩ trivial ⟨rfl, trivial⟩ (RE (xb4 (k := 4) (n := 2) (agg := true) zr29.1 zr29.2 rfl) trivial trivial ⟨rfl, trivial⟩ (x7 (by kernel_rfl) (x4 (x6 ?_)))))
 refine x8 ?_
 refine RE (xa8 (0) ti29 rfl rfl) ⟨rfl, trivial⟩ ⟨rfl, trivial⟩ trivial (RE (xa8 (0) ti29 rfl rfl) ⟨rfl, trivial⟩ ⟨rfl, trivial⟩ trivial (R2 (xa0 (c_Add x y hx hy) fi77 rfl) rfl rfl (R1 x3 rfl (R1 (xa2 rfl) rfl (R1 (xa2 rfl) rfl (RE (xb4 (k := 5) (n := 2) (agg := true) zr29.1 zr29.2 rfl) trivial trivial ⟨rfl, trivial⟩ (RE (xa3 (es := 2) (agg := true) (0) ti29 rfl rfl rfl) ⟨rfl, rfl, trivial⟩ ⟨rfl, trivial⟩ trivial ?_)))))))
 refine R1 x5 rfl (x7 (by kernel_rfl) (x4 (x6 ?_)))
 refine x8 ?_
 refine RE (xa8 (0) ti29 rfl rfl) ⟨rfl, trivial⟩ ⟨rfl, trivial⟩ trivial (RE (xa3 (es := 2) (agg := true) (0) ti29 rfl rfl rfl) ⟨rfl, rfl, trivial⟩ ⟨rfl, trivial⟩ trivial (x7 (by kernel_rfl) (x4 (xa1 ?_))))
 exact xg4 Plain.mk' rfl ⟨_, _, _, _, _, rfl, rfl, ti29, (Le.of (by rw [resW, if_pos hz]))⟩
theorem c_ftimes (x y : Int) (hx : len16 x ≤ 1024) (hy : len16 y ≤ 1024) (hz : len16 (x * y) ≤ 1024) :
  Ct Tryz.prog 41 [tWh (wh x), tWh (wh y)] (tWh (wh (x * y))) := by
 refine Ct.intro Tryz.func41 rfl Tryz.ntmps41 rfl ?_
 intro w F
 refine x6 ?_
 refine x8 ?_
 refine RE (xc9 (k := 2) ti29 rfl) ⟨rfl, trivial⟩ trivial ⟨rfl, trivial⟩ (RE (xc9 (k := 3) ti29 rfl) ⟨rfl, trivial⟩ trivial ⟨rfl, trivial⟩ (RE (xb4 (k := 4) (n := 2) (agg := true) zr29.1 zr29.2 rfl) trivial trivial ⟨rfl, trivial⟩ (x7 (by kernel_rfl) (x4 (x6 ?_)))))
 refine x8 ?_
 refine RE (xa8 (0) ti29 rfl rfl) ⟨rfl, trivial⟩ ⟨rfl, trivial⟩ trivial (RE (xa8 (0) ti29 rfl rfl) ⟨rfl, trivial⟩ ⟨rfl, trivial⟩ trivial (R2 (xa0 (c_Mul x y hx hy) fi71 rfl) rfl rfl (R1 x3 rfl (R1 (xa2 rfl) rfl (R1 (xa2 rfl) rfl (RE (xb4 (k := 5) (n := 2) (agg := true) zr29.1 zr29.2 rfl) trivial trivial ⟨rfl, trivial⟩ (RE (xa3 (es := 2) (agg := true) (0) ti29 rfl rfl rfl) ⟨rfl, rfl, trivial⟩ ⟨rfl, trivial⟩ trivial ?_)))))))
 refine R1 x5 rfl (x7 (by kernel_rfl) (x4 (x6 ?_)))
 refine x8 ?_
 refine RE (xa8 (0) ti29 rfl rfl) ⟨rfl, trivial⟩ ⟨rfl, trivial⟩ trivial (RE (xa3 (es := 2) (agg := true) (0) ti29 rfl rfl rfl) ⟨rfl, rfl, trivial⟩ ⟨rfl, trivial⟩ trivial (x7 (by kernel_rfl) (x4 (xa1 ?_))))
 exact xg4 Plain.mk' rfl ⟨_, _, _, _, _, rfl, rfl, ti29, (Le.of (by rw [resW, if_pos hz]))⟩
theorem c_fdivide (x y : Int) (hx : len16 x ≤ 1024) (hy : len16 y ≤ 1024) (hy0 : 0 < y) :
  Ct Tryz.prog 75 [tWh (wh x), tWh (wh y)] (tT [tWh (wh (x / y)), tWh (wh (x % y))]) := by
 refine Ct.intro Tryz.func75 rfl Tryz.ntmps75 rfl ?_
 intro w F
 refine x6 ?_
 refine x8 ?_
 refine RE (xc9 (k := 2) ti29 rfl) ⟨rfl, trivial⟩ trivial ⟨rfl, trivial⟩ (RE (xc9 (k := 3) ti29 rfl) ⟨rfl, trivial⟩ trivial ⟨rfl, trivial⟩ (RE (xb4 (k := 4) (n := 2) (agg := true) zr29.1 zr29.2 rfl) trivial trivial ⟨rfl, trivial⟩ (RE (xb4 (k := 5) (n := 2) (agg := true) zr29.1 zr29.2 rfl) trivial trivial ⟨rfl, trivial⟩ (x7 (by kernel_rfl) (x4 (x6 ?_))))))
 refine x8 ?_
 refine RE (xa8 (0) ti29 rfl rfl) ⟨rfl, trivial⟩ ⟨rfl, trivial⟩ trivial (RE (xa8 (0) ti29 rfl rfl) ⟨rfl, trivial⟩ ⟨rfl, trivial⟩ trivial (R2 (xa0 (c_DivMod x y hx hy hy0) fi103 rfl) rfl rfl (R1 x3 rfl (R1 (xa2 rfl) rfl (R1 (xa2 rfl) rfl (R1 (xa2 rfl) rfl (RE (xa3 (es := 2) (agg := true) (0) ti29 rfl rfl rfl) ⟨rfl, rfl, trivial⟩ ⟨rfl, trivial⟩ trivial ?_)))))))
 refine RE (xa3 (es := 2) (agg := true) (0) ti29 rfl rfl rfl) ⟨rfl, rfl, trivial⟩ ⟨rfl, trivial⟩ trivial (x7 (by kernel_rfl) (x4 (x6 ?_)))
 refine xd5 mixed ?_
 refine RE (xa8 (0) ti29 rfl rfl) ⟨rfl, trivial⟩ ⟨rfl, trivial⟩ trivial (RE (xa8 (0) ti29 rfl rfl) ⟨rfl, trivial⟩ ⟨rfl, trivial⟩ trivial (RE (xa3 (es := 2) (agg := true) (0) ti29 rfl rfl rfl) ⟨rfl, rfl, trivial⟩ ⟨rfl, trivial⟩ trivial (RE (xa3 (es := 2) (agg := true) (0) ti29 rfl rfl rfl) ⟨rfl, rfl, trivial⟩ ⟨rfl, trivial⟩ trivial (xd6 (by kernel_rfl) (x4 (xa1 ?_))))))
 exact xf1 Plain.mk' (rs := [.cell 4 29, .cell 5 29]) rfl rfl ⟨⟨_, _, _, _, _, rfl, rfl, ti29, Le.refl⟩, ⟨_, _, _, _, _, rfl, rfl, ti29, Le.refl⟩, trivial⟩
theorem c_opposite (z : Int) (hz : len16 z ≤ 10000) :
  Ct Tryz.prog 73 [tWh (wh z)] (tWh (wh (-z))) := by
 have hzl : (wh z).l.length ≤ 10000 := hz
 refine Ct.intro Tryz.func73 rfl Tryz.ntmps73 rfl ?_
 intro w F
 refine x6 ?_
 refine x8 ?_
 refine RE (xc9 (k := 1) ti29 rfl) ⟨rfl, trivial⟩ trivial ⟨rfl, trivial⟩ (RE (xb4 (k := 2) (n := 2) (agg := true) zr29.1 zr29.2 rfl) trivial trivial ⟨rfl, trivial⟩ (x7 (by kernel_rfl) (x4 (x6 ?_))))
 refine xd5 mixed ?_
 refine R1 (x9 fo29_0 rfl) rfl (xa6 (0) ti4 rfl rfl rfl (At.g 0 rfl rfl) rfl (R1 xe4 rfl (R1 x3 rfl ?_)))
 refine RGcase (t := 6) rfl (fun h81 => ?_) (fun h81 => ?_)
 ·
  refine RGon h81 rfl (x9 fo29_1 rfl) rfl ⟨rfl, trivial⟩ trivial trivial (xb7 h81 rfl rfl (0) ti22 rfl rfl rfl (At.g 1 rfl rfl) rfl (RGon h81 rfl (xc4 Tryz.underlying22) rfl ⟨rfl, trivial⟩ trivial trivial (RGon h81 rfl d_gtr rfl ⟨rfl, rfl, trivial⟩ trivial trivial (R2 (xb2 h81) rfl rfl (R1 (x9 fo29_1 rfl) rfl (xa6 (0) ti22 rfl rfl rfl (At.g 1 rfl rfl) rfl (R1 (xa0 (c_clone16V _ (by omega)) fi101 rfl) rfl ?_)))))))
  refine R2 (xc8 (r := tS [⟨1, false, tB (decide ((0 : Int) < ((wh z).l.length : Nat)))⟩, ⟨1, false, tLm (wh z).l⟩]) (ts := [(0, tB (decide ((0 : Int) < ((wh z).l.length : Nat)))), (1, tLm (wh z).l)]) bu29 zr29.2 ⟨_, rfl⟩ rfl ⟨_, _, _, _, rfl, Up.f (fs := [⟨1, false, (tE (.bool false))⟩, ⟨1, false, (tLm [])⟩]) (f := ⟨1, false, (tE (.bool false))⟩) (fs' := [⟨1, false, tB (decide ((0 : Int) < ((wh z).l.length : Nat)))⟩, ⟨1, false, (tLm [])⟩]) 0 rfl rfl rfl, inferInstance, ⟨_, _, _, _, rfl, Up.f (fs := [⟨1, false, tB (decide ((0 : Int) < ((wh z).l.length : Nat)))⟩, ⟨1, false, (tLm [])⟩]) (f := ⟨1, false, (tLm [])⟩) (fs' := [⟨1, false, tB (decide ((0 : Int) < ((wh z).l.length : Nat)))⟩, ⟨1, false, tLm (wh z).l⟩]) 1 rfl rfl rfl, inferInstance, Le.refl⟩⟩) rfl rfl (RE (xa3 (es := 2) (agg := true) (0) ti29 rfl rfl rfl) ⟨rfl, rfl, trivial⟩ ⟨rfl, trivial⟩ trivial (xd6 (by kernel_rfl) (x4 (xa1 ?_))))
  exact xg4 Plain.mk' rfl ⟨_, _, _, _, _, rfl, rfl, ti29, (Le.of (by rw [neg_wh, h81, Bool.true_and, decide_eq_decide.2 (show (0 : Int) < ((wh z).l.length : Nat) ↔ 0 < (wh z).l.length by omega)]))⟩
 ·
  refine RGoff h81 rfl rfl (RGoff h81 rfl rfl (RGoff h81 rfl rfl (RGoff h81 rfl rfl (R2 (xb0 h81) rfl rfl (R1 (x9 fo29_1 rfl) rfl (xa6 (0) ti22 rfl rfl rfl (At.g 1 rfl rfl) rfl (R1 (xa0 (c_clone16V _ (by omega)) fi101 rfl) rfl ?_)))))))
  refine R2 (xc8 (r := tS [⟨1, false, tB false⟩, ⟨1, false, tLm (wh z).l⟩]) (ts := [(0, tB false), (1, tLm (wh z).l)]) bu29 zr29.2 ⟨_, rfl⟩ rfl ⟨_, _, _, _, rfl, Up.f (fs := [⟨1, false, (tE (.bool false))⟩, ⟨1, false, (tLm [])⟩]) (f := ⟨1, false, (tE (.bool false))⟩) (fs' := [⟨1, false, tB false⟩, ⟨1, false, (tLm [])⟩]) 0 rfl rfl rfl, inferInstance, ⟨_, _, _, _, rfl, Up.f (fs := [⟨1, false, tB false⟩, ⟨1, false, (tLm [])⟩]) (f := ⟨1, false, (tLm [])⟩) (fs' := [⟨1, false, tB false⟩, ⟨1, false, tLm (wh z).l⟩]) 1 rfl rfl rfl, inferInstance, Le.refl⟩⟩) rfl rfl (RE (xa3 (es := 2) (agg := true) (0) ti29 rfl rfl rfl) ⟨rfl, rfl, trivial⟩ ⟨rfl, trivial⟩ trivial (xd6 (by kernel_rfl) (x4 (xa1 ?_))))
  exact xg4 Plain.mk' rfl ⟨_, _, _, _, _, rfl, rfl, ti29, (Le.of (by rw [neg_wh, h81, Bool.false_and]))⟩
theorem c_lowest (n d : Int) (hn : len16 n ≤ 1024) (hd : len16 d ≤ 1024) (hd0 : d ≠ 0) :
  Ct Tryz.prog 44 [tWh (wh n), tWh (wh d)] (tTm (fr (Rat.divInt n d))) := by
 refine Ct.intro Tryz.func44 rfl Tryz.ntmps44 rfl ?_
 intro w F
 refine x6 ?_
 refine x8 ?_
 refine RE (xc9 (k := 2) ti29 rfl) ⟨rfl, trivial⟩ trivial ⟨rfl, trivial⟩ (RE (xc9 (k := 3) ti29 rfl) ⟨rfl, trivial⟩ trivial ⟨rfl, trivial⟩ (RE (xb4 (k := 4) (n := 4) (agg := true) zr81.1 zr81.2 rfl) trivial trivial ⟨rfl, trivial⟩ (x7 (by kernel_rfl) (x4 ?_))))
 refine C_join (fun (fm : (Int) × (Int)) => (fun (m : Int) (e : Int) => (0 < e ∧ Rat.divInt m e = Rat.divInt n d) ∧ len16 m ≤ 1024 ∧ len16 e ≤ 1024) fm.1 fm.2) (fun (fm : (Int) × (Int)) => (fun (m : Int) (e : Int) => upd (upd (upd (fun _ => none) 2 (some (.own (.ptr 2 0)))) 3 (some (.own (.ptr 3 0)))) 4 (some (.own (.ptr 4 0)))) fm.1 fm.2) (fun (fm : (Int) × (Int)) => (fun (m : Int) (e : Int) => upd (upd (upd (fun _ => none) 2 (some (⟨29, 2, true, [.val (tWh (wh m))]⟩))) 3 (some (⟨29, 2, true, [.val (tWh (wh e))]⟩))) 4 (some (⟨81, 4, true, [.val (tTm fr0)]⟩))) fm.1 fm.2) (nm [2, 3, 4]) ?_ ?_
 ·
  refine x6 ?_
  refine x8 ?_
  refine R1 (x9 fo29_0 rfl) rfl (xa6 (0) ti4 rfl rfl rfl (At.g 0 rfl rfl) rfl (x7 (by kernel_rfl) (x4 ?_)))
  refine xf8 rfl (fun h86 => ?_) (fun h86 => ?_)
  ·
   refine xd5 mixed ?_
   refine RE (xa8 (0) ti29 rfl rfl) ⟨rfl, trivial⟩ ⟨rfl, trivial⟩ trivial (R1 (xa0 (c_opposite n (by omega)) fi73 rfl) rfl (RE (xa8 (0) ti29 rfl rfl) ⟨rfl, trivial⟩ ⟨rfl, trivial⟩ trivial (R1 (xa0 (c_opposite d (by omega)) fi73 rfl) rfl (RE (xa3 (es := 2) (agg := true) (0) ti29 rfl rfl rfl) ⟨rfl, rfl, trivial⟩ ⟨rfl, trivial⟩ trivial (RE (xa3 (es := 2) (agg := true) (0) ti29 rfl rfl rfl) ⟨rfl, rfl, trivial⟩ ⟨rfl, trivial⟩ trivial (xd6 (by kernel_rfl) ?_))))))
   exact xc2 ((-n, -d)) (by dsimp only; exact ⟨⟨by have := of_decide_eq_true h86; omega, Rat.neg_divInt_neg _ _⟩, by rw [len16_neg]; exact hn, by rw [len16_neg]; exact hd⟩) (Sub.cons rfl (Sub.cons rfl (Sub.cons rfl Sub.nil))) ((SubK.consI rfl ImpK.refl) ((SubK.consI rfl ImpK.refl) ((SubK.consI rfl ImpK.refl) SubK.nil))) (SupG.own rfl (SupG.own rfl (SupG.own rfl SupG.nil))) (SupH.cons rfl (supJL rfl) (SupH.cons rfl (supJL rfl) (SupH.cons rfl (supJL rfl) SupH.nil))) (lkOk rfl)
  ·
   refine xa5 ?_
   exact xc2 ((n, d)) (by dsimp only; exact ⟨⟨by have := of_decide_eq_false h86; omega, rfl⟩, hn, hd⟩) (Sub.cons rfl (Sub.cons rfl (Sub.cons rfl Sub.nil))) ((SubK.consI rfl ImpK.refl) ((SubK.consI rfl ImpK.refl) ((SubK.consI rfl ImpK.refl) SubK.nil))) (SupG.own rfl (SupG.own rfl (SupG.own rfl SupG.nil))) (SupH.cons rfl (supJL rfl) (SupH.cons rfl (supJL rfl) (SupH.cons rfl (supJL rfl) SupH.nil))) (lkOk rfl)
 ·
  intro fm hj
  obtain ⟨m, e⟩ := fm
  replace hj : (0 < e ∧ Rat.divInt m e = Rat.divInt n d) ∧ len16 m ≤ 1024 ∧ len16 e ≤ 1024 := hj
  show wc _ _ _ _ (upd (upd (upd (fun _ => none) 2 (some (.own (.ptr 2 0)))) 3 (some (.own (.ptr 3 0)))) 4 (some (.own (.ptr 4 0)))) (upd (upd (upd (fun _ => none) 2 (some (⟨29, 2, true, [.val (tWh (wh m))]⟩))) 3 (some (⟨29, 2, true, [.val (tWh (wh e))]⟩))) 4 (some (⟨81, 4, true, [.val (tTm fr0)]⟩))) _
  obtain ⟨⟨he, hq⟩, hm, hel⟩ := hj
  have hg0 : 0 < Int.gcd m e := Int.gcd_pos_of_ne_zero_right m (by omega)
  have hgl : len16 ((Int.gcd m e : Nat) : Int) ≤ 1024 := Nat.le_trans (len16_le (by simpa using Nat.le_of_dvd (by omega) (Int.gcd_dvd_natAbs_right m e))) hel
  refine x6 ?_
  refine x8 ?_
  refine RE (xa8 (0) ti29 rfl rfl) ⟨rfl, trivial⟩ ⟨rfl, trivial⟩ trivial (RE (xa8 (0) ti29 rfl rfl) ⟨rfl, trivial⟩ ⟨rfl, trivial⟩ trivial (R2 (xa0 (c_divisor m e hm hel) fi74 rfl) rfl rfl (RE (xb4 (k := 5) (n := 2) (agg := true) zr29.1 zr29.2 rfl) trivial trivial ⟨rfl, trivial⟩ (RE (xa3 (es := 2) (agg := true) (0) ti29 rfl rfl rfl) ⟨rfl, rfl, trivial⟩ ⟨rfl, trivial⟩ trivial (x7 (by kernel_rfl) (x4 (x6 ?_)))))))
  refine x8 ?_
  refine RE (xa8 (0) ti29 rfl rfl) ⟨rfl, trivial⟩ ⟨rfl, trivial⟩ trivial (RE (xa8 (0) ti29 rfl rfl) ⟨rfl, trivial⟩ ⟨rfl, trivial⟩ trivial (R2 (xa0 (c_fdivide m _ hm hgl (by omega)) fi75 rfl) rfl rfl (R1 x3 rfl (R1 (xa2 rfl) rfl (R1 (xa2 rfl) rfl (RE (xa3 (es := 2) (agg := true) (0) ti29 rfl rfl rfl) ⟨rfl, rfl, trivial⟩ ⟨rfl, trivial⟩ trivial (x7 (by kernel_rfl) ?_)))))))
  refine x4 (x6 ?_)
  refine x8 ?_
  refine RE (xa8 (0) ti29 rfl rfl) ⟨rfl, trivial⟩ ⟨rfl, trivial⟩ trivial (RE (xa8 (0) ti29 rfl rfl) ⟨rfl, trivial⟩ ⟨rfl, trivial⟩ trivial (R2 (xa0 (c_fdivide e _ hel hgl (by omega)) fi75 rfl) rfl rfl (R1 x3 rfl (R1 (xa2 rfl) rfl (R1 (xa2 rfl) rfl (RE (xa3 (es := 2) (agg := true) (0) ti29 rfl rfl rfl) ⟨rfl, rfl, trivial⟩ ⟨rfl, trivial⟩ trivial (x7 (by kernel_rfl) ?_)))))))
  refine x4 (x6 ?_)
  refine x8 ?_
  refine RE (xa8 (0) ti29 rfl rfl) ⟨rfl, trivial⟩ ⟨rfl, trivial⟩ trivial (RE (xa8 (0) ti29 rfl rfl) ⟨rfl, trivial⟩ ⟨rfl, trivial⟩ trivial (R2 (xc8 (r := tS [⟨2, true, tWh (wh (m / ((Int.gcd m e : Nat) : Int)))⟩, ⟨2, true, tWh (wh (e / ((Int.gcd m e : Nat) : Int)))⟩]) (ts := [(0, tWh (wh (m / ((Int.gcd m e : Nat) : Int)))), (1, tWh (wh (e / ((Int.gcd m e : Nat) : Int))))]) bu31 zr31.2 ⟨_, rfl⟩ rfl ⟨_, _, _, _, rfl, Up.f (fs := [⟨2, true, (tS [⟨1, false, (tE (.bool false))⟩, ⟨1, false, (tLm [])⟩])⟩, ⟨2, true, (tS [⟨1, false, (tE (.bool false))⟩, ⟨1, false, (tLm [])⟩])⟩]) (f := ⟨2, true, (tS [⟨1, false, (tE (.bool false))⟩, ⟨1, false, (tLm [])⟩])⟩) (fs' := [⟨2, true, tWh (wh (m / ((Int.gcd m e : Nat) : Int)))⟩, ⟨2, true, (tS [⟨1, false, (tE (.bool false))⟩, ⟨1, false, (tLm [])⟩])⟩]) 0 rfl rfl rfl, inferInstance, ⟨_, _, _, _, rfl, Up.f (fs := [⟨2, true, tWh (wh (m / ((Int.gcd m e : Nat) : Int)))⟩, ⟨2, true, (tS [⟨1, false, (tE (.bool false))⟩, ⟨1, false, (tLm [])⟩])⟩]) (f := ⟨2, true, (tS [⟨1, false, (tE (.bool false))⟩, ⟨1, false, (tLm [])⟩])⟩) (fs' := [⟨2, true, tWh (wh (m / ((Int.gcd m e : Nat) : Int)))⟩, ⟨2, true, tWh (wh (e / ((Int.gcd m e : Nat) : Int)))⟩]) 1 rfl rfl rfl, inferInstance, Le.refl⟩⟩) rfl rfl (R1 (xc8 (r := tS [⟨4, true, tFr ⟨wh (m / ((Int.gcd m e : Nat) : Int)), wh (e / ((Int.gcd m e : Nat) : Int))⟩⟩]) (ts := [(0, tFr ⟨wh (m / ((Int.gcd m e : Nat) : Int)), wh (e / ((Int.gcd m e : Nat) : Int))⟩)]) bu81 zr81.2 ⟨_, rfl⟩ rfl ⟨_, _, _, _, rfl, Up.f (fs := [⟨4, true, (tS [⟨2, true, (tS [⟨1, false, (tE (.bool false))⟩, ⟨1, false, (tLm [])⟩])⟩, ⟨2, true, (tS [⟨1, false, (tE (.bool false))⟩, ⟨1, false, (tLm [])⟩])⟩])⟩]) (f := ⟨4, true, (tS [⟨2, true, (tS [⟨1, false, (tE (.bool false))⟩, ⟨1, false, (tLm [])⟩])⟩, ⟨2, true, (tS [⟨1, false, (tE (.bool false))⟩, ⟨1, false, (tLm [])⟩])⟩])⟩) (fs' := [⟨4, true, tFr ⟨wh (m / ((Int.gcd m e : Nat) : Int)), wh (e / ((Int.gcd m e : Nat) : Int))⟩⟩]) 0 rfl rfl rfl, inferInstance, Le.refl⟩) rfl (RE (xa3 (es := 4) (agg := true) (0) ti81 rfl rfl rfl) ⟨rfl, rfl, trivial⟩ ⟨rfl, trivial⟩ trivial (x7 (by kernel_rfl) (x4 (xa1 ?_)))))))
  exact xg4 Plain.mk' rfl ⟨_, _, _, _, _, rfl, rfl, ti81, (Le.of (by rw [← hq, lowest_eq he]))⟩
end An.S

/- Package frac: validity, arithmetic. -/
namespace An.S
open Go Go.Proofs An
set_option maxHeartbeats 2000000
theorem sl102 : SlI Tryz.prog 102 31 4 true := ⟨Tryz.underlying102, ti31⟩
theorem fi28 : FnI Tryz.prog 28 := ⟨_, Tryz.func28, by kernel_rfl, rfl⟩
theorem fi39 : FnI Tryz.prog 39 := ⟨_, Tryz.func39, by kernel_rfl, rfl⟩
theorem fi40 : FnI Tryz.prog 40 := ⟨_, Tryz.func40, by kernel_rfl, rfl⟩
theorem fi41 : FnI Tryz.prog 41 := ⟨_, Tryz.func41, by kernel_rfl, rfl⟩
theorem fi44 : FnI Tryz.prog 44 := ⟨_, Tryz.func44, by kernel_rfl, rfl⟩
theorem fi45 : FnI Tryz.prog 45 := ⟨_, Tryz.func45, by kernel_rfl, rfl⟩
theorem fi46 : FnI Tryz.prog 46 := ⟨_, Tryz.func46, by kernel_rfl, rfl⟩
theorem fi54 : FnI Tryz.prog 54 := ⟨_, Tryz.func54, by kernel_rfl, rfl⟩
theorem fi66 : FnI Tryz.prog 66 := ⟨_, Tryz.func66, by kernel_rfl, rfl⟩
theorem fi67 : FnI Tryz.prog 67 := ⟨_, Tryz.func67, by kernel_rfl, rfl⟩
theorem fi89 : FnI Tryz.prog 89 := ⟨_, Tryz.func89, by kernel_rfl, rfl⟩
theorem fi97 : FnI Tryz.prog 97 := ⟨_, Tryz.func97, by kernel_rfl, rfl⟩
theorem fi98 : FnI Tryz.prog 98 := ⟨_, Tryz.func98, by kernel_rfl, rfl⟩
theorem fi117 : FnI Tryz.prog 117 := ⟨_, Tryz.func117, by kernel_rfl, rfl⟩
theorem el31 : ElI Tryz.prog 31 4 64 true (.agg #[.bool false, .slice none 0 0, .bool false, .slice none 0 0]) := ⟨ti31, by kernel_rfl, by kernel_rfl⟩
theorem zf31 : Flat 4 true (.agg #[.bool false, .slice none 0 0, .bool false, .slice none 0 0]) := flat_agg (by intro u hu; simp at hu; rcases hu with rfl | rfl | rfl | rfl <;> rfl)
theorem gcd_one_dec {x y : Int} : decide (wh ((Int.gcd x y : Nat) : Int) = ⟨false, [1]⟩) = decide (Int.gcd x y = 1) := by
  rw [← wh_one]
  refine decide_eq_decide.2 ⟨fun h' => ?_, fun h' => by rw [h']; rfl⟩
  have := wh_inj h'; omega
theorem pos_of_wh {y : Int} (h1 : (wh y).neg = false) (h2 : ¬ (wh y).l.length = 0) : 0 < y := by
  have h3 : ¬ y < 0 := of_decide_eq_false h1
  have h4 : y ≠ 0 := fun h => h2 (by rw [h, wh_zero]; rfl)
  omega
theorem c_Tvalid (f : Fr) (hn : Dig 65536 f.n.l) (hd : Dig 65536 f.d.l) :
  Ct Tryz.prog 54 [tTm f] (tB f.valid) := by
 obtain ⟨n, d⟩ := f
 replace hn : Dig 65536 n.l := hn
 replace hd : Dig 65536 d.l := hd
 refine Ct.intro Tryz.func54 rfl Tryz.ntmps54 rfl ?_
 intro w F
 refine x6 ?_
 refine x8 ?_
 refine RE (xc9 (k := 1) ti81 rfl) ⟨rfl, trivial⟩ trivial ⟨rfl, trivial⟩ (R1 x5 rfl (x7 (by kernel_rfl) (x4 (x6 (x6 ?_)))))
 refine x8 ?_
 refine RE (xa8 (0) ti81 rfl rfl) ⟨rfl, trivial⟩ ⟨rfl, trivial⟩ trivial (R1 (xa0 (c_Tlong _) fi76 rfl) rfl (R1 x3 rfl ?_))
 refine RGcase (t := 5) rfl (fun h38 => ?_) (fun h38 => ?_)
 ·
  have hs : (⟨n, d⟩ : Fr).sh = false := by simpa using h38
  refine RGoff h38 rfl rfl (RGoff h38 rfl rfl (RGoff h38 rfl rfl (RGoff h38 rfl rfl (RGoff h38 rfl rfl (R2 (xb2 h38) rfl rfl (R1 x3 rfl (RGoff1 rfl rfl ?_)))))))
  refine RGoff1 rfl rfl (RGoff1 rfl rfl (RGoff1 rfl rfl (RGoff1 rfl rfl (R2 (xb2 rfl) rfl rfl (R1 x3 rfl (RGoff1 rfl rfl (RGoff1 rfl rfl ?_)))))))
  refine RGoff1 rfl rfl (RGoff1 rfl rfl (R2 (xb2 rfl) rfl rfl (R1 x3 rfl (RGoff1 rfl rfl (RGoff1 rfl rfl (RGoff1 rfl rfl (RGoff1 rfl rfl ?_)))))))
  refine RGoff1 rfl rfl (RGoff1 rfl rfl (R2 (xb2 rfl) rfl rfl (x7 (by kernel_rfl) (x4 (C_bT rfl rfl (x6 ?_))))))
  refine x8 ?_
  refine R1 x5 rfl (x7 (by kernel_rfl) (x4 (xa1 (xa7 ?_))))
  exact xa4 Plain.mk' rfl rfl (Le.bool (by simp only [Fr.valid, hs, Bool.false_and]))
 ·
  have hs : (⟨n, d⟩ : Fr).sh = true := by simpa using h38
  refine RGon h38 rfl (x9 fo81_0 rfl) rfl ⟨rfl, trivial⟩ trivial trivial (RGon h38 rfl (x9 fo31_0 rfl) rfl ⟨rfl, trivial⟩ trivial trivial (xb7 h38 rfl rfl (0) ti29 rfl rfl rfl (At.t (At.g 0 rfl rfl) (At.g 0 rfl rfl)) rfl (RGon h38 rfl (xa0 (c_WValid n) fi88 rfl) rfl ⟨rfl, trivial⟩ trivial trivial (RGon h38 rfl xe4 rfl ⟨rfl, trivial⟩ trivial trivial (R2 (xb0 h38) rfl rfl (R1 x3 rfl ?_))))))
  refine RGcase (t := 12) rfl (fun h38_2 => ?_) (fun h38_2 => ?_)
  ·
   have hv1 : n.valid = false := by simpa using h38_2
   refine RGoff h38_2 rfl rfl (RGoff h38_2 rfl rfl (RGoff h38_2 rfl rfl (RGoff h38_2 rfl rfl (RGoff h38_2 rfl rfl (R2 (xb2 h38_2) rfl rfl (R1 x3 rfl (RGoff1 rfl rfl ?_)))))))
   refine RGoff1 rfl rfl (RGoff1 rfl rfl (RGoff1 rfl rfl (R2 (xb2 rfl) rfl rfl (R1 x3 rfl (RGoff1 rfl rfl (RGoff1 rfl rfl (RGoff1 rfl rfl ?_)))))))
   refine RGoff1 rfl rfl (RGoff1 rfl rfl (RGoff1 rfl rfl (R2 (xb2 rfl) rfl rfl (x7 (by kernel_rfl) (x4 (C_bT rfl rfl (x6 ?_)))))))
   refine x8 ?_
   refine R1 x5 rfl (x7 (by kernel_rfl) (x4 (xa1 (xa7 ?_))))
   exact xa4 Plain.mk' rfl rfl (Le.bool (by simp only [Fr.valid, hv1, Bool.and_false, Bool.false_and]))
  ·
   have hv1 : n.valid = true := by simpa using h38_2
   refine RGon h38_2 rfl (x9 fo81_0 rfl) rfl ⟨rfl, trivial⟩ trivial trivial (RGon h38_2 rfl (x9 fo31_1 rfl) rfl ⟨rfl, trivial⟩ trivial trivial (xb7 h38_2 rfl rfl (0) ti29 rfl rfl rfl (At.t (At.g 0 rfl rfl) (At.g 1 rfl rfl)) rfl (RGon h38_2 rfl (xa0 (c_WValid d) fi88 rfl) rfl ⟨rfl, trivial⟩ trivial trivial (RGon h38_2 rfl xe4 rfl ⟨rfl, trivial⟩ trivial trivial (R2 (xb0 h38_2) rfl rfl (R1 x3 rfl ?_))))))
   refine RGcase (t := 19) rfl (fun h38_3 => ?_) (fun h38_3 => ?_)
   ·
    have hv2 : d.valid = false := by simpa using h38_3
    refine RGoff h38_3 rfl rfl (RGoff h38_3 rfl rfl (RGoff h38_3 rfl rfl (RGoff h38_3 rfl rfl (R2 (xb2 h38_3) rfl rfl (R1 x3 rfl (RGoff1 rfl rfl (RGoff1 rfl rfl ?_)))))))
    refine RGoff1 rfl rfl (RGoff1 rfl rfl (RGoff1 rfl rfl (RGoff1 rfl rfl (R2 (xb2 rfl) rfl rfl (x7 (by kernel_rfl) (x4 (C_bT rfl rfl ?_)))))))
    refine x6 ?_
    refine x8 ?_
    refine R1 x5 rfl (x7 (by kernel_rfl) (x4 (xa1 (xa7 ?_))))
    exact xa4 Plain.mk' rfl rfl (Le.bool (by simp only [Fr.valid, hv2, Bool.and_false, Bool.false_and]))
   ·
    have hv2 : d.valid = true := by simpa using h38_3
    obtain ⟨x, rfl, hxl⟩ := Wh.of_valid hn hv1
    obtain ⟨y, rfl, hyl⟩ := Wh.of_valid hd hv2
    have ix := int_wh x
    have iy := int_wh y
    refine RGon h38_3 rfl (x9 fo81_0 rfl) rfl ⟨rfl, trivial⟩ trivial trivial (RGon h38_3 rfl (x9 fo31_1 rfl) rfl ⟨rfl, trivial⟩ trivial trivial (RGon h38_3 rfl (x9 fo29_0 rfl) rfl ⟨rfl, trivial⟩ trivial trivial (xb7 h38_3 rfl rfl (0) ti4 rfl rfl rfl (At.t (At.g 0 rfl rfl) (At.t (At.g 1 rfl rfl) (At.g 0 rfl rfl))) rfl (R2 (xb0 h38_3) rfl rfl (R1 x3 rfl ?_)))))
    refine RGcase (t := 25) rfl (fun h38_4 => ?_) (fun h38_4 => ?_)
    ·
     have hy0 : ¬ 0 < y := by have : y < 0 := of_decide_eq_true h38_4; omega
     refine RGoff h38_4 rfl rfl (RGoff h38_4 rfl rfl (RGoff h38_4 rfl rfl (RGoff h38_4 rfl rfl (RGoff h38_4 rfl rfl (RGoff h38_4 rfl rfl (R2 (xb2 h38_4) rfl rfl (x7 (by kernel_rfl) ?_)))))))
     refine x4 (C_bT rfl rfl (x6 ?_))
     refine x8 ?_
     refine R1 x5 rfl (x7 (by kernel_rfl) (x4 (xa1 (xa7 ?_))))
     exact xa4 Plain.mk' rfl rfl (Le.bool (by simp only [Fr.valid, ix, iy, decide_eq_false hy0, Bool.and_false, Bool.false_and]))
    ·
     refine RGon h38_4 rfl (x9 fo81_0 rfl) rfl ⟨rfl, trivial⟩ trivial trivial (RGon h38_4 rfl (x9 fo31_1 rfl) rfl ⟨rfl, trivial⟩ trivial trivial (RGon h38_4 rfl (x9 fo29_1 rfl) rfl ⟨rfl, trivial⟩ trivial trivial (xb7 h38_4 rfl rfl (0) ti22 rfl rfl rfl (At.t (At.g 0 rfl rfl) (At.t (At.g 1 rfl rfl) (At.g 1 rfl rfl))) rfl (RGon h38_4 rfl (xc4 Tryz.underlying22) rfl ⟨rfl, trivial⟩ trivial trivial (RGon h38_4 rfl xe3 rfl ⟨rfl, rfl, trivial⟩ trivial trivial (R2 (xb0 h38_4) rfl rfl (x7 (by kernel_rfl) ?_)))))))
     refine x4 ?_
     refine xc0 rfl (fun h38_5 => ?_) (fun h38_5 => ?_)
     ·
      have hy0 : ¬ 0 < y := fun h => by
       have h5 : (((wh y).l.length : Nat) : Int) = 0 := h38_5
       have h2 : (wh y).l.length = 0 := by omega
       have h3 : y.natAbs = 0 := (xh5 xd2).1 (List.length_eq_zero_iff.1 h2)
       omega
      refine x6 ?_
      refine x8 ?_
      refine R1 x5 rfl (x7 (by kernel_rfl) (x4 (xa1 (xa7 ?_))))
      exact xa4 Plain.mk' rfl rfl (Le.bool (by simp only [Fr.valid, ix, iy, decide_eq_false hy0, Bool.and_false, Bool.false_and]))
     ·
      have h5 : ¬ (((wh y).l.length : Nat) : Int) = 0 := h38_5
      have hy0 : 0 < y := pos_of_wh h38_4 (by omega)
      refine xa5 (x4 (x6 (C_key (k := 1) (e' := ⟨81, 4, true, [.val (tTm ⟨wh x, wh y⟩)]⟩) rfl rfl ?_)))
      refine x8 ?_
      refine RE (xa8 (0) ti81 rfl rfl) ⟨rfl, trivial⟩ ⟨rfl, trivial⟩ trivial (R1 (xa0 (c_Tintegral _) fi89 rfl) rfl (R1 x3 rfl ?_))
      refine RGcase (t := 35) rfl (fun h41 => ?_) (fun h41 => ?_)
      ·
       have hy1 : y = 1 := by have h := of_decide_eq_true h41; exact wh_inj (h.trans wh_one.symm)
       refine RGoff h41 rfl rfl (RGoff h41 rfl rfl (RGoff h41 rfl rfl (RGoff h41 rfl rfl (RGoff h41 rfl rfl (RGoff h41 rfl rfl (RGoff h41 rfl rfl (RGoff h41 rfl rfl ?_)))))))
       refine R2 (xb2 h41) rfl rfl (R1 x5 rfl (x7 (by kernel_rfl) (x4 (xa1 ?_))))
       exact xa4 Plain.mk' rfl rfl (Le.bool (by simp only [Fr.valid, ix, iy, hs, hv1, hv2, Bool.true_and]; rw [hy1]; simp))
      ·
       have hy1 : ¬ y = 1 := fun h => of_decide_eq_false h41 (by show wh y = _; rw [h, wh_one])
       refine RGon h41 rfl (x9 fo81_0 rfl) rfl ⟨rfl, trivial⟩ trivial trivial (RGon h41 rfl (x9 fo31_0 rfl) rfl ⟨rfl, trivial⟩ trivial trivial (xb7 h41 rfl rfl (0) ti29 rfl rfl rfl (At.t (At.g 0 rfl rfl) (At.g 0 rfl rfl)) rfl (RGon h41 rfl (x9 fo81_0 rfl) rfl ⟨rfl, trivial⟩ trivial trivial (RGon h41 rfl (x9 fo31_1 rfl) rfl ⟨rfl, trivial⟩ trivial trivial (xb7 h41 rfl rfl (0) ti29 rfl rfl rfl (At.t (At.g 0 rfl rfl) (At.g 1 rfl rfl)) rfl (RGon h41 rfl (xa0 (c_divisor x y hxl hyl) fi74 rfl) rfl ⟨rfl, rfl, trivial⟩ trivial trivial (RGon h41 rfl (xa0 (c_isOne _) fi90 rfl) rfl ⟨rfl, trivial⟩ trivial trivial ?_)))))))
       refine R2 (xb0 h41) rfl rfl (R1 x5 rfl (x7 (by kernel_rfl) (x4 (xa1 ?_))))
       exact xa4 Plain.mk' rfl rfl (Le.bool (by simp only [Fr.valid, ix, iy, hs, hv1, hv2, decide_eq_true hy0, Bool.true_and]; exact gcd_one_dec))
theorem c_FValid (f : Fr) (hn : Dig 65536 f.n.l) (hd : Dig 65536 f.d.l) :
  Ct Tryz.prog 28 [tFr f] (tB f.valid) := by
 refine Ct.intro Tryz.func28 rfl Tryz.ntmps28 rfl ?_
 intro w F
 refine x6 ?_
 refine x8 ?_
 refine RE (xc9 (k := 1) ti31 rfl) ⟨rfl, trivial⟩ trivial ⟨rfl, trivial⟩ (R1 x5 rfl (x7 (by kernel_rfl) (x4 (x6 ?_))))
 refine x8 ?_
 refine RE (xa8 (0) ti31 rfl rfl) ⟨rfl, trivial⟩ ⟨rfl, trivial⟩ trivial (R1 (xc8 (r := tS [⟨4, true, tFr f⟩]) (ts := [(0, tFr f)]) bu81 zr81.2 ⟨_, rfl⟩ rfl ⟨_, _, _, _, rfl, Up.f (fs := [⟨4, true, (tS [⟨2, true, (tS [⟨1, false, (tE (.bool false))⟩, ⟨1, false, (tLm [])⟩])⟩, ⟨2, true, (tS [⟨1, false, (tE (.bool false))⟩, ⟨1, false, (tLm [])⟩])⟩])⟩]) (f := ⟨4, true, (tS [⟨2, true, (tS [⟨1, false, (tE (.bool false))⟩, ⟨1, false, (tLm [])⟩])⟩, ⟨2, true, (tS [⟨1, false, (tE (.bool false))⟩, ⟨1, false, (tLm [])⟩])⟩])⟩) (fs' := [⟨4, true, tFr f⟩]) 0 rfl rfl rfl, inferInstance, Le.refl⟩) rfl (R1 (xa0 (c_Tvalid f hn hd) fi54 rfl) rfl (R1 x5 rfl (x7 (by kernel_rfl) (x4 (xa1 ?_))))))
 exact xa4 Plain.mk' rfl rfl Le.refl
theorem c_FValidQ (q : Rat) (h : short q) : Ct Tryz.prog 28 [tFr (fr q)] (tB true) := by
  have := c_FValid (fr q) (xe8 xd2 _) (xe8 xd2 _)
  rw [valid_fr h] at this; exact this
theorem c_FallValid1 (q : Rat) (h : short q) :
  Ct Tryz.prog 67 [tFr (fr q)] (tB false) := by
 refine Ct.intro Tryz.func67 rfl Tryz.ntmps67 rfl ?_
 intro w F
 refine x6 ?_
 refine x8 ?_
 refine RE (xc9 (k := 1) ti31 rfl) ⟨rfl, trivial⟩ trivial ⟨rfl, trivial⟩ (R1 x5 rfl (x7 (by kernel_rfl) (x4 (x6 ?_))))
 refine x8 ?_
 refine RE (xa8 (0) ti31 rfl rfl) ⟨rfl, trivial⟩ ⟨rfl, trivial⟩ trivial (R1 (xa0 (c_FValidQ q h) fi28 rfl) rfl (R1 xe4 rfl (R1 x5 rfl (x7 (by kernel_rfl) (x4 (xa1 ?_))))))
 exact xa4 Plain.mk' rfl rfl Le.refl
theorem getD_mem {α : Type} {l : List α} {i : Nat} {d : α} (h : i < l.length) : l.getD i d ∈ l := by
  rw [List.getD_eq_getElem?_getD, List.getElem?_eq_getElem h]; exact List.getElem_mem h
theorem c_FIndex (qs : List Rat) (h : ∀ q ∈ qs, short q) :
  Ct Tryz.prog 98 [tL 4 true (fun q : Rat => tFr (fr q)) qs, tE (.func (.func 67) #[] #[])] (tI (-1)) := by
 refine Ct.intro Tryz.func98 rfl Tryz.ntmps98 rfl ?_
 intro w F
 refine C_len (s := 0) rfl (fun hl0 => ?_)
 refine x6 ?_
 refine x8 ?_
 refine R1 x5 rfl (x7 (by kernel_rfl) (x4 (x6 (x6 ?_))))
 refine x8 ?_
 refine R1 x3 rfl (R1 (xc4 Tryz.underlying102) rfl (R1 x3 rfl (x7 (by kernel_rfl) (x4 (xb3 ?_)))))
 refine xe1 (fun (i : Nat) => i ≤ qs.length) (fun (i : Nat) => upd (upd (upd (upd (fun _ => none) 0 (some (.val (tL 4 true (fun q : Rat => tFr (fr q)) qs)))) 1 (some (.val (tE (.func (.func 67) #[] #[]))))) 7 (some (.val (tI qs.length)))) 8 (some (.val (tI i)))) (fun (i : Nat) => fun _ => none) (nm []) (fun (i : Nat) => qs.length - i) (0) (Nat.zero_le _) (Sub.int rfl (by first | omega | rfl | (dsimp only; omega)) (Sub.int rfl (by first | omega | rfl | (dsimp only; omega)) (Sub.cons rfl (Sub.cons rfl Sub.nil)))) SubK.nil (SupG.val (SupG.val (SupG.val (SupG.val SupG.nil)))) SupH.nil (lkOk rfl) ?_
 intro i hI
 refine x6 ?_
 refine x8 ?_
 refine R2 xd8 rfl rfl (x7 (by kernel_rfl) (x4 (x6 ?_)))
 refine xc0 rfl (fun h108 => ?_) (fun h108 => ?_)
 ·
  refine xa5 (x4 (x6 (xb3 (x6 ?_))))
  refine x8 ?_
  refine R1 x3 rfl (R1 x5 rfl (x7 (by kernel_rfl) (x4 (x6 ?_))))
  refine x8 ?_
  refine R1 x3 rfl (R1 x3 rfl (R1 x3 rfl (R2 (xb9 sl102 i (by omega) (gD (l := qs) (n := i) (d := 0) (by omega))) rfl rfl (R1 (xc5 ti31) rfl (R2 (d_callF (c_FallValid1 (qs.getD i 0) (h _ (getD_mem (by omega)))) fi67 rfl) rfl rfl (x7 (by kernel_rfl) (x4 ?_)))))))
  refine C_bF rfl rfl (xa5 (xc1 (x4 ?_)))
  refine x8 ?_
  refine R2 (xb6 (wr64 (by omega) (by omega))) rfl rfl (R1 x3 rfl (x7 (by kernel_rfl) ?_))
  exact xc2 (i + 1) ⟨(by omega), (by omega)⟩ (Sub.int rfl (by first | omega | rfl | (dsimp only; omega)) (Sub.int rfl (by first | omega | rfl | (dsimp only; omega)) (Sub.cons rfl (Sub.cons rfl Sub.nil)))) SubK.nil (SupG.val (SupG.val (SupG.val (SupG.val SupG.nil)))) SupH.nil (lkOk rfl)
 ·
  refine xd4 (xb8 (xb8 (xe0 (x4 (x6 ?_)))))
  refine x8 ?_
  refine R1 x5 rfl (x7 (by kernel_rfl) (x4 (xa1 ?_)))
  exact xa4 Plain.mk' rfl rfl Le.refl
theorem c_FContains (qs : List Rat) (h : ∀ q ∈ qs, short q) :
  Ct Tryz.prog 66 [tL 4 true (fun q : Rat => tFr (fr q)) qs, tE (.func (.func 67) #[] #[])] (tB false) := by
 refine Ct.intro Tryz.func66 rfl Tryz.ntmps66 rfl ?_
 intro w F
 refine x6 ?_
 refine x8 ?_
 refine R1 x5 rfl (x7 (by kernel_rfl) (x4 (x6 ?_)))
 refine x8 ?_
 refine R1 x3 rfl (R1 x3 rfl (R2 (xa0 (c_FIndex qs h) fi98 rfl) rfl rfl (R2 d_geq rfl rfl (R1 x5 rfl (x7 (by kernel_rfl) (x4 (xa1 ?_)))))))
 exact xa4 Plain.mk' rfl rfl (Le.bool rfl)
theorem c_FallValid (qs : List Rat) (h : ∀ q ∈ qs, short q) :
  Ct Tryz.prog 39 [tL 4 true (fun q : Rat => tFr (fr q)) qs] (tB true) := by
 refine Ct.intro Tryz.func39 rfl Tryz.ntmps39 rfl ?_
 intro w F
 refine x6 ?_
 refine x8 ?_
 refine R1 x5 rfl (x7 (by kernel_rfl) (x4 (x6 ?_)))
 refine x8 ?_
 refine R1 x3 rfl (R2 (xa0 (c_FContains qs h) fi66 rfl) rfl rfl (R1 xe4 rfl (R1 x5 rfl (x7 (by kernel_rfl) (x4 (xa1 ?_))))))
 exact xa4 Plain.mk' rfl rfl Le.refl
theorem mul_divInt (a b : Rat) : Rat.divInt (a.num * b.num) ((a.den : Int) * (b.den : Int)) = a * b := by
  rw [Rat.mul_def, ← Int.natCast_mul, Rat.divInt_ofNat, Rat.normalize_eq_mkRat]
theorem add_divInt (a b : Rat) : Rat.divInt (a.num * (b.den : Int) + b.num * (a.den : Int)) ((a.den : Int) * (b.den : Int)) = a + b := by
  rw [Rat.add_def, ← Int.natCast_mul, Rat.divInt_ofNat, Rat.normalize_eq_mkRat]
theorem den_mul_ne {a b : Rat} : ((a.den : Int) * (b.den : Int)) ≠ 0 := by
  have h1 := a.den_nz; have h2 := b.den_nz
  exact Int.mul_ne_zero (by omega) (by omega)
theorem c_FMul (a b : Rat) (ha : short a) (hb : short b) :
  Ct Tryz.prog 18 [tFr (fr a), tFr (fr b)] (tT [tFr (resF (a * b)), tI (resFE (a * b))]) := by
 obtain ⟨an, ad⟩ := ha
 obtain ⟨bn, bd⟩ := hb
 have hbd := b.den_nz
 have had := a.den_nz
 have m1 : len16 (a.num * b.num) ≤ 256 + 256 := len16_mul an bn
 have m2 : len16 ((a.den : Int) * (b.den : Int)) ≤ 256 + 256 := len16_mul ad bd
 have ha : short a := ⟨an, ad⟩
 have hb : short b := ⟨bn, bd⟩
 refine Ct.intro Tryz.func18 rfl Tryz.ntmps18 rfl ?_
 intro w F
 refine x6 ?_
 refine x8 ?_
 refine RE (xc9 (k := 2) ti31 rfl) ⟨rfl, trivial⟩ trivial ⟨rfl, trivial⟩ (RE (xc9 (k := 3) ti31 rfl) ⟨rfl, trivial⟩ trivial ⟨rfl, trivial⟩ (RE (xb4 (k := 4) (n := 4) (agg := true) zr31.1 zr31.2 rfl) trivial trivial ⟨rfl, trivial⟩ (R1 x5 rfl (x7 (by kernel_rfl) (x4 (x6 (x6 ?_)))))))
 refine x8 ?_
 refine RE (xa8 (0) ti31 rfl rfl) ⟨rfl, trivial⟩ ⟨rfl, trivial⟩ trivial (RE (xa8 (0) ti31 rfl rfl) ⟨rfl, trivial⟩ ⟨rfl, trivial⟩ trivial (R2 (xf7 (n := 2) (f := fun q : Rat => tFr (fr q)) [a, b] Tryz.underlying102 el31 zf31 rfl (fun _ => inferInstance) rfl rfl rfl) rfl rfl (R1 (xa0 (c_FallValid [a, b] (by simp; exact ⟨ha, hb⟩)) fi39 rfl) rfl (R1 xe4 rfl (x7 (by kernel_rfl) (x4 (C_bF rfl rfl ?_)))))))
 refine xa5 (x4 (x6 ?_))
 refine xd5 mixed ?_
 refine R1 (x9 fo31_0 rfl) rfl (xa6 (0) ti29 rfl rfl rfl (At.g 0 rfl rfl) rfl (R1 (x9 fo31_0 rfl) rfl (xa6 (0) ti29 rfl rfl rfl (At.g 0 rfl rfl) rfl (R2 (xa0 (c_ftimes (a.num) (b.num) (by omega) (by omega) (by omega)) fi41 rfl) rfl rfl (R1 (x9 fo31_1 rfl) rfl (xa6 (0) ti29 rfl rfl rfl (At.g 1 rfl rfl) rfl (R1 (x9 fo31_1 rfl) rfl ?_)))))))
 refine xa6 (0) ti29 rfl rfl rfl (At.g 1 rfl rfl) rfl (R2 (xa0 (c_ftimes ((a.den : Int)) ((b.den : Int)) (by omega) (by omega) (by omega)) fi41 rfl) rfl rfl (R2 (xa0 (c_lowest _ _ (by omega) (by omega) den_mul_ne) fi44 rfl) rfl rfl (R1 (xa0 (c_Tresult _) fi45 rfl) rfl (R1 (xa2 rfl) rfl (R1 (xa2 rfl) rfl (RE (xa3 (es := 4) (agg := true) (0) ti31 rfl rfl rfl) ⟨rfl, rfl, trivial⟩ ⟨rfl, trivial⟩ trivial (R1 x5 rfl ?_)))))))
 refine xd6 (by kernel_rfl) (x4 (xa1 ?_))
 exact xf1 Plain.mk' (rs := [.cell 4 31, .tmp 5]) rfl rfl ⟨⟨_, _, _, _, _, rfl, rfl, ti31, (Le.of (by rw [sh_fr, mul_divInt]; by_cases hs : short (a * b) <;> simp [resF, hs]))⟩, ⟨_, rfl, (Le.int (by rw [sh_fr, mul_divInt]; by_cases hs : short (a * b) <;> simp [resFE, hs]))⟩, trivial⟩
theorem c_FAdd (a b : Rat) (ha : short a) (hb : short b) :
  Ct Tryz.prog 19 [tFr (fr a), tFr (fr b)] (tT [tFr (resF (a + b)), tI (resFE (a + b))]) := by
 obtain ⟨an, ad⟩ := ha
 obtain ⟨bn, bd⟩ := hb
 have hbd := b.den_nz
 have had := a.den_nz
 have m1 : len16 (a.num * (b.den : Int)) ≤ 256 + 256 := len16_mul an bd
 have m2 : len16 (b.num * (a.den : Int)) ≤ 256 + 256 := len16_mul bn ad
 have m3 : len16 ((a.den : Int) * (b.den : Int)) ≤ 256 + 256 := len16_mul ad bd
 have m4 := len16_add m1 m2
 have ha : short a := ⟨an, ad⟩
 have hb : short b := ⟨bn, bd⟩
 refine Ct.intro Tryz.func19 rfl Tryz.ntmps19 rfl ?_
 intro w F
 refine x6 ?_
 refine x8 ?_
 refine RE (xc9 (k := 2) ti31 rfl) ⟨rfl, trivial⟩ trivial ⟨rfl, trivial⟩ (RE (xc9 (k := 3) ti31 rfl) ⟨rfl, trivial⟩ trivial ⟨rfl, trivial⟩ (RE (xb4 (k := 4) (n := 4) (agg := true) zr31.1 zr31.2 rfl) trivial trivial ⟨rfl, trivial⟩ (R1 x5 rfl (x7 (by kernel_rfl) (x4 (x6 (x6 ?_)))))))
 refine x8 ?_
 refine RE (xa8 (0) ti31 rfl rfl) ⟨rfl, trivial⟩ ⟨rfl, trivial⟩ trivial (RE (xa8 (0) ti31 rfl rfl) ⟨rfl, trivial⟩ ⟨rfl, trivial⟩ trivial (R2 (xf7 (n := 2) (f := fun q : Rat => tFr (fr q)) [a, b] Tryz.underlying102 el31 zf31 rfl (fun _ => inferInstance) rfl rfl rfl) rfl rfl (R1 (xa0 (c_FallValid [a, b] (by simp; exact ⟨ha, hb⟩)) fi39 rfl) rfl (R1 xe4 rfl (x7 (by kernel_rfl) (x4 (C_bF rfl rfl ?_)))))))
 refine xa5 (x4 (x6 ?_))
 refine xd5 mixed ?_
 refine R1 (x9 fo31_0 rfl) rfl (xa6 (0) ti29 rfl rfl rfl (At.g 0 rfl rfl) rfl (R1 (x9 fo31_1 rfl) rfl (xa6 (0) ti29 rfl rfl rfl (At.g 1 rfl rfl) rfl (R2 (xa0 (c_ftimes (a.num) ((b.den : Int)) (by omega) (by omega) (by omega)) fi41 rfl) rfl rfl (R1 (x9 fo31_0 rfl) rfl (xa6 (0) ti29 rfl rfl rfl (At.g 0 rfl rfl) rfl (R1 (x9 fo31_1 rfl) rfl ?_)))))))
 refine xa6 (0) ti29 rfl rfl rfl (At.g 1 rfl rfl) rfl (R2 (xa0 (c_ftimes (b.num) ((a.den : Int)) (by omega) (by omega) (by omega)) fi41 rfl) rfl rfl (R2 (xa0 (c_fplus (a.num * (b.den : Int)) (b.num * (a.den : Int)) (by omega) (by omega) (by omega)) fi46 rfl) rfl rfl (R1 (x9 fo31_1 rfl) rfl (xa6 (0) ti29 rfl rfl rfl (At.g 1 rfl rfl) rfl (R1 (x9 fo31_1 rfl) rfl (xa6 (0) ti29 rfl rfl rfl (At.g 1 rfl rfl) rfl (R2 (xa0 (c_ftimes ((a.den : Int)) ((b.den : Int)) (by omega) (by omega) (by omega)) fi41 rfl) rfl rfl ?_)))))))
 refine R2 (xa0 (c_lowest _ _ (by omega) (by omega) den_mul_ne) fi44 rfl) rfl rfl (R1 (xa0 (c_Tresult _) fi45 rfl) rfl (R1 (xa2 rfl) rfl (R1 (xa2 rfl) rfl (RE (xa3 (es := 4) (agg := true) (0) ti31 rfl rfl rfl) ⟨rfl, rfl, trivial⟩ ⟨rfl, trivial⟩ trivial (R1 x5 rfl (xd6 (by kernel_rfl) (x4 ?_)))))))
 refine xa1 ?_
 exact xf1 Plain.mk' (rs := [.cell 4 31, .tmp 5]) rfl rfl ⟨⟨_, _, _, _, _, rfl, rfl, ti31, (Le.of (by rw [sh_fr, add_divInt]; by_cases hs : short (a + b) <;> simp [resF, hs]))⟩, ⟨_, rfl, (Le.int (by rw [sh_fr, add_divInt]; by_cases hs : short (a + b) <;> simp [resFE, hs]))⟩, trivial⟩
theorem c_FCmp (a b : Rat) (ha : short a) (hb : short b) :
  Ct Tryz.prog 15 [tFr (fr a), tFr (fr b)] (tI (cmpQ a b)) := by
 obtain ⟨an, ad⟩ := ha
 obtain ⟨bn, bd⟩ := hb
 have hbd := b.den_nz
 have had := a.den_nz
 have m1 : len16 (a.num * (b.den : Int)) ≤ 256 + 256 := len16_mul an bd
 have m2 : len16 (b.num * (a.den : Int)) ≤ 256 + 256 := len16_mul bn ad
 have ha : short a := ⟨an, ad⟩
 have hb : short b := ⟨bn, bd⟩
 refine Ct.intro Tryz.func15 rfl Tryz.ntmps15 rfl ?_
 intro w F
 refine x6 ?_
 refine x8 ?_
 refine RE (xc9 (k := 2) ti31 rfl) ⟨rfl, trivial⟩ trivial ⟨rfl, trivial⟩ (RE (xc9 (k := 3) ti31 rfl) ⟨rfl, trivial⟩ trivial ⟨rfl, trivial⟩ (R1 x5 rfl (x7 (by kernel_rfl) (x4 (x6 (x6 ?_))))))
 refine x8 ?_
 refine RE (xa8 (0) ti31 rfl rfl) ⟨rfl, trivial⟩ ⟨rfl, trivial⟩ trivial (RE (xa8 (0) ti31 rfl rfl) ⟨rfl, trivial⟩ ⟨rfl, trivial⟩ trivial (R2 (xf7 (n := 2) (f := fun q : Rat => tFr (fr q)) [a, b] Tryz.underlying102 el31 zf31 rfl (fun _ => inferInstance) rfl rfl rfl) rfl rfl (R1 (xa0 (c_FallValid [a, b] (by simp; exact ⟨ha, hb⟩)) fi39 rfl) rfl (R1 xe4 rfl (x7 (by kernel_rfl) (x4 (C_bF rfl rfl ?_)))))))
 refine xa5 (x4 (x6 ?_))
 refine xd5 mixed ?_
 refine R1 (x9 fo31_0 rfl) rfl (xa6 (0) ti29 rfl rfl rfl (At.g 0 rfl rfl) rfl (R1 (x9 fo31_1 rfl) rfl (xa6 (0) ti29 rfl rfl rfl (At.g 1 rfl rfl) rfl (R2 (xa0 (c_ftimes (a.num) ((b.den : Int)) (by omega) (by omega) (by omega)) fi41 rfl) rfl rfl (R1 (x9 fo31_0 rfl) rfl (xa6 (0) ti29 rfl rfl rfl (At.g 0 rfl rfl) rfl (R1 (x9 fo31_1 rfl) rfl ?_)))))))
 refine xa6 (0) ti29 rfl rfl rfl (At.g 1 rfl rfl) rfl (R2 (xa0 (c_ftimes (b.num) ((a.den : Int)) (by omega) (by omega) (by omega)) fi41 rfl) rfl rfl (R2 (xa0 (c_Cmp (a.num * (b.den : Int)) (b.num * (a.den : Int)) (by omega) (by omega)) fi40 rfl) rfl rfl (R1 x5 rfl (xd6 (by kernel_rfl) (x4 (xa1 ?_))))))
 exact xa4 Plain.mk' rfl rfl (Le.int (cmpQ_eq a b))
theorem c_FSame (f g : Fr) :
  Ct Tryz.prog 105 [tFr f, tFr g] (tB (decide (f = g))) := by
 refine Ct.intro Tryz.func105 rfl Tryz.ntmps105 rfl ?_
 intro w F
 refine x6 ?_
 refine x8 ?_
 refine RE (xc9 (k := 2) ti31 rfl) ⟨rfl, trivial⟩ trivial ⟨rfl, trivial⟩ (RE (xc9 (k := 3) ti31 rfl) ⟨rfl, trivial⟩ trivial ⟨rfl, trivial⟩ (R1 x5 rfl (x7 (by kernel_rfl) (x4 (x6 ?_)))))
 refine x8 ?_
 refine R1 (x9 fo31_0 rfl) rfl (xa6 (0) ti29 rfl rfl rfl (At.g 0 rfl rfl) rfl (R1 (x9 fo31_0 rfl) rfl (xa6 (0) ti29 rfl rfl rfl (At.g 0 rfl rfl) rfl (R2 (xa0 (c_WSame _ _) fi117 rfl) rfl rfl (R1 x3 rfl ?_)))))
 refine RGcase (t := 10) rfl (fun h107 => ?_) (fun h107 => ?_)
 ·
  have hn : f.n = g.n := of_decide_eq_true h107
  refine RGon h107 rfl (x9 fo31_1 rfl) rfl ⟨rfl, trivial⟩ trivial trivial (xb7 h107 rfl rfl (0) ti29 rfl rfl rfl (At.g 1 rfl rfl) rfl (RGon h107 rfl (x9 fo31_1 rfl) rfl ⟨rfl, trivial⟩ trivial trivial (xb7 h107 rfl rfl (0) ti29 rfl rfl rfl (At.g 1 rfl rfl) rfl (RGon h107 rfl (xa0 (c_WSame _ _) fi117 rfl) rfl ⟨rfl, rfl, trivial⟩ trivial trivial (R2 (xb2 h107) rfl rfl (R1 x5 rfl (x7 (by kernel_rfl) ?_)))))))
  refine x4 (xa1 ?_)
  exact xa4 Plain.mk' rfl rfl (Le.bool (by obtain ⟨a, b⟩ := f; obtain ⟨c, d⟩ := g; simp only at hn; subst hn; simp))
 ·
  have hn : f.n ≠ g.n := of_decide_eq_false h107
  refine RGoff h107 rfl rfl (RGoff h107 rfl rfl (RGoff h107 rfl rfl (RGoff h107 rfl rfl (RGoff h107 rfl rfl (R2 (xb0 h107) rfl rfl (R1 x5 rfl (x7 (by kernel_rfl) ?_)))))))
  refine x4 (xa1 ?_)
  exact xa4 Plain.mk' rfl rfl (Le.bool (decide_eq_false (fun h => hn (by rw [h]))).symm)
theorem c_FFromInt (n : Int) (h1 : -9223372036854775808 ≤ n) (h2 : n ≤ 9223372036854775807) :
  Ct Tryz.prog 65 [tI n] (tFr (fr (n : Rat))) := by
 refine Ct.intro Tryz.func65 rfl Tryz.ntmps65 rfl ?_
 intro w F
 refine x6 ?_
 refine x8 ?_
 refine RE (xb4 (k := 2) (n := 4) (agg := true) zr31.1 zr31.2 rfl) trivial trivial ⟨rfl, trivial⟩ (x7 (by kernel_rfl) (x4 (x6 ?_)))
 refine x8 ?_
 refine R1 x3 rfl (R1 (xa0 (c_FromInt n h1 h2) fi97 rfl) rfl (R1 (xa0 (c_FromInt 1 (by decide) (by decide)) fi97 rfl) rfl (R2 (xc8 (r := tS [⟨2, true, tWh (wh n)⟩, ⟨2, true, tWh (wh 1)⟩]) (ts := [(0, tWh (wh n)), (1, tWh (wh 1))]) bu31 zr31.2 ⟨_, rfl⟩ rfl ⟨_, _, _, _, rfl, Up.f (fs := [⟨2, true, (tS [⟨1, false, (tE (.bool false))⟩, ⟨1, false, (tLm [])⟩])⟩, ⟨2, true, (tS [⟨1, false, (tE (.bool false))⟩, ⟨1, false, (tLm [])⟩])⟩]) (f := ⟨2, true, (tS [⟨1, false, (tE (.bool false))⟩, ⟨1, false, (tLm [])⟩])⟩) (fs' := [⟨2, true, tWh (wh n)⟩, ⟨2, true, (tS [⟨1, false, (tE (.bool false))⟩, ⟨1, false, (tLm [])⟩])⟩]) 0 rfl rfl rfl, inferInstance, ⟨_, _, _, _, rfl, Up.f (fs := [⟨2, true, tWh (wh n)⟩, ⟨2, true, (tS [⟨1, false, (tE (.bool false))⟩, ⟨1, false, (tLm [])⟩])⟩]) (f := ⟨2, true, (tS [⟨1, false, (tE (.bool false))⟩, ⟨1, false, (tLm [])⟩])⟩) (fs' := [⟨2, true, tWh (wh n)⟩, ⟨2, true, tWh (wh 1)⟩]) 1 rfl rfl rfl, inferInstance, Le.refl⟩⟩) rfl rfl (RE (xa3 (es := 4) (agg := true) (0) ti31 rfl rfl rfl) ⟨rfl, rfl, trivial⟩ ⟨rfl, trivial⟩ trivial (x7 (by kernel_rfl) (x4 (xa1 ?_)))))))
 exact xg4 Plain.mk' rfl ⟨_, _, _, _, _, rfl, rfl, ti31, (Le.of (by rw [fr, Rat.num_intCast, Rat.den_intCast]; rfl))⟩
end An.S

/- Pointers that may be nil. For any program. -/
namespace An
open Go
/-- A pointer to this, or nil. -/
def tO {α : Type} (n : Nat) (agg : Bool) (f : α → Ty) : Option α → Ty
  | none => tE (.pointer none)
  | some x => tP n agg (f x)
instance {α : Type} {n : Nat} {agg : Bool} {f : α → Ty} {o : Option α} : Shape (tO n agg f o) 1 false := ⟨fun h => by
  cases o with
  | none => have h : _ = _ := h; rw [h]; exact xg0 rfl
  | some x => obtain ⟨_, _, _, h, _⟩ := h; rw [h]; exact xg0 rfl⟩
section
variable {P : Program} {c : Base} {d ty : Nat} {pos : String} {af : Array Edge} {gd : Option (Nat × Bool)} {α : Type} {n : Nat} {agg : Bool} {f : α → Ty}
end
end An

/- What is known of the memory that was there: carried by what a slot, or a cell, is said to hold. For any program. -/
namespace An
open Go
/-- Something known of the memory, as long as what may be read stays. -/
structure Kw where
  p : Dom → World → Prop
  mono : ∀ {F F' : Dom} {w w' : World}, p F w → Keep F F' w w' → p F' w'
/-- This, and what is known. -/
def tG (K : Kw) (t : Ty) : Ty := ⟨fun F w v => t.p F w v ∧ K.p F w, fun h hk => ⟨t.mono h.1 hk, K.mono h.2 hk⟩⟩
/-- Whatever; and what is known. -/
def tK (K : Kw) : Ty := ⟨fun F w _ => K.p F w, fun h hk => K.mono h hk⟩
/-- A type that carries it. -/
def Car (K : Kw) (t : Ty) : Prop := ∀ F w v, t.p F w v → K.p F w
theorem car_G {K : Kw} {t : Ty} : Car K (tG K t) := fun _ _ _ h => h.2
theorem car_K {K : Kw} : Car K (tK K) := fun _ _ _ h => h
instance {K : Kw} {t : Ty} {n : Nat} {agg : Bool} [h : Shape t n agg] : Shape (tG K t) n agg := ⟨fun hp => h.flat hp.1⟩
section
variable {P : Program} {c : Base} {g : Slots} {h : Keys} {al : Names} {d ty : Nat} {pos : String} {af : Array Edge} {gd : Option (Nat × Bool)} {Q : Exit → Act → World → Prop}
theorem put_same {c : Base} {g : Slots} {h : Keys} {al : Names} {a : Act} {w : World} {η : Env} {t : Nat} {e : Ent} (s : St' c g h al a w η) (ht : t < c.N) (he : e.sat (c.dom h η) w η (a.tmps.getD t undef)) (hs : e.supp = []) : St' c (upd g t (some e)) h al a w η := by
  have s2 := s.put ht (e := e) he fun j hj => by rw [hs] at hj; cases hj
  have e2 : a.put (some t) (a.tmps.getD t undef) = a := by
    have hlt : t < a.tmps.size := by rw [s.tn]; exact ht
    have : a.tmps.setIfInBounds t (a.tmps.getD t undef) = a.tmps := by
      apply Array.ext_getElem?
      intro i
      rw [Array.getElem?_setIfInBounds]
      by_cases hi : t = i
      · subst hi; simp [hlt]
      · simp [hi]
    simp only [Act.put, this]
  rwa [e2] at s2
/-- What a slot carries is written at another slot, which is free. -/
theorem C_know {K : Kw} {x : Code} {t : Ty} {i q : Nat} (hs : g i = some (.val (tG K t))) (hq : Nat.blt q c.N = true) (H : wc P c x Q (upd (upd g i (some (.val t))) q (some (.val (tK K)))) h al) : wc P c x Q g h al := fun a w ⟨η, st⟩ => by
  obtain ⟨h1, _, h2⟩ := st.slot i _ hs
  have s1 := put_same st h1 (e := .val t) h2.1 rfl
  have s2 := put_same s1 (t := q) (by simpa using hq) (e := .val (tK K)) h2.2 rfl
  exact H a w ⟨η, s2⟩
/-- A call of a function that wants it known. -/
theorem xg3 {K : Kw} {f : FuncId} {xs : List Operand} {aT : Array TypeId} {t tk : Ty} {ts : List Ty} {r : Ty} (s : Nat) (hk : Car K tk) (hc : Ct P f (tG K t :: ts) r) (hf : FnI P f) (hl : xs.length = ts.length + 1) :
    Does P c ⟨some d, .call { callee := .value (.func f), args := xs.toArray, argTypes := aT }, ty, pos, af, gd⟩ ⟨(.tmp s, .val tk) :: xs.zip ((t :: ts).map Ent.val), [], some (d, some (.val r)), [], []⟩ := by
  intro g h al a w hp ⟨η, st⟩
  obtain ⟨fn, h1, h2, h3⟩ := hf
  have hkn := hk _ _ _ (xb5 st hp.rd.1).1
  have hargs := Tup.all_of st xs (t :: ts) hp.rd.2 (by simpa using hl)
  have hrun : (execOp a.eval ⟨some d, .call { callee := .value (.func f), args := xs.toArray, argTypes := aT }, ty, pos, af, gd⟩).run P w = .ok (.enter f (xs.map a.eval).toArray) w := by
    simp only [execOp, resolve, Act.eval, Deferred.ofValue, Sem.run_bind, Sem.run_pure, Result.andThen_ok, invoke]
    simp only [Array.append_empty, Array.empty_append, List.map_toArray]
    exact xh3 h1 h2 h3 _ w
  have hargs' : Tup.all (c.dom h η) w (tG K t :: ts) (xs.map a.eval) := by
    cases xs with
    | nil => simp at hl
    | cons y ys => exact ⟨⟨hargs.1, hkn⟩, hargs.2⟩
  refine upon_enter hrun (Calls.mono (hc (c.dom h η) w (xs.map a.eval) hargs') ?_)
  rintro e w' ⟨v, rfl, hext, hr⟩
  refine ⟨v, rfl, η, (st.ext hext).put (hp.d _ rfl) (e := .val r) (r.mono hr fun b o hb hl _ => ⟨?_, hl⟩) (fun k hk => by cases hk)⟩
  rcases hb with hb | hb
  · refine ⟨.inl (Nat.le_trans st.fr.size hb), fun ho => ?_, fun hv => ?_, fun hv => ?_⟩
    · have := st.olt ho; omega
    · have := (st.fr.vnew b hv).1; omega
    · have := st.vol b hv; omega
  · exact hb
/-- .. which a cell of one's own carries. -/
theorem d_callTK {K : Kw} {f : FuncId} {xs : List Operand} {aT : Array TypeId} {t tk : Ty} {ts : List Ty} {r : Ty} (k T es : Nat) (agg : Bool) (hk : Car K tk) (hc0 : ∀ η : Env, ∀ w F, (⟨T, es, agg, [.val tk]⟩ : HEnt).sat F w η k → 0 < η.c k) (hc : Ct P f (tG K t :: ts) r) (hf : FnI P f) (hl : xs.length = ts.length + 1) :
    Does P c ⟨some d, .call { callee := .value (.func f), args := xs.toArray, argTypes := aT }, ty, pos, af, gd⟩ ⟨xs.zip ((t :: ts).map Ent.val), [(k, ⟨T, es, agg, [.val tk]⟩)], some (d, some (.val r)), [], []⟩ := by
  intro g h al a w hp ⟨η, st⟩
  obtain ⟨fn, h1, h2, h3⟩ := hf
  have hkey := (st.key k _ hp.kr.1).2.2.1
  have hkn : K.p (c.dom h η) w := by
    obtain ⟨cs, _, _, h6⟩ := hkey.2.2.2.2 (hc0 η w _ hkey)
    exact hk _ _ _ (h6 0 _ rfl)
  have hargs := Tup.all_of st xs (t :: ts) hp.rd (by simpa using hl)
  have hrun : (execOp a.eval ⟨some d, .call { callee := .value (.func f), args := xs.toArray, argTypes := aT }, ty, pos, af, gd⟩).run P w = .ok (.enter f (xs.map a.eval).toArray) w := by
    simp only [execOp, resolve, Act.eval, Deferred.ofValue, Sem.run_bind, Sem.run_pure, Result.andThen_ok, invoke]
    simp only [Array.append_empty, Array.empty_append, List.map_toArray]
    exact xh3 h1 h2 h3 _ w
  have hargs' : Tup.all (c.dom h η) w (tG K t :: ts) (xs.map a.eval) := by
    cases xs with
    | nil => simp at hl
    | cons y ys => exact ⟨⟨hargs.1, hkn⟩, hargs.2⟩
  refine upon_enter hrun (Calls.mono (hc (c.dom h η) w (xs.map a.eval) hargs') ?_)
  rintro e w' ⟨v, rfl, hext, hr⟩
  refine ⟨v, rfl, η, (st.ext hext).put (hp.d _ rfl) (e := .val r) (r.mono hr fun b o hb hl _ => ⟨?_, hl⟩) (fun k hk => by cases hk)⟩
  rcases hb with hb | hb
  · refine ⟨.inl (Nat.le_trans st.fr.size hb), fun ho => ?_, fun hv => ?_, fun hv => ?_⟩
    · have := st.olt ho; omega
    · have := (st.fr.vnew b hv).1; omega
    · have := st.vol b hv; omega
  · exact hb
theorem full_one {T es k : Nat} {agg : Bool} {tk : Ty} : ∀ η : Env, ∀ w F, (⟨T, es, agg, [.val tk]⟩ : HEnt).sat F w η k → 0 < η.c k := fun η w F h => by
  have : 1 ≤ η.c k := h.1
  omega
/-- A function without arguments that wants it known. -/
def Ct0 (K : Kw) (P : Program) (f : FuncId) (r : Ty) : Prop :=
  ∀ (F : Dom) (w : World), K.p F w → Calls P f #[] w fun e w' => ∃ v, e = .returned v ∧ Ext w w' ∧ r.p (fun b => w.heap.size ≤ b ∨ F b) w' v
theorem d_call0 {K : Kw} {f : FuncId} {aT : Array TypeId} {tk : Ty} {r : Ty} (s : Nat) (hk : Car K tk) (hc : Ct0 K P f r) (hf : FnI P f) :
    Does P c ⟨some d, .call { callee := .value (.func f), args := #[], argTypes := aT }, ty, pos, af, gd⟩ ⟨[(.tmp s, .val tk)], [], some (d, some (.val r)), [], []⟩ := by
  intro g h al a w hp ⟨η, st⟩
  obtain ⟨fn, h1, h2, h3⟩ := hf
  have hkn := hk _ _ _ (xb5 st hp.rd.1).1
  have hrun : (execOp a.eval ⟨some d, .call { callee := .value (.func f), args := #[], argTypes := aT }, ty, pos, af, gd⟩).run P w = .ok (.enter f #[]) w := by
    simp only [execOp, resolve, Act.eval, Deferred.ofValue, Sem.run_bind, Sem.run_pure, Result.andThen_ok, invoke]
    simp only [Array.append_empty, Array.empty_append, List.map_toArray]
    exact xh3 h1 h2 h3 _ w
  refine upon_enter hrun (Calls.mono (hc (c.dom h η) w hkn) ?_)
  rintro e w' ⟨v, rfl, hext, hr⟩
  refine ⟨v, rfl, η, (st.ext hext).put (hp.d _ rfl) (e := .val r) (r.mono hr fun b o hb hl _ => ⟨?_, hl⟩) (fun k hk => by cases hk)⟩
  rcases hb with hb | hb
  · refine ⟨.inl (Nat.le_trans st.fr.size hb), fun ho => ?_, fun hv => ?_, fun hv => ?_⟩
    · have := st.olt ho; omega
    · have := (st.fr.vnew b hv).1; omega
    · have := st.vol b hv; omega
  · exact hb
end
theorem Ct0.intro {P : Program} {K : Kw} {f : FuncId} {fn : Func} {x : Code} {N : Nat} {r : Ty} (q : Nat) (hf : P.funcs[f]? = some fn) (hb : fn.body = some x) (hN : fn.ntmps = N) (hq : Nat.blt q N = true)
    (H : ∀ w F, wc P (Base.plain N w F) x (Post P w F fn r) (upd (fun _ => none) q (some (.val (tK K)))) (fun _ => none) (fun _ => false)) : Ct0 K P f r := by
  intro F w hk
  refine calls_of_post hf hb (H w F _ w ⟨⟨fun _ => 0, fun _ => 0, fun _ => False⟩, ?_⟩)
  refine ⟨?_, rfl, fun s e hs => ?_, fun k x hx => (by cases hx), fun k k' x x' hx => (by cases hx), ⟨rfl, rfl, rfl, Nat.le_refl _, fun _ _ _ _ => rfl, fun _ hb => hb, fun _ hb => hb.elim⟩, fun x hx => (by cases hx), fun x hx => (by cases hx), fun b hb => hb.elim, fun k hk => (by cases hk), fun k x hk => (by cases hk), fun b hb => hb.elim⟩
  · simp [hN, Base.plain]
  · by_cases hsq : s = q
    · subst hsq
      rw [xd3] at hs
      cases hs
      refine ⟨by show s < N; simpa using hq, fun k hk => (by cases hk), ?_⟩
      exact K.mono hk fun b o hb hl _ => ⟨⟨.inr ⟨hb, fun h => h⟩, fun ⟨k, x, hx, _⟩ => (by cases hx), fun h => h, fun h => h⟩, hl⟩
    · rw [xc3 _ _ _ hsq] at hs; cases hs
section
variable {P : Program} {c : Base} {d ty : Nat} {pos : String} {af : Array Edge} {gd : Option (Nat × Bool)}
/-- A copy of what carries it: the content. -/
theorem d_moveG {K : Kw} {x : Operand} {t : Ty} : Does P c ⟨some d, .move x, ty, pos, af, gd⟩ ⟨[(x, .val (tG K t))], [], some (d, some (.val t)), [], []⟩ :=
  Does.value rfl fun g h al a w η hr _ s => ⟨a.eval x, w, by simp [execOp, go_sem], Ext.refl w, (xb5 s hr.1).1.1, fun j hj => by cases hj⟩
/-- A load from a cell whose content carries it: the content. -/
theorem d_loadG {K : Kw} {T T0 es k : Nat} {agg : Bool} {x : Operand} {t : Ty} (ti : TyI P T es agg) :
    Does P c ⟨some d, .load T x, ty, pos, af, gd⟩ ⟨[(x, .own (.ptr k 0))], [(k, ⟨T0, es, agg, [.val (tG K t)]⟩)], some (d, some (.val t)), [], []⟩ :=
  Does.value rfl fun g h al a w η hrd hkr s => by
    have h1 : a.eval x = .pointer (some ⟨η.b k, 0, none⟩) := (xb5 s hrd.1).1
    obtain ⟨h2, h3, ⟨h6, h7, h8, h9, hmem⟩, h11⟩ := s.key k _ hkr.1
    have h6 : 1 ≤ η.c k := h6
    obtain ⟨cs, h4, h5, h10⟩ := hmem (by omega)
    have hle : 0 + es ≤ cs.size := by rw [h5]; exact Nat.le_trans (by omega) (Nat.mul_le_mul_right es h6)
    have h12 := h10 0 _ rfl
    simp only [Nat.zero_mul] at h12
    refine ⟨_, w, ?_, Ext.refl w, h12.1, fun j hj => by cases hj⟩
    simp only [execOp, h1, Instr.loadAt, Instr.sureAddr, Sem.run_bind, Sem.run_pure, Result.andThen_ok, run_loadVar ti h4 hle h8]
end
/-- A variable of the program: a row of numbers. -/
def kRow (b : Nat) (cs : List Int) : Kw := ⟨fun F w => F b ∧ ∃ T fr, w.heap[b]? = some (.cells (cs.map fun n => Value.int .i64 n).toArray T fr), fun ⟨h1, T, fr, h2⟩ hk => ⟨(hk b _ h1 h2 rfl).1, T, fr, (hk b _ h1 h2 rfl).2⟩⟩
/-- An element of it. -/
theorem d_indexGl {P : Program} {c : Base} {d ty : Nat} {pos : String} {af : Array Edge} {gd : Option (Nat × Bool)} {T E len b : Nat} {cs : List Int} {tk : Ty} {y : Operand} {v : Int} (s : Nat) (hk : Car (kRow b cs) tk) (ar : ArI P T E len 1 false) (i : Nat) (hv : v = (i : Int)) (hi : i < len) (hl : cs.length = len) :
    Does P c ⟨some d, .indexAddr T (.global b) y, ty, pos, af, gd⟩ ⟨[(.tmp s, .val tk), (y, .val (tI v))], [], some (d, some (.val (tP 1 false (tI (cs.getD i 0))))), [], []⟩ :=
  Does.value rfl fun g h al a w η hrd _ st => by
    subst hv
    obtain ⟨hF, Tc, fr, hh⟩ := hk _ _ _ (xb5 st hrd.1).1
    have h5 : a.eval y = .int .i64 (i : Int) := (xb5 st hrd.2.1).1
    have h1 : a.eval (.global b) = .pointer (some ⟨b, 0, none⟩) := rfl
    refine ⟨.pointer (some ⟨b, 0 + i * 1, none⟩), w, ?_, Ext.refl w, ⟨b, 0 + i * 1, .int .i64 (cs.getD i 0), rfl, hF, ⟨_, Tc, fr, hh, ?_, Nat.one_pos, fun _ => rfl, ?_⟩, rfl⟩, fun j hj => by cases hj⟩
    · have e : (Addr.add ⟨b, 0, none⟩ (i * 1)) = ⟨b, 0 + i * 1, none⟩ := Addr.add_lit b 0 _
      simp only [execOp, h1, h5, Instr.indexAt, asIntOf, Instr.sureAddr, Sem.run_bind, Sem.run_pure, run_underlying ar.und, Result.andThen_ok]
      rw [if_pos ⟨by omega, by omega⟩]
      simp only [Sem.run_bind, ar.el.size_run w, Result.andThen_ok, Int.toNat_natCast, Sem.run_pure, e]
    · simp; omega
    · simp only [pick, cond_false, Nat.zero_add, Nat.mul_one]
      rw [Array.getD_eq_getD_getElem?]
      simp [List.getD_eq_getElem?_getD, show i < cs.length by omega]
end An

/- Chapter 3: the calendar, as plain functions. No program. -/
namespace An
def leapI (y : Int) : Bool := decide (y % 4 = 0) && (!decide (y % 100 = 0) || decide (y % 400 = 0))
def lens : List Int := [31, 28, 31, 30, 31, 30, 31, 31, 30, 31, 30, 31]
/-- The days of a month of a year, counted from 0. -/
def lenI (y : Int) (j : Nat) : Int := if j = 1 ∧ leapI y = true then 29 else lens.getD j 0
def leapsI (y : Int) : Int := y / 4 - y / 100 + y / 400
def cumI (y : Int) : Nat → Int
  | 0 => 0
  | j + 1 => cumI y j + lenI y j
/-- The first day of a month. -/
def startI (k : Nat) : Int := 365 * ((1900 + (k : Int) / 12) - 1900) + leapsI (1900 + (k : Int) / 12 - 1) - leapsI 1899 + cumI (1900 + (k : Int) / 12) (k % 12)
theorem lens_bd {j : Nat} (hj : j < 12) : 28 ≤ lens.getD j 0 ∧ lens.getD j 0 ≤ 31 := by
  match j, hj with
  | 0, _ | 1, _ | 2, _ | 3, _ | 4, _ | 5, _ | 6, _ | 7, _ | 8, _ | 9, _ | 10, _ | 11, _ => decide
theorem lenI_bd {y : Int} {j : Nat} (hj : j < 12) : 28 ≤ lenI y j ∧ lenI y j ≤ 31 := by
  have := lens_bd hj
  unfold lenI
  split <;> omega
theorem cumI_bd {y : Int} : ∀ {j : Nat}, j ≤ 12 → 0 ≤ cumI y j ∧ cumI y j ≤ 31 * j
  | 0, _ => ⟨Int.le_refl _, Int.le_refl _⟩
  | j + 1, h => by
    have h1 := cumI_bd (y := y) (j := j) (by omega)
    have h2 := lenI_bd (y := y) (j := j) (by omega)
    simp only [cumI]; omega
theorem start_step {k : Nat} (h : k < 2160) : startI k + 28 ≤ startI (k + 1) ∧ startI (k + 1) ≤ startI k + 31 := by
  have hall : ∀ k : Nat, k < 2160 → startI k + 28 ≤ startI (k + 1) ∧ startI (k + 1) ≤ startI k + 31 := by decide +kernel
  exact hall k h
theorem start_lt {i j : Nat} (h : i < j) (hj : j ≤ 2160) : startI i + 28 ≤ startI j := by
  induction j with
  | zero => omega
  | succ j ih =>
    have h1 := start_step (k := j) (by omega)
    rcases Nat.lt_or_ge i j with h2 | h2
    · have := ih h2 (by omega); omega
    · have e : i = j := by omega
      subst e; exact h1.1
/-- The month of a day. -/
def monI (d : Int) : Nat := (List.range 2154).countP fun k => decide (startI (k + 1) ≤ d)
end An

/- Division of fractions; the calendar. -/
namespace An.S
open Go Go.Proofs An
set_option maxHeartbeats 2000000
theorem ti3 : TyI Tryz.prog 3 1 false := ⟨by kernel_rfl, by kernel_rfl⟩
theorem fi86 : FnI Tryz.prog 86 := ⟨_, Tryz.func86, by kernel_rfl, rfl⟩
theorem fi87 : FnI Tryz.prog 87 := ⟨_, Tryz.func87, by kernel_rfl, rfl⟩
theorem fi96 : FnI Tryz.prog 96 := ⟨_, Tryz.func96, by kernel_rfl, rfl⟩
theorem fi107 : FnI Tryz.prog 107 := ⟨_, Tryz.func107, by kernel_rfl, rfl⟩
theorem ar136 : ArI Tryz.prog 136 3 12 1 false := ⟨by kernel_rfl, ti3⟩
theorem div_divInt (a b : Rat) : Rat.divInt (a.num * (b.den : Int)) ((a.den : Int) * b.num) = a / b := by
  rw [Rat.div_def, Rat.inv_def, ← Rat.divInt_mul_divInt, Rat.num_divInt_den]
theorem wh_nil {z : Int} (h : ((wh z).l.length : Int) = 0 ∨ (wh z).l.length = 0) : z = 0 := by
  have h2 : (wh z).l.length = 0 := by omega
  have h3 : z.natAbs = 0 := (xh5 xd2).1 (List.length_eq_zero_iff.1 h2)
  omega
theorem c_FDiv (a b : Rat) (ha : short a) (hb : short b) (hb0 : b ≠ 0) :
  Ct Tryz.prog 64 [tFr (fr a), tFr (fr b)] (tT [tFr (resF (a / b)), tI (resFE (a / b))]) := by
 obtain ⟨an, ad⟩ := ha
 obtain ⟨bn, bd⟩ := hb
 have hbd := b.den_nz
 have had := a.den_nz
 have m1 : len16 (a.num * (b.den : Int)) ≤ 256 + 256 := len16_mul an bd
 have m2 : len16 ((a.den : Int) * b.num) ≤ 256 + 256 := len16_mul ad bn
 have ha : short a := ⟨an, ad⟩
 have hb : short b := ⟨bn, bd⟩
 have hbn : b.num ≠ 0 := fun h => hb0 (Rat.num_eq_zero.1 h)
 have hd0 : (a.den : Int) * b.num ≠ 0 := Int.mul_ne_zero (by omega) hbn
 refine Ct.intro Tryz.func64 rfl Tryz.ntmps64 rfl ?_
 intro w F
 refine x6 ?_
 refine x8 ?_
 refine RE (xc9 (k := 2) ti31 rfl) ⟨rfl, trivial⟩ trivial ⟨rfl, trivial⟩ (RE (xc9 (k := 3) ti31 rfl) ⟨rfl, trivial⟩ trivial ⟨rfl, trivial⟩ (RE (xb4 (k := 4) (n := 4) (agg := true) zr31.1 zr31.2 rfl) trivial trivial ⟨rfl, trivial⟩ (R1 x5 rfl (x7 (by kernel_rfl) (x4 (x6 (x6 ?_)))))))
 refine x8 ?_
 refine RE (xa8 (0) ti31 rfl rfl) ⟨rfl, trivial⟩ ⟨rfl, trivial⟩ trivial (RE (xa8 (0) ti31 rfl rfl) ⟨rfl, trivial⟩ ⟨rfl, trivial⟩ trivial (R2 (xf7 (n := 2) (f := fun q : Rat => tFr (fr q)) [a, b] Tryz.underlying102 el31 zf31 rfl (fun _ => inferInstance) rfl rfl rfl) rfl rfl (R1 (xa0 (c_FallValid [a, b] (by simp; exact ⟨ha, hb⟩)) fi39 rfl) rfl (R1 xe4 rfl (x7 (by kernel_rfl) (x4 (C_bF rfl rfl ?_)))))))
 refine xa5 (x4 (x6 (x6 ?_)))
 refine x8 ?_
 refine RE (xa8 (0) ti31 rfl rfl) ⟨rfl, trivial⟩ ⟨rfl, trivial⟩ trivial (R1 (xc8 (r := tS [⟨4, true, tFr (fr b)⟩]) (ts := [(0, tFr (fr b))]) bu81 zr81.2 ⟨_, rfl⟩ rfl ⟨_, _, _, _, rfl, Up.f (fs := [⟨4, true, (tS [⟨2, true, (tS [⟨1, false, (tE (.bool false))⟩, ⟨1, false, (tLm [])⟩])⟩, ⟨2, true, (tS [⟨1, false, (tE (.bool false))⟩, ⟨1, false, (tLm [])⟩])⟩])⟩]) (f := ⟨4, true, (tS [⟨2, true, (tS [⟨1, false, (tE (.bool false))⟩, ⟨1, false, (tLm [])⟩])⟩, ⟨2, true, (tS [⟨1, false, (tE (.bool false))⟩, ⟨1, false, (tLm [])⟩])⟩])⟩) (fs' := [⟨4, true, tFr (fr b)⟩]) 0 rfl rfl rfl, inferInstance, Le.refl⟩) rfl (R1 (xa0 (c_Tzero (fr b)) fi96 rfl) rfl (x7 (by kernel_rfl) (x4 (C_bF rfl (decide_eq_false (by exact fun h => hb0 (Rat.num_eq_zero.1 (wh_nil (.inr h))))) (xa5 (x4 ?_)))))))
 refine x6 ?_
 refine xd5 mixed ?_
 refine R1 (x9 fo31_0 rfl) rfl (xa6 (0) ti29 rfl rfl rfl (At.g 0 rfl rfl) rfl (R1 (x9 fo31_1 rfl) rfl (xa6 (0) ti29 rfl rfl rfl (At.g 1 rfl rfl) rfl (R2 (xa0 (c_ftimes (a.num) ((b.den : Int)) (by omega) (by omega) (by omega)) fi41 rfl) rfl rfl (R1 (x9 fo31_1 rfl) rfl (xa6 (0) ti29 rfl rfl rfl (At.g 1 rfl rfl) rfl (R1 (x9 fo31_0 rfl) rfl ?_)))))))
 refine xa6 (0) ti29 rfl rfl rfl (At.g 0 rfl rfl) rfl (R2 (xa0 (c_ftimes ((a.den : Int)) (b.num) (by omega) (by omega) (by omega)) fi41 rfl) rfl rfl (R2 (xa0 (c_lowest _ _ (by omega) (by omega) hd0) fi44 rfl) rfl rfl (R1 (xa0 (c_Tresult _) fi45 rfl) rfl (R1 (xa2 rfl) rfl (R1 (xa2 rfl) rfl (RE (xa3 (es := 4) (agg := true) (0) ti31 rfl rfl rfl) ⟨rfl, rfl, trivial⟩ ⟨rfl, trivial⟩ trivial (R1 x5 rfl ?_)))))))
 refine xd6 (by kernel_rfl) (x4 (xa1 ?_))
 exact xf1 Plain.mk' (rs := [.cell 4 31, .tmp 5]) rfl rfl ⟨⟨_, _, _, _, _, rfl, rfl, ti31, (Le.of (by rw [sh_fr, div_divInt]; by_cases hs : short (a / b) <;> simp [resF, hs]))⟩, ⟨_, rfl, (Le.int (by rw [sh_fr, div_divInt]; by_cases hs : short (a / b) <;> simp [resFE, hs]))⟩, trivial⟩
/-- The lengths of the months, as the program keeps them. -/
abbrev KL : Kw := kRow 0 lens
theorem c_Leap (y : Int) (hy : 0 ≤ y) :
  Ct Tryz.prog 107 [tI y] (tB (leapI y)) := by
 refine Ct.intro Tryz.func107 rfl Tryz.ntmps107 rfl ?_
 intro w F
 refine x6 ?_
 refine x8 ?_
 refine R1 x5 rfl (x7 (by kernel_rfl) (x4 (x6 ?_)))
 refine x8 ?_
 refine R1 x3 rfl (R2 (d_remP (by omega) (by omega)) rfl rfl (R2 xe3 rfl rfl (R1 x3 rfl ?_)))
 refine RGcaseD (t := 6) rfl (fun h23 => ?_) (fun h23 => ?_)
 ·
  refine RGon (decide_eq_true h23) rfl x3 rfl ⟨rfl, trivial⟩ trivial trivial (RGon (decide_eq_true h23) rfl (d_remP (by omega) (by omega)) rfl ⟨rfl, rfl, trivial⟩ trivial trivial (RGon (decide_eq_true h23) rfl xf9 rfl ⟨rfl, rfl, trivial⟩ trivial trivial (RGon (decide_eq_true h23) rfl x3 rfl ⟨rfl, trivial⟩ trivial trivial ?_)))
  refine RGcaseD (t := 10) rfl (fun h23_2 => ?_) (fun h23_2 => ?_)
  ·
   refine RGoff (decide_eq_true h23_2) rfl rfl (RGoff (decide_eq_true h23_2) rfl rfl (RGoff (decide_eq_true h23_2) rfl rfl (RGon (decide_eq_true h23) rfl (xb2 (decide_eq_true h23_2)) rfl ⟨rfl, rfl, trivial⟩ trivial trivial (R2 (xb2 (decide_eq_true h23)) rfl rfl (R1 x5 rfl (x7 (by kernel_rfl) (x4 ?_)))))))
   refine xa1 ?_
   exact xa4 Plain.mk' rfl rfl (Le.bool (by simp [leapI, *]))
  ·
   refine RGon (decide_eq_false h23_2) rfl x3 rfl ⟨rfl, trivial⟩ trivial trivial (RGon (decide_eq_false h23_2) rfl (d_remP (by omega) (by omega)) rfl ⟨rfl, rfl, trivial⟩ trivial trivial (RGon (decide_eq_false h23_2) rfl xe3 rfl ⟨rfl, rfl, trivial⟩ trivial trivial (RGon (decide_eq_true h23) rfl (xb0 (decide_eq_false h23_2)) rfl ⟨rfl, rfl, trivial⟩ trivial trivial (R2 (xb2 (decide_eq_true h23)) rfl rfl (R1 x5 rfl (x7 (by kernel_rfl) (x4 ?_)))))))
   refine xa1 ?_
   exact xa4 Plain.mk' rfl rfl (Le.bool (by simp [leapI, *]))
 ·
  refine RGoff (decide_eq_false h23) rfl rfl (RGoff (decide_eq_false h23) rfl rfl (RGoff (decide_eq_false h23) rfl rfl (RGoff (decide_eq_false h23) rfl rfl (RGoffU rfl rfl (RGoffU rfl rfl (RGoffU rfl rfl (RGoff (decide_eq_false h23) rfl rfl ?_)))))))
  refine R2 (xb0 (decide_eq_false h23)) rfl rfl (R1 x5 rfl (x7 (by kernel_rfl) (x4 (xa1 ?_))))
  exact xa4 Plain.mk' rfl rfl (Le.bool (by simp [leapI, *]))
theorem c_leaps (y : Int) (hy : 0 ≤ y) (hy2 : y ≤ 1000000) :
  Ct Tryz.prog 86 [tI y] (tI (leapsI y)) := by
 refine Ct.intro Tryz.func86 rfl Tryz.ntmps86 rfl ?_
 intro w F
 refine x6 ?_
 refine x8 ?_
 refine R1 x5 rfl (x7 (by kernel_rfl) (x4 (x6 ?_)))
 refine x8 ?_
 refine R1 x3 rfl (R2 (d_quoP (by omega) (by omega) (wr64 (by omega) (by omega))) rfl rfl (R1 x3 rfl (R2 (d_quoP (by omega) (by omega) (wr64 (by omega) (by omega))) rfl rfl (R2 (xd9 (wr64 (by omega) (by omega))) rfl rfl (R1 x3 rfl (R2 (d_quoP (by omega) (by omega) (wr64 (by omega) (by omega))) rfl rfl (R2 (xb6 (wr64 (by omega) (by omega))) rfl rfl ?_)))))))
 refine R1 x5 rfl (x7 (by kernel_rfl) (x4 (xa1 ?_)))
 exact xa4 Plain.mk' rfl rfl (Le.int rfl)
theorem c_Len (y : Int) (j : Nat) (hy : 0 ≤ y) (hj : j < 12) :
  Ct Tryz.prog 87 [tG KL (tI y), tI ((j : Int) + 1)] (tI (lenI y j)) := by
 refine Ct.intro Tryz.func87 rfl Tryz.ntmps87 rfl ?_
 intro w F
 refine C_know (i := 0) (q := 2) rfl rfl (x6 ?_)
 refine x8 ?_
 refine R1 x5 rfl (x7 (by kernel_rfl) (x4 (x6 (x6 ?_))))
 refine x8 ?_
 refine R1 x3 rfl (R2 xd8 rfl rfl (R1 x3 rfl (RGon (decide_eq_false (by omega)) rfl x3 rfl ⟨rfl, trivial⟩ trivial trivial (RGon (decide_eq_false (by omega)) rfl d_gtr rfl ⟨rfl, rfl, trivial⟩ trivial trivial (R2 (xb0 (decide_eq_false (by omega))) rfl rfl (x7 (by kernel_rfl) (x4 ?_)))))))
 refine C_bF rfl (decide_eq_false (by omega)) (xa5 (x4 (x6 (x6 ?_))))
 refine x8 ?_
 refine R1 x3 rfl (R2 xe3 rfl rfl (R1 x3 rfl ?_))
 refine RGcaseD (t := 13) rfl (fun h31 => ?_) (fun h31 => ?_)
 ·
  have hj1 : j = 1 := by omega
  refine RGon (decide_eq_true h31) rfl x3 rfl ⟨rfl, trivial⟩ trivial trivial (RGon (decide_eq_true h31) rfl (xa0 (c_Leap y hy) fi107 rfl) rfl ⟨rfl, trivial⟩ trivial trivial (R2 (xb2 (decide_eq_true h31)) rfl rfl (x7 (by kernel_rfl) (x4 ?_))))
  refine xf8 rfl (fun h31_2 => ?_) (fun h31_2 => ?_)
  ·
   refine x6 ?_
   refine x8 ?_
   refine R1 x5 rfl (x7 (by kernel_rfl) (x4 (xa1 (xa7 ?_))))
   exact xa4 Plain.mk' rfl rfl (Le.int (by rw [lenI, if_pos ⟨hj1, h31_2⟩]))
  ·
   refine xa5 (x4 (x6 ?_))
   refine x8 ?_
   refine R1 x3 rfl (R2 (xd9 (wr64 (by omega) (by omega))) rfl rfl (R2 (d_indexGl 2 car_K ar136 j (by omega) hj rfl) rfl rfl (R1 (xc5 ti3) rfl (R1 x5 rfl (x7 (by kernel_rfl) (x4 (xa1 ?_)))))))
   exact xa4 Plain.mk' rfl rfl (Le.int (by rw [lenI, if_neg (fun h => by rw [h.2] at h31_2; cases h31_2)]))
 ·
  refine RGoff (decide_eq_false h31) rfl rfl (RGoff (decide_eq_false h31) rfl rfl (R2 (xb0 (decide_eq_false h31)) rfl rfl (x7 (by kernel_rfl) (x4 (C_bF rfl rfl (xa5 (x4 ?_)))))))
  refine x6 ?_
  refine x8 ?_
  refine R1 x3 rfl (R2 (xd9 (wr64 (by omega) (by omega))) rfl rfl (R2 (d_indexGl 2 car_K ar136 j (by omega) hj rfl) rfl rfl (R1 (xc5 ti3) rfl (R1 x5 rfl (x7 (by kernel_rfl) (x4 (xa1 ?_)))))))
  exact xa4 Plain.mk' rfl rfl (Le.int (by rw [lenI, if_neg (fun h => absurd h.1 (by omega))]))
theorem c_start (k : Nat) (hk : k ≤ 100000) :
  Ct Tryz.prog 53 [tG KL (tI k)] (tI (startI k)) := by
 have hl1 : 0 ≤ leapsI (1900 + (k : Int) / 12 - 1) ∧ leapsI (1900 + (k : Int) / 12 - 1) ≤ 20000 := by simp only [leapsI]; omega
 have hl2 : leapsI 1899 = 460 := by decide
 refine Ct.intro Tryz.func53 rfl Tryz.ntmps53 rfl ?_
 intro w F
 refine C_know (i := 0) (q := 1) rfl rfl (x6 ?_)
 refine x8 ?_
 refine R1 x5 rfl (x7 (by kernel_rfl) (x4 (x6 ?_)))
 refine x8 ?_
 refine R1 x3 rfl (R2 (d_quoP (by omega) (by omega) (wr64 (by omega) (by omega))) rfl rfl (R2 (xb6 (wr64 (by omega) (by omega))) rfl rfl (R1 x5 rfl (x7 (by kernel_rfl) (x4 (x6 ?_))))))
 refine x8 ?_
 refine R1 x3 rfl (R2 (xd9 (wr64 (by omega) (by omega))) rfl rfl (R2 (d_mul (wr64 (by omega) (by omega))) rfl rfl (R1 x3 rfl (R2 (xd9 (wr64 (by omega) (by omega))) rfl rfl (R1 (xa0 (c_leaps _ (by omega) (by omega)) fi86 rfl) rfl (R2 (xb6 (wr64 (by omega) (by omega))) rfl rfl (R1 (xa0 (c_leaps _ (by omega) (by omega)) fi86 rfl) rfl ?_)))))))
 refine R2 (xd9 (wr64 (by omega) (by omega))) rfl rfl (R1 x5 rfl (x7 (by kernel_rfl) (x4 (x6 (x6 ?_)))))
 refine x8 ?_
 refine R1 x5 rfl (x7 (by kernel_rfl) (x4 (xb3 ?_)))
 refine xe1 (fun (j : Nat) => j ≤ k % 12) (fun (j : Nat) => upd (upd (upd (upd (upd (fun _ => none) 0 (some (.val (tI k)))) 1 (some (.val (tK KL)))) 3 (some (.val (tI (1900 + (k : Int) / 12))))) 4 (some (.val (tI (365 * ((1900 + (k : Int) / 12) - 1900) + leapsI (1900 + (k : Int) / 12 - 1) - leapsI 1899 + cumI (1900 + (k : Int) / 12) j))))) 5 (some (.val (tI ((j : Int) + 1))))) (fun (j : Nat) => fun _ => none) (nm []) (fun (j : Nat) => k % 12 - j) (0) (Nat.zero_le _) (Sub.int rfl (by first | omega | rfl | (dsimp only; omega)) ((Sub.consI rfl (Imp.int (by simp [cumI]))) (Sub.int rfl (by first | omega | rfl | (dsimp only; omega)) (Sub.cons rfl (Sub.int rfl (by first | omega | rfl | (dsimp only; omega)) Sub.nil))))) SubK.nil (SupG.val (SupG.val (SupG.val (SupG.val (SupG.val SupG.nil))))) SupH.nil (lkOk rfl) ?_
 intro j hI
 have hcu := cumI_bd (y := 1900 + (k : Int) / 12) (j := j) (by omega)
 refine x6 (x6 ?_)
 refine x8 ?_
 refine R1 x3 rfl (R1 x3 rfl (R2 (d_remP (by omega) (by omega)) rfl rfl (R2 xf5 rfl rfl (x7 (by kernel_rfl) (x4 ?_)))))
 refine xc0 rfl (fun h51 => ?_) (fun h51 => ?_)
 ·
  refine xa5 (x4 (x6 (xb3 ?_)))
  refine x8 ?_
  refine R1 x3 rfl (R1 x3 rfl (R1 x3 rfl ?_))
  have hle := lenI_bd (y := 1900 + (k : Int) / 12) (j := j) (by omega)
  refine R3 (xg3 1 car_K (c_Len _ j (by omega) (by omega)) fi87 rfl) rfl rfl rfl (R2 (xb6 (wr64 (by omega) (by omega))) rfl rfl (R1 x5 rfl (x7 (by kernel_rfl) (xc1 (x4 ?_)))))
  refine x8 ?_
  refine R1 x3 rfl (R2 (xb6 (wr64 (by omega) (by omega))) rfl rfl (R1 x5 rfl (x7 (by kernel_rfl) ?_)))
  exact xc2 (j + 1) ⟨(by omega), (by omega)⟩ (Sub.int rfl (by first | omega | rfl | (dsimp only; omega)) ((Sub.consI rfl (Imp.int (by simp only [cumI]; omega))) (Sub.int rfl (by first | omega | rfl | (dsimp only; omega)) (Sub.cons rfl (Sub.int rfl (by first | omega | rfl | (dsimp only; omega)) Sub.nil))))) SubK.nil (SupG.val (SupG.val (SupG.val (SupG.val (SupG.val SupG.nil))))) SupH.nil (lkOk rfl)
 ·
  refine xd4 (xb8 (xb8 (xe0 (x4 (x6 ?_)))))
  refine x8 ?_
  refine R1 x3 rfl (R1 x5 rfl (x7 (by kernel_rfl) (x4 (xa1 ?_))))
  exact xa4 Plain.mk' rfl rfl (Le.int (by rw [startI, show k % 12 = j by omega]))
end An.S

/- What the readers of law 9 read: lists of numbers, numbers, the lengths of the months. -/
namespace An.S
open Go Go.Proofs An
open Go.ChangeShapes Go.WideShapes Go.ChangeAt Go.RowKit
set_option maxRecDepth 100000
theorem own : ownKnob Tryz.prog.godebug = none := by kernel_rfl
theorem laidOut : laidOutB Tryz.prog = true := by kernel_rfl
theorem oInt : Opn Tryz.prog 3 1 false (fun n : Int => tI n) (fun n => IntKind.i64.min ≤ n ∧ n ≤ IntKind.i64.max) := Opn.int Tryz.underlying3 (by kernel_rfl)
theorem oU16 : Opn Tryz.prog 46 1 false (fun n : Nat => tE (.int .u16 n)) (fun n => n < 65536) := Opn.nat Tryz.underlying46 (by kernel_rfl) rfl rfl
theorem oLm : Opn Tryz.prog 22 1 false (fun l : List Nat => tLm l) (fun l => Dig 65536 l) := (Opn.slice Tryz.underlying22 (by kernel_rfl) oU16).as id (fun _ => rfl) (fun _ h => h)
theorem oU8 : Opn Tryz.prog 5 1 false (fun n : Nat => tE (.int .u8 n)) (fun n => n < 256) := Opn.nat Tryz.underlying5 (by kernel_rfl) rfl rfl
/-- What a contract says, as the frame of a statement wants it. -/
theorem walked {f : FuncId} {ts : List Ty} (h : Ct Tryz.prog f ts (tB true)) {vs : List Value} {W : World} (ha : Tup.all (Old W) W ts vs) : Calls Tryz.prog f vs.toArray W fun e W' => e = .returned (.bool true) ∧ Ext W W' :=
  (h (Old W) W vs ha).mono fun e W' ⟨v, h1, h2, h3⟩ => by
    have h3 : v = .bool true := h3
    subst h3; exact ⟨h1, h2⟩
abbrev laidL : List (String × DataW Unit) := [("annuitant/calendar.lengths", Go.Proofs.YtnacfpmbanimpaaGreatDoor.Rows.laid_annuitant_calendar_lengths)]
theorem lenN : Tryz.prog.globalNamed "annuitant/calendar.lengths" = some 0 := by kernel_rfl
theorem lenT : (Tryz.prog.globals[0]?).map (·.type) = some 136 := by kernel_rfl
/-- What the statement lists of the variable, as the walks want it. -/
theorem kl_of {W : World} (h : laidMetH Tryz.prog laidL W) : KL.p (Old W) W := by
  have h : laidMet Tryz.prog laidL W := h
  obtain ⟨ps, ⟨g, t, cs, fuel, p, q, hg, ht, hvar, hd, _, _⟩, _⟩ := h
  obtain rfl := Option.some.inj (lenN.symm.trans hg)
  obtain rfl := Option.some.inj (lenT.symm.trans ht)
  have hcs : cs.toList = lens.map fun z => Value.int .i64 z := Lib.cells_of_tab (n := 12) (e := 3) (zs := lens) Tryz.underlying136 Tryz.underlying3 (by kernel_rfl) (by kernel_rfl) hd
  simp only [World.var?, hg, Option.bind_some] at hvar
  cases hw : W.heap[0]? with
  | none => rw [hw] at hvar; cases hvar
  | some o =>
    rw [hw] at hvar
    have hlt : 0 < W.heap.size := (Array.getElem?_eq_some_iff.1 hw).1
    cases o with
    | cells c T fr =>
      obtain rfl : c = cs := by simpa using hvar
      refine ⟨hlt, T, fr, ?_⟩
      rw [hw, ← hcs]
    | _ => cases hvar
/-- The settled world, the variable's cells laid. -/
noncomputable def laidWorld (os : Os) : World :=
  let w0 := World.holding Tryz.prog os ⟨#[], #[], []⟩
  { w0 with heap := w0.heap.modify 0 fun
      | .cells _ t frozen => .cells #[.int .i64 31, .int .i64 28, .int .i64 31, .int .i64 30, .int .i64 31, .int .i64 30, .int .i64 31, .int .i64 31, .int .i64 30, .int .i64 31, .int .i64 30, .int .i64 31] t frozen
      | o => o }
theorem laidWorld_met (os : Os) (args : Array Value) : laidMetH Tryz.prog laidL ((laidWorld os).forCall (fun _ _ => 0) ⟨#[], args, []⟩).memory := by
  show laidMet Tryz.prog laidL _
  exact laidMet_of_run (ps := [.cell 0 0, .cell 0 1, .cell 0 2, .cell 0 3, .cell 0 4, .cell 0 5, .cell 0 6, .cell 0 7, .cell 0 8, .cell 0 9, .cell 0 10, .cell 0 11]) 8 (by kernel_rfl) (by kernel_rfl) (by kernel_rfl)
end An.S

/- Layer 24: deals and states. Plain data. -/
namespace An
open Go
structure Deal where
  lo : Int
  hi : Int
  share : Fr
  acc : Int
def deal0 : Deal := ⟨0, 0, fr0, 0⟩
abbrev tDeal (d : Deal) : Ty := tS [⟨1, false, tI d.lo⟩, ⟨1, false, tI d.hi⟩, ⟨4, true, tFr d.share⟩, ⟨1, false, tI d.acc⟩]
abbrev tState (o : Int) (b p : List Int) : Ty := tS [⟨1, false, tI o⟩, ⟨1, false, tIs b⟩, ⟨1, false, tIs p⟩]
/-- The limbs are limbs. -/
def Fr.dig (f : Fr) : Prop := Dig 65536 f.n.l ∧ Dig 65536 f.d.l
def Fr.rat (f : Fr) : Rat := Rat.divInt f.n.int f.d.int
theorem rat_fr (q : Rat) : (fr q).rat = q := by
  have e1 : (fr q).n.int = q.num := int_wh _
  have e2 : (fr q).d.int = (q.den : Int) := int_wh _
  rw [Fr.rat, e1, e2, Rat.divInt_ofNat, Rat.mkRat_self]
theorem Fr.of_valid' {f : Fr} (hD : f.dig) (h : f.valid = true) : f = fr f.rat ∧ short f.rat := by
  obtain ⟨q, hq, hs⟩ := Fr.of_valid hD.1 hD.2 h
  subst hq
  rw [rat_fr]; exact ⟨rfl, hs⟩
def Deal.valid (d : Deal) : Bool := decide (0 ≤ d.lo) && decide (d.lo ≤ d.hi) && decide (d.hi ≤ 1048576) && d.share.valid && !d.share.n.neg && decide (d.share.rat ≤ 1) && decide (d.share.n.l.length ≤ 4) && decide (d.share.d.l.length ≤ 4) && decide (1 ≤ d.acc) && decide (d.acc ≤ 1099511627776)
def validL (l : List Deal) : Bool := decide (l.length ≤ 16) && l.all Deal.valid
def wIn (n : Int) : Bool := decide (-1099511627776 ≤ n) && decide (n ≤ 1099511627776)
/-- A share of a sum, rounded down. -/
def take (q : Rat) (n : Int) : Int := (q * (n : Rat)).floor
theorem short_int {n : Int} (h : len16 n ≤ 256) : short (n : Rat) := by
  refine ⟨by rw [Rat.num_intCast]; exact h, ?_⟩
  rw [Rat.den_intCast]
  show (wh 1).l.length ≤ 256
  rw [wh_one]; decide
theorem len16_64 {n : Int} (h1 : -9223372036854775808 ≤ n) (h2 : n ≤ 9223372036854775807) : len16 n ≤ 4 := wh_len _ (by omega)
def rightL (l : List Deal) (o : Int) (b p : List Int) : Bool :=
  validL l && decide (b.length = l.length) && decide (p.length = l.length) && wIn o && (List.range l.length).all fun i => wIn (b.getD i 0) && decide (p.getD i 0 = take (l.getD i deal0).share.rat (b.getD i 0))
end An

/- Layers 4, 5 and 8: spans, values, steps. Plain data. -/
namespace An
open Go
structure Va where
  kind : Nat
  f : Fr
  i : Int
deriving DecidableEq
structure Sn where
  lo : Int
  hi : Int
deriving DecidableEq
structure Tst where
  lo : Int
  hi : Int
  v : Va
deriving DecidableEq
instance : Inhabited Sn := ⟨⟨0, 0⟩⟩
def va0 : Va := ⟨0, fr0, 0⟩
def sn0 : Sn := ⟨0, 0⟩
def tst0 : Tst := ⟨0, 0, va0⟩
abbrev tVa (v : Va) : Ty := tS [⟨1, false, tE (.int .u8 (v.kind : Int))⟩, ⟨4, true, tFr v.f⟩, ⟨1, false, tI v.i⟩]
abbrev tSn (s : Sn) : Ty := tS [⟨1, false, tI s.lo⟩, ⟨1, false, tI s.hi⟩]
abbrev tTs (s : Tst) : Ty := tS [⟨1, false, tI s.lo⟩, ⟨1, false, tI s.hi⟩, ⟨6, true, tVa s.v⟩]
def Va.valid (v : Va) : Bool :=
  if v.kind = 2 ∨ v.kind = 3 then decide (v.i = 0) && v.f.valid
  else if v.kind = 1 then decide (v.f = fr0) && decide (0 ≤ v.i) && decide (v.i ≤ 1)
  else if v.kind = 4 then decide (v.f = fr0) && decide (0 ≤ v.i) && decide (v.i < 65536)
  else if v.kind = 5 ∨ v.kind = 6 then decide (v.f = fr0) && decide (-1048576 ≤ v.i) && decide (v.i ≤ 1048576)
  else false
/-- A step and the one before it. -/
def tOk (l : List Tst) (i : Nat) : Bool :=
  decide (0 ≤ (l.getD i tst0).lo) && decide ((l.getD i tst0).lo < (l.getD i tst0).hi) && decide ((l.getD i tst0).hi ≤ 65536) &&
    (decide (i = 0) || decide ((l.getD (i - 1) tst0).hi ≤ (l.getD i tst0).lo) && decide ((l.getD (i - 1) tst0).v.kind = (l.getD i tst0).v.kind) && !(decide ((l.getD (i - 1) tst0).hi = (l.getD i tst0).lo) && decide ((l.getD (i - 1) tst0).v = (l.getD i tst0).v)))
def tRight (l : List Tst) : Bool := (List.range l.length).all (tOk l) && l.all fun s => s.v.valid
/-- A service record. -/
def sOk (s : Tst) : Bool := decide (s.v.kind = 2) && !s.v.f.n.neg && decide (s.v.f.rat ≤ 1)
def sRight (l : List Tst) : Bool := tRight l && l.all sOk
def Sn.ok (s : Sn) : Bool := decide (0 ≤ s.lo) && decide (s.lo ≤ s.hi) && decide (s.hi ≤ 65536)
/-- One more span, behind a set. -/
def mrg1 (acc : List Sn) (s : Sn) : List Sn :=
  if 0 < acc.length ∧ s.lo ≤ (acc.getD (acc.length - 1) sn0).hi then acc.set (acc.length - 1) ⟨(acc.getD (acc.length - 1) sn0).lo, max (acc.getD (acc.length - 1) sn0).hi s.hi⟩ else acc ++ [s]
def mrg (xs : List Sn) : List Sn := xs.foldl mrg1 []
end An

/- Comparing structs of two numbers; a nil slice in a struct variable, as a slice of one's own. For any program. -/
namespace An
open Go
/-- A struct of two numbers. -/
structure EqS2 (P : Program) (T : TypeId) : Prop where
  eq : ∀ (a b c d : Int) (w : World), (Op.equal T (.agg #[.int .i64 a, .int .i64 b]) (.agg #[.int .i64 c, .int .i64 d])).run P w = .ok (a == c && b == d) w
  guard : P.eqGuardType P.depth T = false
theorem tSn_val {F : Dom} {w : World} {s : Sn} {v : Value} (h : (tSn s).p F w v) : v = .agg #[.int .i64 s.lo, .int .i64 s.hi] := by
  obtain ⟨cs, rfl, h2, h3, h4, _⟩ := h
  have h2 : cs.size = 2 := h2
  obtain ⟨l⟩ := cs
  match l, h2 with
  | [x, y], _ =>
    have e1 : x = .int .i64 s.lo := h3.2
    have e2 : y = .int .i64 s.hi := h4.2
    subst e1; subst e2; rfl
theorem tSn_mk {F : Dom} {w : World} {s : Sn} : (tSn s).p F w (.agg #[.int .i64 s.lo, .int .i64 s.hi]) := ⟨_, rfl, rfl, ⟨fun _ => rfl, rfl⟩, ⟨fun _ => rfl, rfl⟩, trivial⟩
/-- A slot, seen as something else. -/
theorem St.recast {c : Base} {g : Slots} {h : Keys} {al : Names} {a : Act} {w : World} {t : Nat} {e e' : Ent} (hs : St c g h al a w) (hg : g t = some e) (hi : ∀ F η v, e.sat F w η v → e'.sat F w η v) (hsup : e'.supp = []) : St c (upd g t (some e')) h al a w := by
  obtain ⟨η, s⟩ := hs
  have s2 := s.put (s.slot t _ hg).1 (e := e') (hi _ _ _ (s.slot t _ hg).2.2) fun j hj => by rw [hsup] at hj; cases hj
  refine ⟨η, ?_⟩
  have ea : a.put (some t) (a.tmps.getD t undef) = a := by
    have hlt : t < a.tmps.size := by rw [s.tn]; exact (s.slot t _ hg).1
    have : a.tmps.setIfInBounds t (a.tmps.getD t undef) = a.tmps := by
      apply Array.ext_getElem?
      intro i
      rw [Array.getElem?_setIfInBounds]
      by_cases hi : t = i
      · subst hi; simp [hlt]
      · simp [hi]
    simp only [Act.put, this]
  rw [← ea]; exact s2
theorem fdOne_row {F : Dom} {w : World} {η : Env} {cs : Array Value} : ∀ (ts : List Ty) (o : Nat), Fd.all F w cs o (fdOne ts) → RowOk F w η cs o (ts.map Ent.val)
  | [], _, _ => fun i e hi => by simp at hi
  | t :: r, o, h => fun i e hi => by
    cases i with
    | zero =>
      simp only [List.map_cons, List.getElem?_cons_zero, Option.some.injEq] at hi
      subst hi
      exact h.1.2
    | succ i =>
      have := fdOne_row (η := η) r (o + 1) h.2 i e (by simpa using hi)
      rwa [show o + 1 + i = o + (i + 1) by omega] at this
/-- A struct, as a row of its cells. -/
theorem Does.rowV {P : Program} {c : Base} {o : Oper} {rd : List (Operand × Ent)} {kr : List (Nat × HEnt)} {d : Nat} {ts : List Ty} {kw : List (Nat × Option HEnt)} {nk : List Nat} {es : List Ent} (he : ts.map Ent.val = es) (hd : Does P c o ⟨rd, kr, some (d, some (.val (tS (fdOne ts)))), kw, nk⟩) :
    Does P c o ⟨rd, kr, some (d, some (.own (An.rowV es))), kw, nk⟩ := by
  subst he
  intro g h al a w hp hs
  refine Oper.wpIn_mono (fun a' w' hs' => ?_) (hd g h al a w ⟨hp.rd, hp.kr, hp.nk, fun x hx => by cases hx; exact hp.d (d, some (.own (An.rowV (ts.map Ent.val)))) rfl⟩ hs)
  have := hs'.recast (t := d) (e' := .own (An.rowV (ts.map Ent.val))) (xd3 _ _ _) (fun F η v hv => ?_) (by rw [rowV_supp]; simp [List.flatMap_map, Ent.supp])
  · simp only [Eff.g, upd_twice] at this ⊢
    exact this
  · obtain ⟨cs, h1, h2, h3⟩ := hv
    exact rowV_sat.2 ⟨cs, h1, by rw [h2, fdOne_sum]; simp, fdOne_row ts 0 h3⟩
/-- A nil slice in a struct variable becomes a slice of one's own. -/
theorem C_nilC {P : Program} {c : Base} {g : Slots} {h : Keys} {al : Names} {Q : Exit → Act → World → Prop} {x : Code} {q Tq : Nat} {us us' : List Ent} (k T es : Nat) (agg : Bool) (i : Nat) (hq : h q = some ⟨Tq, 1, false, us⟩) (hi : us[i]? = some (.val (tE (.slice none 0 0)))) (hk : al k = false) (hes : Nat.blt 0 es = true) (hagg : agg = false → es = 1) (hne : Nat.beq q k = false)
    (hus : us.set i (.own (.sl k es 0 0)) = us') (H : wc P c x Q g (upd (upd h k (some ⟨T, es, agg, []⟩)) q (some ⟨Tq, 1, false, us'⟩)) (fun j => Nat.beq j k || al j)) : wc P c x Q g h al := fun a w hs => by
  obtain ⟨η, s⟩ := hs
  subst hus
  obtain ⟨η', s', hc, hoth⟩ := s.ghost k hk T es agg (by simpa using hes) hagg
  have hqk : q ≠ k := fun e => by rw [e] at hne; simp at hne
  have hq' : upd h k (some ⟨T, es, agg, []⟩) q = some ⟨Tq, 1, false, us⟩ := by rw [xc3 _ _ _ hqk]; exact hq
  refine H a w ⟨η', s'.same hq' rfl ?_ ?_⟩
  · intro j hj
    simp only [HEnt.supp, List.mem_flatMap] at hj
    obtain ⟨e, he, hj⟩ := hj
    obtain ⟨n, hn⟩ := List.getElem?_of_mem he
    rcases List.getElem?_set_cases hn with ⟨_, rfl, _⟩ | ⟨_, hn'⟩
    · simp only [Ent.supp, VP.supp, List.mem_singleton] at hj
      subst hj; simp
    · exact (s'.key q _ hq').2.1 j (HEnt.mem_supp hn' hj)
  · obtain ⟨k1, k2, k3, k4, k5⟩ := (s'.key q _ hq').2.2.1
    refine ⟨by simpa using k1, k2, k3, k4, fun hc0 => ?_⟩
    obtain ⟨cs, c1, c2, c3⟩ := k5 hc0
    refine ⟨cs, c1, c2, fun n e hn => ?_⟩
    rcases List.getElem?_set_cases hn with ⟨rfl, rfl, _⟩ | ⟨_, hn'⟩
    · have h6 : _ = _ := c3 n _ hi
      refine ⟨none, ?_, by simp [hc], fun hlt => by rw [hc] at hlt; omega⟩
      rw [hc]
      exact h6
    · exact c3 n e hn'
end An

/- The kit of the laws: numbers compared and made. -/
namespace An.S
open Go Go.Proofs An
set_option maxHeartbeats 2000000
theorem ti5 : TyI Tryz.prog 5 1 false := ⟨by kernel_rfl, by kernel_rfl⟩
theorem ti39 : TyI Tryz.prog 39 6 true := ⟨by kernel_rfl, by kernel_rfl⟩
theorem fo39_0 : fieldO Tryz.prog 39 0 = some 0 := by kernel_rfl
theorem fo39_1 : fieldO Tryz.prog 39 1 = some 1 := by kernel_rfl
theorem fo39_2 : fieldO Tryz.prog 39 2 = some 5 := by kernel_rfl
theorem fi16 : FnI Tryz.prog 16 := ⟨_, Tryz.func16, by kernel_rfl, rfl⟩
theorem fi42 : FnI Tryz.prog 42 := ⟨_, Tryz.func42, by kernel_rfl, rfl⟩
theorem fi72 : FnI Tryz.prog 72 := ⟨_, Tryz.func72, by kernel_rfl, rfl⟩
theorem take_succ_getN (l : List Nat) (k : Nat) (hk : k < l.length) : l.take (k + 1) = l.take k ++ [l.getD k 0] := by
  rw [List.take_succ_eq_append_getElem hk, List.getD_eq_getElem?_getD, List.getElem?_eq_getElem hk]; rfl
theorem c_SameLimbs (xs ys : List Nat) :
  Ct Tryz.prog 72 [tLm xs, tLm ys] (tB (decide (xs = ys))) := by
 refine Ct.intro Tryz.func72 rfl Tryz.ntmps72 rfl ?_
 intro w F
 refine C_len (s := 0) rfl (fun hl0 => ?_)
 refine x6 ?_
 refine x8 ?_
 refine R1 x5 rfl (x7 (by kernel_rfl) (x4 (x6 (x6 ?_))))
 refine x8 ?_
 refine R1 x3 rfl (R1 (xc4 Tryz.underlying22) rfl (R1 x3 rfl (R1 (xc4 Tryz.underlying22) rfl (R2 xf9 rfl rfl (x7 (by kernel_rfl) (x4 ?_))))))
 refine xc0 rfl (fun h9 => ?_) (fun h9 => ?_)
 ·
  refine x6 ?_
  refine x8 ?_
  refine R1 x5 rfl (x7 (by kernel_rfl) (x4 (xa1 (xa7 ?_))))
  exact xa4 Plain.mk' rfl rfl (Le.bool (decide_eq_false (fun h => by rw [h] at h9; omega)).symm)
 ·
  have hll : xs.length = ys.length := by omega
  refine xa5 (x4 (x6 (x6 ?_)))
  refine x8 ?_
  refine R1 x5 rfl (x7 (by kernel_rfl) (x4 (xb3 ?_)))
  refine xe1 (fun (i : Nat) => i ≤ xs.length ∧ xs.take i = ys.take i) (fun (i : Nat) => upd (upd (upd (fun _ => none) 0 (some (.val (tLm xs)))) 1 (some (.val (tLm ys)))) 5 (some (.val (tI i)))) (fun (i : Nat) => fun _ => none) (nm []) (fun (i : Nat) => xs.length - i) (0) ⟨Nat.zero_le _, rfl⟩ (Sub.int rfl (by first | omega | rfl | (dsimp only; omega)) (Sub.cons rfl (Sub.cons rfl Sub.nil))) SubK.nil (SupG.val (SupG.val (SupG.val SupG.nil))) SupH.nil (lkOk rfl) ?_
  intro i hI
  obtain ⟨hi, ht⟩ := hI
  refine x6 (x6 ?_)
  refine x8 ?_
  refine R1 x3 rfl (R1 x3 rfl (R1 (xc4 Tryz.underlying22) rfl (R2 xd8 rfl rfl (x7 (by kernel_rfl) (x4 ?_)))))
  refine xc0 rfl (fun h12 => ?_) (fun h12 => ?_)
  ·
   refine xa5 (x4 (x6 (xb3 (x6 ?_))))
   refine xd5 mixed ?_
   refine R1 x3 rfl (R1 x3 rfl (R2 (xb9 sl22 (i) (by omega) (gN (by omega))) rfl rfl (R1 (xc5 ti46) rfl (R1 x3 rfl (R1 x3 rfl (R2 (xb9 sl22 (i) (by omega) (gN (by omega))) rfl rfl (R1 (xc5 ti46) rfl ?_)))))))
   refine R2 xf9 rfl rfl (xd6 (by kernel_rfl) (x4 ?_))
   refine xc0 rfl (fun h13 => ?_) (fun h13 => ?_)
   ·
    refine x6 ?_
    refine x8 ?_
    refine R1 x5 rfl (x7 (by kernel_rfl) (x4 (xa1 (xc6 (xa7 (xa7 (xc6 ?_)))))))
    refine xa7 ?_
    exact xa4 Plain.mk' rfl rfl (Le.bool (decide_eq_false (fun h => by rw [h] at h13; exact (h13 rfl))).symm)
   ·
    refine xa5 (xc1 (x4 ?_))
    refine x8 ?_
    refine R1 x3 rfl (R2 (xb6 (wr64 (by omega) (by omega))) rfl rfl (R1 x5 rfl (x7 (by kernel_rfl) ?_)))
    exact xc2 (i + 1) ⟨⟨by omega, by rw [take_succ_getN xs i (by omega), take_succ_getN ys i (by omega), ht, show xs.getD i 0 = ys.getD i 0 from (by omega)]⟩, (by omega)⟩ (Sub.int rfl (by first | omega | rfl | (dsimp only; omega)) (Sub.cons rfl (Sub.cons rfl Sub.nil))) SubK.nil (SupG.val (SupG.val (SupG.val SupG.nil))) SupH.nil (lkOk rfl)
  ·
   refine xd4 (xb8 (xb8 (xe0 (x4 (x6 ?_)))))
   refine x8 ?_
   refine R1 x5 rfl (x7 (by kernel_rfl) (x4 (xa1 ?_)))
   exact xa4 Plain.mk' rfl rfl (Le.bool (decide_eq_true (by rw [show i = xs.length by omega, List.take_length, hll, List.take_length] at ht; exact ht)).symm)
theorem c_SameWhole (x y : Wh) :
  Ct Tryz.prog 42 [tWh x, tWh y] (tB (decide (x = y))) := by
 refine Ct.intro Tryz.func42 rfl Tryz.ntmps42 rfl ?_
 intro w F
 refine x6 ?_
 refine x8 ?_
 refine RE (xc9 (k := 2) ti29 rfl) ⟨rfl, trivial⟩ trivial ⟨rfl, trivial⟩ (RE (xc9 (k := 3) ti29 rfl) ⟨rfl, trivial⟩ trivial ⟨rfl, trivial⟩ (R1 x5 rfl (x7 (by kernel_rfl) (x4 (x6 ?_)))))
 refine x8 ?_
 refine R1 (x9 fo29_0 rfl) rfl (xa6 (0) ti4 rfl rfl rfl (At.g 0 rfl rfl) rfl (R1 (x9 fo29_0 rfl) rfl (xa6 (0) ti4 rfl rfl rfl (At.g 0 rfl rfl) rfl (R2 (d_eqlB Tryz.underlying4) rfl rfl (R1 x3 rfl ?_)))))
 refine RGcase (t := 10) rfl (fun h81 => ?_) (fun h81 => ?_)
 ·
  refine RGon h81 rfl (x9 fo29_1 rfl) rfl ⟨rfl, trivial⟩ trivial trivial (xb7 h81 rfl rfl (0) ti22 rfl rfl rfl (At.g 1 rfl rfl) rfl (RGon h81 rfl (x9 fo29_1 rfl) rfl ⟨rfl, trivial⟩ trivial trivial (xb7 h81 rfl rfl (0) ti22 rfl rfl rfl (At.g 1 rfl rfl) rfl (RGon h81 rfl (xa0 (c_SameLimbs _ _) fi72 rfl) rfl ⟨rfl, rfl, trivial⟩ trivial trivial (R2 (xb2 h81) rfl rfl (R1 x5 rfl (x7 (by kernel_rfl) ?_)))))))
  refine x4 (xa1 ?_)
  exact xa4 Plain.mk' rfl rfl (Le.bool (by obtain ⟨a, b⟩ := x; obtain ⟨c, d⟩ := y; simp_all))
 ·
  refine RGoff h81 rfl rfl (RGoff h81 rfl rfl (RGoff h81 rfl rfl (RGoff h81 rfl rfl (RGoff h81 rfl rfl (R2 (xb0 h81) rfl rfl (R1 x5 rfl (x7 (by kernel_rfl) ?_)))))))
  refine x4 (xa1 ?_)
  exact xa4 Plain.mk' rfl rfl (Le.bool (by obtain ⟨a, b⟩ := x; obtain ⟨c, d⟩ := y; simp_all))
theorem c_SameFrac (x y : Fr) :
  Ct Tryz.prog 16 [tFr x, tFr y] (tB (decide (x = y))) := by
 refine Ct.intro Tryz.func16 rfl Tryz.ntmps16 rfl ?_
 intro w F
 refine x6 ?_
 refine x8 ?_
 refine RE (xc9 (k := 2) ti31 rfl) ⟨rfl, trivial⟩ trivial ⟨rfl, trivial⟩ (RE (xc9 (k := 3) ti31 rfl) ⟨rfl, trivial⟩ trivial ⟨rfl, trivial⟩ (R1 x5 rfl (x7 (by kernel_rfl) (x4 (x6 ?_)))))
 refine x8 ?_
 refine R1 (x9 fo31_0 rfl) rfl (xa6 (0) ti29 rfl rfl rfl (At.g 0 rfl rfl) rfl (R1 (x9 fo31_0 rfl) rfl (xa6 (0) ti29 rfl rfl rfl (At.g 0 rfl rfl) rfl (R2 (xa0 (c_SameWhole _ _) fi42 rfl) rfl rfl (R1 x3 rfl ?_)))))
 refine RGcaseD (t := 10) rfl (fun h113 => ?_) (fun h113 => ?_)
 ·
  refine RGon (decide_eq_true h113) rfl (x9 fo31_1 rfl) rfl ⟨rfl, trivial⟩ trivial trivial (xb7 (decide_eq_true h113) rfl rfl (0) ti29 rfl rfl rfl (At.g 1 rfl rfl) rfl (RGon (decide_eq_true h113) rfl (x9 fo31_1 rfl) rfl ⟨rfl, trivial⟩ trivial trivial (xb7 (decide_eq_true h113) rfl rfl (0) ti29 rfl rfl rfl (At.g 1 rfl rfl) rfl (RGon (decide_eq_true h113) rfl (xa0 (c_SameWhole _ _) fi42 rfl) rfl ⟨rfl, rfl, trivial⟩ trivial trivial (R2 (xb2 (decide_eq_true h113)) rfl rfl (R1 x5 rfl (x7 (by kernel_rfl) ?_)))))))
  refine x4 (xa1 ?_)
  exact xa4 Plain.mk' rfl rfl (Le.bool (by obtain ⟨a, b⟩ := x; obtain ⟨c, d⟩ := y; simp_all))
 ·
  refine RGoff (decide_eq_false h113) rfl rfl (RGoff (decide_eq_false h113) rfl rfl (RGoff (decide_eq_false h113) rfl rfl (RGoff (decide_eq_false h113) rfl rfl (RGoff (decide_eq_false h113) rfl rfl (R2 (xb0 (decide_eq_false h113)) rfl rfl (R1 x5 rfl (x7 (by kernel_rfl) ?_)))))))
  refine x4 (xa1 ?_)
  exact xa4 Plain.mk' rfl rfl (Le.bool (by obtain ⟨a, b⟩ := x; obtain ⟨c, d⟩ := y; simp_all))
theorem c_SameValue (x y : Va) :
  Ct Tryz.prog 32 [tVa x, tVa y] (tB (decide (x = y))) := by
 refine Ct.intro Tryz.func32 rfl Tryz.ntmps32 rfl ?_
 intro w F
 refine x6 ?_
 refine x8 ?_
 refine RE (xc9 (k := 2) ti39 rfl) ⟨rfl, trivial⟩ trivial ⟨rfl, trivial⟩ (RE (xc9 (k := 3) ti39 rfl) ⟨rfl, trivial⟩ trivial ⟨rfl, trivial⟩ (R1 x5 rfl (x7 (by kernel_rfl) (x4 (x6 ?_)))))
 refine x8 ?_
 refine R1 (x9 fo39_0 rfl) rfl (xa6 (0) ti5 rfl rfl rfl (At.g 0 rfl rfl) rfl (R1 (x9 fo39_0 rfl) rfl (xa6 (0) ti5 rfl rfl rfl (At.g 0 rfl rfl) rfl (R2 xe3 rfl rfl (R1 x3 rfl ?_)))))
 refine RGcaseD (t := 10) rfl (fun h146 => ?_) (fun h146 => ?_)
 ·
  refine RGon (decide_eq_true h146) rfl (x9 fo39_1 rfl) rfl ⟨rfl, trivial⟩ trivial trivial (xb7 (decide_eq_true h146) rfl rfl (0) ti31 rfl rfl rfl (At.g 1 rfl rfl) rfl (RGon (decide_eq_true h146) rfl (x9 fo39_1 rfl) rfl ⟨rfl, trivial⟩ trivial trivial (xb7 (decide_eq_true h146) rfl rfl (0) ti31 rfl rfl rfl (At.g 1 rfl rfl) rfl (RGon (decide_eq_true h146) rfl (xa0 (c_SameFrac _ _) fi16 rfl) rfl ⟨rfl, rfl, trivial⟩ trivial trivial (R2 (xb2 (decide_eq_true h146)) rfl rfl (R1 x3 rfl ?_))))))
  refine RGcaseD (t := 17) rfl (fun h146_2 => ?_) (fun h146_2 => ?_)
  ·
   refine RGon (decide_eq_true h146_2) rfl (x9 fo39_2 rfl) rfl ⟨rfl, trivial⟩ trivial trivial (xb7 (decide_eq_true h146_2) rfl rfl (0) ti3 rfl rfl rfl (At.g 2 rfl rfl) rfl (RGon (decide_eq_true h146_2) rfl (x9 fo39_2 rfl) rfl ⟨rfl, trivial⟩ trivial trivial (xb7 (decide_eq_true h146_2) rfl rfl (0) ti3 rfl rfl rfl (At.g 2 rfl rfl) rfl (RGon (decide_eq_true h146_2) rfl xe3 rfl ⟨rfl, rfl, trivial⟩ trivial trivial (R2 (xb2 (decide_eq_true h146_2)) rfl rfl (R1 x5 rfl (x7 (by kernel_rfl) ?_)))))))
   refine x4 (xa1 ?_)
   exact xa4 Plain.mk' rfl rfl (Le.bool (by obtain ⟨a, b, e⟩ := x; obtain ⟨c, d, f⟩ := y; simp only [Va.mk.injEq] at *; simp_all <;> omega))
  ·
   refine RGoff (decide_eq_false h146_2) rfl rfl (RGoff (decide_eq_false h146_2) rfl rfl (RGoff (decide_eq_false h146_2) rfl rfl (RGoff (decide_eq_false h146_2) rfl rfl (RGoff (decide_eq_false h146_2) rfl rfl (R2 (xb0 (decide_eq_false h146_2)) rfl rfl (R1 x5 rfl (x7 (by kernel_rfl) ?_)))))))
   refine x4 (xa1 ?_)
   exact xa4 Plain.mk' rfl rfl (Le.bool (by obtain ⟨a, b, e⟩ := x; obtain ⟨c, d, f⟩ := y; simp only [Va.mk.injEq] at *; simp_all <;> omega))
 ·
  refine RGoff (decide_eq_false h146) rfl rfl (RGoff (decide_eq_false h146) rfl rfl (RGoff (decide_eq_false h146) rfl rfl (RGoff (decide_eq_false h146) rfl rfl (RGoff (decide_eq_false h146) rfl rfl (R2 (xb0 (decide_eq_false h146)) rfl rfl (R1 x3 rfl (RGoff0 rfl rfl ?_)))))))
  refine RGoff0 rfl rfl (RGoff0 rfl rfl (RGoff0 rfl rfl (RGoff0 rfl rfl (R2 (xb0 rfl) rfl rfl (R1 x5 rfl (x7 (by kernel_rfl) (x4 ?_)))))))
  refine xa1 ?_
  exact xa4 Plain.mk' rfl rfl (Le.bool (by obtain ⟨a, b, e⟩ := x; obtain ⟨c, d, f⟩ := y; simp only [Va.mk.injEq] at *; simp_all <;> omega))
theorem c_Limbs (x : Fr) (h1 : x.n.l.length ≤ 4611686018427387903) (h2 : x.d.l.length ≤ 4611686018427387903) :
  Ct Tryz.prog 14 [tFr x] (tI ((x.n.l.length : Int) + (x.d.l.length : Int))) := by
 refine Ct.intro Tryz.func14 rfl Tryz.ntmps14 rfl ?_
 intro w F
 refine x6 ?_
 refine x8 ?_
 refine RE (xc9 (k := 1) ti31 rfl) ⟨rfl, trivial⟩ trivial ⟨rfl, trivial⟩ (R1 x5 rfl (x7 (by kernel_rfl) (x4 (x6 ?_))))
 refine x8 ?_
 refine R1 (x9 fo31_0 rfl) rfl (R1 (x9 fo29_1 rfl) rfl (xa6 (0) ti22 rfl rfl rfl (At.t (At.g 0 rfl rfl) (At.g 1 rfl rfl)) rfl (R1 (xc4 Tryz.underlying22) rfl (R1 (x9 fo31_1 rfl) rfl (R1 (x9 fo29_1 rfl) rfl (xa6 (0) ti22 rfl rfl rfl (At.t (At.g 1 rfl rfl) (At.g 1 rfl rfl)) rfl (R1 (xc4 Tryz.underlying22) rfl ?_)))))))
 refine R2 (xb6 (wr64 (by omega) (by omega))) rfl rfl (R1 x5 rfl (x7 (by kernel_rfl) (x4 (xa1 ?_))))
 exact xa4 Plain.mk' rfl rfl Le.refl
end An.S

/- The reference's arithmetic on limbs: plain numbers. -/
namespace An
open Go
abbrev tM (v : Nat) : Ty := tLm (dig 65536 v)
end An

/- The reference's arithmetic on limbs: sums, differences, halves. Plain numbers. -/
namespace An
open Go
end An

/- The reference's division: bit by bit. Plain numbers. -/
namespace An
open Go
theorem from_more {v i u : Nat} (hu : u = v / 65536 ^ i) (h0 : 0 < u) : i + 1 ≤ (dig 65536 v).length ∧ u / 65536 = v / 65536 ^ (i + 1) ∧ dgs 65536 i v ++ [u % 65536] = dgs 65536 (i + 1) v := by
  refine ⟨?_, by rw [hu, Nat.div_div_eq_div_mul, ← Nat.pow_succ], by rw [dgs_succ, hu]⟩
  rcases Nat.lt_or_ge i (dig 65536 v).length with h' | h'
  · exact h'
  · have := (xd7 xd2 v i).1 h'
    rw [Nat.div_eq_of_lt this] at hu; omega
theorem from_end {v i : Nat} (h : v / 65536 ^ i = 0) (hi : i ≤ (dig 65536 v).length) : dgs 65536 i v = dig 65536 v := by
  have h1 : v < 65536 ^ i := (Nat.div_eq_zero_iff_lt (Nat.pow_pos (by decide))).1 h
  have h2 := (xd7 xd2 v i).2 h1
  rw [show i = (dig 65536 v).length by omega, dig_eq_dgs xd2]
end An

/- The kit of the laws: whole numbers and fractions made from ints. -/
namespace An.S
open Go Go.Proofs An
set_option maxHeartbeats 2000000
theorem shr16 {u : Nat} (_h : u < 18446744073709551616) : ((u : Int)).fdiv (2 ^ (min (16 : Int).toNat (IntKind.bits .u64))) = ((u / 65536 : Nat) : Int) := by
  show ((u : Int)).fdiv 65536 = _
  rw [Int.fdiv_eq_ediv_of_nonneg _ (by decide)]; omega
theorem wh_of {n : Int} : (⟨decide (n < 0), dig 65536 n.natAbs⟩ : Wh) = wh n := rfl
theorem c_KWhole (n : Int) (h1 : -9223372036854775808 ≤ n) (h2 : n ≤ 9223372036854775807) :
  Ct Tryz.prog 43 [tI n] (tWh (wh n)) := by
 refine Ct.intro Tryz.func43 rfl Tryz.ntmps43 rfl ?_
 intro w F
 refine x6 ?_
 refine x8 ?_
 refine RE (xb4 (k := 2) (n := 2) (agg := true) zr29.1 zr29.2 rfl) trivial trivial ⟨rfl, trivial⟩ (x7 (by kernel_rfl) (x4 (x6 ?_)))
 refine x8 ?_
 refine R1 x3 rfl (R2 xd8 rfl rfl (R1 (Does.rowV (ts := [tB (decide (n < 0)), tE (.slice none 0 0)]) (es := [.val (tB (decide (n < 0))), .val (tE (.slice none 0 0))]) rfl (xc8 (r := tS [⟨1, false, tB (decide (n < 0))⟩, ⟨1, false, tE (.slice none 0 0)⟩]) (ts := [(0, tB (decide (n < 0)))]) bu29 (z := .agg #[.bool false, .slice none 0 0]) (t := tS [⟨1, false, tE (.bool false)⟩, ⟨1, false, tE (.slice none 0 0)⟩]) (fun _ _ => ⟨_, rfl, rfl, ⟨fun _ => rfl, rfl⟩, ⟨fun _ => rfl, rfl⟩, trivial⟩) ⟨_, rfl⟩ rfl ⟨_, _, _, _, rfl, Up.f (fs := [⟨1, false, tE (.bool false)⟩, ⟨1, false, tE (.slice none 0 0)⟩]) (f := ⟨1, false, tE (.bool false)⟩) (fs' := [⟨1, false, tB (decide (n < 0))⟩, ⟨1, false, tE (.slice none 0 0)⟩]) 0 rfl rfl rfl, inferInstance, Le.refl⟩)) rfl (RE (d_allocC (k := 3) (n := 2) [.bool false, .slice none 0 0] zr29.1 rfl rfl rfl rfl) trivial trivial ⟨rfl, trivial⟩ (RE (d_storeM ti29 rfl rfl rfl) ⟨rfl, rfl, trivial⟩ ⟨rfl, trivial⟩ trivial (x7 (by kernel_rfl) (x4 (x6 ?_)))))))
 refine C_nilC (q := 3) 103 46 1 false 1 rfl rfl rfl rfl (fun _ => rfl) rfl rfl ?_
 refine x8 ?_
 refine R1 x3 rfl (R1 (xb1 Tryz.underlying79 (isS Tryz.underlying3) toU64) rfl (R1 x5 rfl (x7 (by kernel_rfl) (x4 ?_))))
 refine C_join (fun (v : Nat) => v = n.natAbs) (fun (v : Nat) => upd (upd (upd (fun _ => none) 2 (some (.own (.ptr 2 0)))) 3 (some (.own (.ptr 3 0)))) 4 (some (.val (tE (.int .u64 ((v : Nat) : Int)))))) (fun (v : Nat) => upd (upd (upd (fun _ => none) 2 (some (⟨29, 2, true, [.val (tWh ⟨false, []⟩)]⟩))) 3 (some (⟨29, 1, false, [.val (tB (decide (n < 0))), .own (.sl 103 1 0 0)]⟩))) 103 (some (⟨46, 1, false, rW .u16 []⟩))) (nm [2, 3, 103]) ?_ ?_
 ·
  refine x6 ?_
  refine x8 ?_
  refine R1 x3 rfl (R2 xd8 rfl rfl (x7 (by kernel_rfl) (x4 ?_)))
  refine xc0 rfl (fun h11 => ?_) (fun h11 => ?_)
  ·
   refine x8 ?_
   refine R1 x3 rfl (R1 (d_neg (negU64 (by omega))) rfl (R1 x5 rfl (x7 (by kernel_rfl) ?_)))
   exact xc2 ((18446744073709551616 - (n % 18446744073709551616).toNat) % 18446744073709551616) (by omega) (Sub.int rfl (by first | omega | rfl | (dsimp only; omega)) (Sub.cons rfl (Sub.cons rfl Sub.nil))) ((SubK.consI rfl ImpK.refl) ((SubK.consI rfl ImpK.refl) ((SubK.consI rfl ImpK.refl) SubK.nil))) (SupG.val (SupG.own rfl (SupG.own rfl SupG.nil))) (SupH.cons rfl (supJ xc7) (SupH.cons rfl (supJL rfl) (SupH.cons rfl (supJL rfl) SupH.nil))) (lkOk rfl)
  ·
   refine xa5 ?_
   exact xc2 ((n % 18446744073709551616).toNat) (by omega) (Sub.int rfl (by first | omega | rfl | (dsimp only; omega)) (Sub.cons rfl (Sub.cons rfl Sub.nil))) ((SubK.consI rfl ImpK.refl) ((SubK.consI rfl ImpK.refl) ((SubK.consI rfl ImpK.refl) SubK.nil))) (SupG.val (SupG.own rfl (SupG.own rfl SupG.nil))) (SupH.cons rfl (supJ xc7) (SupH.cons rfl (supJL rfl) (SupH.cons rfl (supJL rfl) SupH.nil))) (lkOk rfl)
 ·
  intro v hv
  have hvl := wh_len v (by omega)
  refine x6 (xb3 ?_)
  refine xe1 (fun (fm : (Nat) × (Nat) × (List Nat)) => (fun (i : Nat) (u : Nat) (cs : List Nat) => i ≤ (dig 65536 v).length ∧ u = v / 65536 ^ i ∧ cs = dgs 65536 i v ∧ u < 18446744073709551616) fm.1 fm.2.1 fm.2.2) (fun (fm : (Nat) × (Nat) × (List Nat)) => (fun (i : Nat) (u : Nat) (cs : List Nat) => upd (upd (upd (fun _ => none) 2 (some (.own (.ptr 2 0)))) 3 (some (.own (.ptr 3 0)))) 4 (some (.val (tE (.int .u64 ((u : Nat) : Int)))))) fm.1 fm.2.1 fm.2.2) (fun (fm : (Nat) × (Nat) × (List Nat)) => (fun (i : Nat) (u : Nat) (cs : List Nat) => upd (upd (upd (fun _ => none) 2 (some (⟨29, 2, true, [.val (tWh ⟨false, []⟩)]⟩))) 3 (some (⟨29, 1, false, [.val (tB (decide (n < 0))), .own (.sl 103 1 0 cs.length)]⟩))) 103 (some (⟨46, 1, false, rW .u16 cs⟩))) fm.1 fm.2.1 fm.2.2) (nm [2, 3, 103]) (fun (fm : (Nat) × (Nat) × (List Nat)) => (fun (i : Nat) (u : Nat) (cs : List Nat) => u) fm.1 fm.2.1 fm.2.2) ((0, v, [])) (by dsimp only; exact ⟨Nat.zero_le _, by simp, rfl, by omega⟩) (Sub.int rfl (by first | omega | rfl | (dsimp only; omega)) (Sub.cons rfl (Sub.cons rfl Sub.nil))) ((SubK.consI rfl ImpK.refl) ((SubK.consI rfl ImpK.refl) ((SubK.consI rfl ImpK.refl) SubK.nil))) (SupG.val (SupG.own rfl (SupG.own rfl SupG.nil))) (SupH.cons rfl (supJ xc7) (SupH.cons rfl (supJL rfl) (SupH.cons rfl (supJL rfl) SupH.nil))) (lkOk rfl) ?_
  intro fm hI
  obtain ⟨i, u, cs⟩ := fm
  replace hI : i ≤ (dig 65536 v).length ∧ u = v / 65536 ^ i ∧ cs = dgs 65536 i v ∧ u < 18446744073709551616 := hI
  show wc _ _ _ _ (upd (upd (upd (fun _ => none) 2 (some (.own (.ptr 2 0)))) 3 (some (.own (.ptr 3 0)))) 4 (some (.val (tE (.int .u64 ((u : Nat) : Int)))))) (upd (upd (upd (fun _ => none) 2 (some (⟨29, 2, true, [.val (tWh ⟨false, []⟩)]⟩))) 3 (some (⟨29, 1, false, [.val (tB (decide (n < 0))), .own (.sl 103 1 0 cs.length)]⟩))) 103 (some (⟨46, 1, false, rW .u16 cs⟩))) _
  obtain ⟨hi, hu, hcs, hu64⟩ := hI
  have hcl : cs.length = i := by rw [hcs, xg7]
  refine x6 (x6 ?_)
  refine x8 ?_
  refine R1 x3 rfl (R2 d_gtr rfl rfl (x7 (by kernel_rfl) (x4 ?_)))
  refine xc0 rfl (fun h14 => ?_) (fun h14 => ?_)
  ·
   refine xa5 (x4 (x6 (xb3 ?_)))
   refine x8 ?_
   refine R1 (x9 fo29_1 rfl) rfl (RE (xa8 (1) ti22 rfl rfl) ⟨rfl, trivial⟩ ⟨rfl, trivial⟩ trivial (R1 x3 rfl (R1 (xb1 (r := ((u % 65536 : Nat) : Int)) Tryz.underlying46 (isS Tryz.underlying79) (by rw [mu16]; omega)) rfl (R1 (d_nums (n := 1) [u % 65536] Tryz.underlying22 el46 zf46 rfl rfl rfl) rfl (RE (xf6 (k := 103) (k' := 23) (ts' := rW .u16 (cs ++ [u % 65536])) Tryz.underlying22 el46 zf46 rfl rfl (fun _ => inferInstance) rW_len (by simp; omega) (by simp; omega) (by simp [rW]) (n' := cs.length + 1) rfl) ⟨rfl, rfl, trivial⟩ ⟨rfl, trivial⟩ ⟨rfl, trivial⟩ (R1 (x9 fo29_1 rfl) rfl (RE (xa3 (es := 1) (agg := false) (1) ti22 rfl rfl rfl) ⟨rfl, rfl, trivial⟩ ⟨rfl, trivial⟩ trivial ?_)))))))
   refine x7 (by kernel_rfl) (xc1 (x4 ?_))
   refine x8 ?_
   refine R1 x3 rfl (R2 (d_shr (by decide) (shr16 hu64)) rfl rfl (R1 x5 rfl (x7 (by kernel_rfl) ?_)))
   obtain ⟨n1, n2, n3⟩ := from_more hu (by omega)
   exact K_famR (l := [2, 3, 103]) (fun j => cond (Nat.beq j 103) 23 (j)) ((i + 1, u / 65536, cs ++ [u % 65536])) ⟨(by dsimp only; exact ⟨n1, n2, by rw [hcs]; exact n3, by omega⟩), (by dsimp only; omega)⟩ (SubR.int rfl (by first | omega | rfl | (dsimp only; omega)) (SubR.cons rfl (SubR.cons rfl SubR.nil))) ((SubKR.consI rfl (ImpK.of ren_rW.symm)) ((SubKR.consI rfl (ImpK.of (by dsimp only; rw [List.length_append]; rfl))) ((SubKR.consI rfl ImpK.refl) SubKR.nil))) (SupG.val (SupG.own rfl (SupG.own rfl SupG.nil))) (SupH.cons rfl (supJ xc7) (SupH.cons rfl (supJL rfl) (SupH.cons rfl (supJL rfl) SupH.nil))) (lkOk rfl) rfl rfl (fun _ h => by cases h)
  ·
   refine xd4 (xb8 (xb8 (xe0 (x4 (x6 (C_giveC (q := 3) (j := 103) (f := fun n : Nat => tE (.int .u16 n)) (xs := cs) 1 rfl rfl rfl rfl (NoLbK.of fun _ h => h) (rW_all rfl) rfl rfl ?_))))))
   refine x8 ?_
   refine RE (d_loadM (us := [tB (decide (n < 0)), tLm cs]) (t := tWh ⟨(decide (n < 0)), cs⟩) ti29 rfl rfl rfl rfl) ⟨rfl, trivial⟩ ⟨rfl, trivial⟩ trivial (RE (xa3 (es := 2) (agg := true) (0) ti29 rfl rfl rfl) ⟨rfl, rfl, trivial⟩ ⟨rfl, trivial⟩ trivial (x7 (by kernel_rfl) (x4 (xa1 ?_))))
   exact xg4 Plain.mk' rfl ⟨_, _, _, _, _, rfl, rfl, ti29, (Le.of (by rw [← wh_of, hcs, from_end (by rw [← hu]; omega) hi, hv]))⟩
end An.S

/- The kit of the laws: fractions made from ints; steps. -/
namespace An.S
open Go Go.Proofs An
set_option maxHeartbeats 2000000
theorem fi43 : FnI Tryz.prog 43 := ⟨_, Tryz.func43, by kernel_rfl, rfl⟩
/-- What the kit makes of two numbers. -/
def kfr (n d : Int) : Rat := if d < 1 then 0 else Rat.divInt n d
theorem kfr_small {n d : Int} (h : d < 1 ∨ n = 0) : kfr n d = 0 := by
  rw [kfr]
  rcases h with h | h
  · rw [if_pos h]
  · subst h; split
    · rfl
    · exact Rat.zero_divInt d
theorem kfr_big {n d : Int} (h : ¬ d < 1) : kfr n d = Rat.divInt n d := if_neg h
theorem fr_zero : fr 0 = ⟨⟨false, []⟩, wh 1⟩ := by
  have e1 : (0 : Rat).num = 0 := rfl
  have e2 : (((0 : Rat).den : Nat) : Int) = 1 := rfl
  rw [fr, e1, e2, wh_zero]
theorem gcd_facts {n d : Int} {a : Nat} (hd : ¬ d < 1) (ha : a = Nat.gcd n.natAbs d.natAbs) : 0 < a ∧ (a : Int) ≤ d ∧ n.tdiv a = n / (a : Int) ∧ d.tdiv a = d / (a : Int) ∧ fr (Rat.divInt n d) = ⟨wh (n / (a : Int)), wh (d / (a : Int))⟩ ∧ (n / (a : Int)).natAbs ≤ n.natAbs ∧ (d / (a : Int)).natAbs ≤ d.natAbs ∧ (n ≤ 0 → n / (a : Int) ≤ 0) ∧ (0 ≤ n → 0 ≤ n / (a : Int)) ∧ 0 ≤ d / (a : Int) := by
  have h0 : 0 < a := by rw [ha]; exact Nat.gcd_pos_of_pos_right _ (by omega)
  have h1 : a ≤ d.natAbs := by rw [ha]; exact Nat.le_of_dvd (by omega) (Nat.gcd_dvd_right _ _)
  have h2 : (a : Int) ∣ n := Int.dvd_natAbs.1 (Int.natCast_dvd_natCast.2 (ha ▸ Nat.gcd_dvd_left _ _))
  have h3 : (a : Int) ∣ d := Int.dvd_natAbs.1 (Int.natCast_dvd_natCast.2 (ha ▸ Nat.gcd_dvd_right _ _))
  refine ⟨h0, by omega, Int.tdiv_eq_ediv_of_dvd h2, Int.tdiv_eq_ediv_of_dvd h3, ?_, Int.natAbs_ediv_le_natAbs _ _, Int.natAbs_ediv_le_natAbs _ _, fun h => ?_, fun h => Int.ediv_nonneg h (by omega), Int.ediv_nonneg (by omega) (by omega)⟩
  · have h4 := lowest_eq (n := n) (d := d) (by omega)
    have h5 : (Int.gcd n d) = a := by rw [ha]; rfl
    rw [h5] at h4; exact h4
  · have := Int.ediv_le_ediv (show 0 < (a : Int) by omega) h
    simpa using this
theorem c_KFrac (n d : Int) (h1 : -9223372036854775808 ≤ n) (h2 : n ≤ 9223372036854775807) (h3 : -9223372036854775808 ≤ d) (h4 : d ≤ 9223372036854775807) :
  Ct Tryz.prog 17 [tI n, tI d] (tFr (fr (kfr n d))) := by
 refine Ct.intro Tryz.func17 rfl Tryz.ntmps17 rfl ?_
 intro w F
 refine x6 ?_
 refine x8 ?_
 refine RE (xb4 (k := 4) (n := 4) (agg := true) zr31.1 zr31.2 rfl) trivial trivial ⟨rfl, trivial⟩ (x7 (by kernel_rfl) (x4 (x6 (x6 ?_))))
 refine x8 ?_
 refine R1 x3 rfl (R2 xd8 rfl rfl (R1 x3 rfl ?_))
 refine RGcaseD (t := 9) rfl (fun h22 => ?_) (fun h22 => ?_)
 ·
  have hK := kfr_small (n := n) (d := d) (.inl h22)
  refine RGoff (decide_eq_true h22) rfl rfl (RGoff (decide_eq_true h22) rfl rfl (R2 (xb2 (decide_eq_true h22)) rfl rfl (x7 (by kernel_rfl) (x4 (C_bT rfl rfl (x6 ?_))))))
  refine x8 ?_
  refine R1 (xa0 (c_KWhole 1 (by decide) (by decide)) fi43 rfl) rfl (R1 (xc8 (r := tS [⟨2, true, (tS [⟨1, false, (tE (.bool false))⟩, ⟨1, false, (tLm [])⟩])⟩, ⟨2, true, tWh (wh 1)⟩]) (ts := [(1, tWh (wh 1))]) bu31 zr31.2 ⟨_, rfl⟩ rfl ⟨_, _, _, _, rfl, Up.f (fs := [⟨2, true, (tS [⟨1, false, (tE (.bool false))⟩, ⟨1, false, (tLm [])⟩])⟩, ⟨2, true, (tS [⟨1, false, (tE (.bool false))⟩, ⟨1, false, (tLm [])⟩])⟩]) (f := ⟨2, true, (tS [⟨1, false, (tE (.bool false))⟩, ⟨1, false, (tLm [])⟩])⟩) (fs' := [⟨2, true, (tS [⟨1, false, (tE (.bool false))⟩, ⟨1, false, (tLm [])⟩])⟩, ⟨2, true, tWh (wh 1)⟩]) 1 rfl rfl rfl, inferInstance, Le.refl⟩) rfl (RE (xa3 (es := 4) (agg := true) (0) ti31 rfl rfl rfl) ⟨rfl, rfl, trivial⟩ ⟨rfl, trivial⟩ trivial (x7 (by kernel_rfl) (x4 (xa1 (xa7 ?_))))))
  exact xg4 Plain.mk' rfl ⟨_, _, _, _, _, rfl, rfl, ti31, (Le.of (by rw [hK, fr_zero]))⟩
 ·
  have hd : ¬ d < 1 := h22
  refine RGon (decide_eq_false h22) rfl x3 rfl ⟨rfl, trivial⟩ trivial trivial (RGon (decide_eq_false h22) rfl xe3 rfl ⟨rfl, rfl, trivial⟩ trivial trivial (R2 (xb0 (decide_eq_false h22)) rfl rfl (x7 (by kernel_rfl) (x4 ?_))))
  refine xc0 rfl (fun h22_2 => ?_) (fun h22_2 => ?_)
  ·
   have hK := kfr_small (n := n) (d := d) (.inr h22_2)
   refine x6 ?_
   refine x8 ?_
   refine R1 (xa0 (c_KWhole 1 (by decide) (by decide)) fi43 rfl) rfl (R1 (xc8 (r := tS [⟨2, true, (tS [⟨1, false, (tE (.bool false))⟩, ⟨1, false, (tLm [])⟩])⟩, ⟨2, true, tWh (wh 1)⟩]) (ts := [(1, tWh (wh 1))]) bu31 zr31.2 ⟨_, rfl⟩ rfl ⟨_, _, _, _, rfl, Up.f (fs := [⟨2, true, (tS [⟨1, false, (tE (.bool false))⟩, ⟨1, false, (tLm [])⟩])⟩, ⟨2, true, (tS [⟨1, false, (tE (.bool false))⟩, ⟨1, false, (tLm [])⟩])⟩]) (f := ⟨2, true, (tS [⟨1, false, (tE (.bool false))⟩, ⟨1, false, (tLm [])⟩])⟩) (fs' := [⟨2, true, (tS [⟨1, false, (tE (.bool false))⟩, ⟨1, false, (tLm [])⟩])⟩, ⟨2, true, tWh (wh 1)⟩]) 1 rfl rfl rfl, inferInstance, Le.refl⟩) rfl (RE (xa3 (es := 4) (agg := true) (0) ti31 rfl rfl rfl) ⟨rfl, rfl, trivial⟩ ⟨rfl, trivial⟩ trivial (x7 (by kernel_rfl) (x4 (xa1 (xa7 ?_))))))
   exact xg4 Plain.mk' rfl ⟨_, _, _, _, _, rfl, rfl, ti31, (Le.of (by rw [hK, fr_zero]))⟩
  ·
   refine xa5 (x4 (x6 ?_))
   refine x8 ?_
   refine R1 x3 rfl (R1 (xb1 Tryz.underlying79 (isS Tryz.underlying3) toU64) rfl (R1 x3 rfl (R1 (xb1 (r := ((d.natAbs : Nat) : Int)) Tryz.underlying79 (isS Tryz.underlying3) (by rw [mu64]; omega)) rfl (R1 x5 rfl (R1 x5 rfl (x7 (by kernel_rfl) (x4 ?_)))))))
   refine C_join (fun (v : Nat) => v = n.natAbs) (fun (v : Nat) => upd (upd (upd (upd (upd (fun _ => none) 0 (some (.val (tI n)))) 1 (some (.val (tI d)))) 4 (some (.own (.ptr 4 0)))) 5 (some (.val (tE (.int .u64 ((v : Nat) : Int)))))) 6 (some (.val (tE (.int .u64 ((d.natAbs : Nat) : Int)))))) (fun (v : Nat) => upd (fun _ => none) 4 (some (⟨31, 4, true, [.val (tFr fr0)]⟩))) (nm [4]) ?_ ?_
   ·
    refine x6 ?_
    refine x8 ?_
    refine R1 x3 rfl (R2 xd8 rfl rfl (x7 (by kernel_rfl) (x4 ?_)))
    refine xc0 rfl (fun h26 => ?_) (fun h26 => ?_)
    ·
     refine x8 ?_
     refine R1 x3 rfl (R1 (d_neg (negU64 (by omega))) rfl (R1 x5 rfl (x7 (by kernel_rfl) ?_)))
     exact xc2 ((18446744073709551616 - (n % 18446744073709551616).toNat) % 18446744073709551616) (by omega) (Sub.int rfl (by first | omega | rfl | (dsimp only; omega)) (Sub.int rfl (by first | omega | rfl | (dsimp only; omega)) (Sub.cons rfl (Sub.int rfl (by first | omega | rfl | (dsimp only; omega)) (Sub.int rfl (by first | omega | rfl | (dsimp only; omega)) Sub.nil))))) ((SubK.consI rfl ImpK.refl) SubK.nil) (SupG.val (SupG.val (SupG.own rfl (SupG.val (SupG.val SupG.nil))))) (SupH.cons rfl (supJL rfl) SupH.nil) (lkOk rfl)
    ·
     refine xa5 ?_
     exact xc2 ((n % 18446744073709551616).toNat) (by omega) (Sub.int rfl (by first | omega | rfl | (dsimp only; omega)) (Sub.int rfl (by first | omega | rfl | (dsimp only; omega)) (Sub.cons rfl (Sub.int rfl (by first | omega | rfl | (dsimp only; omega)) (Sub.int rfl (by first | omega | rfl | (dsimp only; omega)) Sub.nil))))) ((SubK.consI rfl ImpK.refl) SubK.nil) (SupG.val (SupG.val (SupG.own rfl (SupG.val (SupG.val SupG.nil))))) (SupH.cons rfl (supJL rfl) SupH.nil) (lkOk rfl)
   ·
    intro v hv
    refine x6 (xb3 ?_)
    refine xe1 (fun (fm : (Nat) × (Nat)) => (fun (a : Nat) (b : Nat) => Nat.gcd a b = Nat.gcd v d.natAbs ∧ a < 18446744073709551616 ∧ b < 18446744073709551616) fm.1 fm.2) (fun (fm : (Nat) × (Nat)) => (fun (a : Nat) (b : Nat) => upd (upd (upd (upd (upd (fun _ => none) 0 (some (.val (tI n)))) 1 (some (.val (tI d)))) 4 (some (.own (.ptr 4 0)))) 5 (some (.val (tE (.int .u64 ((a : Nat) : Int)))))) 6 (some (.val (tE (.int .u64 ((b : Nat) : Int)))))) fm.1 fm.2) (fun (fm : (Nat) × (Nat)) => (fun (a : Nat) (b : Nat) => upd (fun _ => none) 4 (some (⟨31, 4, true, [.val (tFr fr0)]⟩))) fm.1 fm.2) (nm [4]) (fun (fm : (Nat) × (Nat)) => (fun (a : Nat) (b : Nat) => b) fm.1 fm.2) ((v, d.natAbs)) (by dsimp only; exact ⟨rfl, by omega, by omega⟩) (Sub.int rfl (by first | omega | rfl | (dsimp only; omega)) (Sub.int rfl (by first | omega | rfl | (dsimp only; omega)) (Sub.cons rfl (Sub.int rfl (by first | omega | rfl | (dsimp only; omega)) (Sub.int rfl (by first | omega | rfl | (dsimp only; omega)) Sub.nil))))) ((SubK.consI rfl ImpK.refl) SubK.nil) (SupG.val (SupG.val (SupG.own rfl (SupG.val (SupG.val SupG.nil))))) (SupH.cons rfl (supJL rfl) SupH.nil) (lkOk rfl) ?_
    intro fm hI
    obtain ⟨a, b⟩ := fm
    replace hI : Nat.gcd a b = Nat.gcd v d.natAbs ∧ a < 18446744073709551616 ∧ b < 18446744073709551616 := hI
    show wc _ _ _ _ (upd (upd (upd (upd (upd (fun _ => none) 0 (some (.val (tI n)))) 1 (some (.val (tI d)))) 4 (some (.own (.ptr 4 0)))) 5 (some (.val (tE (.int .u64 ((a : Nat) : Int)))))) 6 (some (.val (tE (.int .u64 ((b : Nat) : Int)))))) (upd (fun _ => none) 4 (some (⟨31, 4, true, [.val (tFr fr0)]⟩))) _
    obtain ⟨hg, ha64, hb64⟩ := hI
    refine x6 (x6 ?_)
    refine x8 ?_
    refine R1 x3 rfl (R2 d_gtr rfl rfl (x7 (by kernel_rfl) (x4 ?_)))
    refine xc0 rfl (fun h29 => ?_) (fun h29 => ?_)
    ·
     refine xa5 (x4 (xb3 ?_))
     refine xd5 mixed ?_
     refine R1 x3 rfl (R1 x3 rfl (R1 x3 rfl (R2 (d_rem (r := ((a % b : Nat) : Int)) (by omega) wrem64) rfl rfl (R1 x5 rfl (R1 x5 rfl (xd6 (by kernel_rfl) (xc1 ?_)))))))
     have hbp : 0 < b := by omega
     have hlt := Nat.mod_lt a hbp
     exact xc2 ((b, a % b)) ⟨(by dsimp only; exact ⟨by rw [Nat.gcd_comm b, ← Nat.gcd_rec, Nat.gcd_comm]; exact hg, hb64, by omega⟩), (by dsimp only; omega)⟩ (Sub.int rfl (by first | omega | rfl | (dsimp only; omega)) (Sub.int rfl (by first | omega | rfl | (dsimp only; omega)) (Sub.cons rfl (Sub.int rfl (by first | omega | rfl | (dsimp only; omega)) (Sub.int rfl (by first | omega | rfl | (dsimp only; omega)) Sub.nil))))) ((SubK.consI rfl ImpK.refl) SubK.nil) (SupG.val (SupG.val (SupG.own rfl (SupG.val (SupG.val SupG.nil))))) (SupH.cons rfl (supJL rfl) SupH.nil) (lkOk rfl)
    ·
     refine xd4 (xb8 (xb8 (xe0 (x4 (x6 ?_)))))
     have hb0 : b = 0 := by omega
     subst hb0
     rw [Nat.gcd_zero_right, hv] at hg
     obtain ⟨g1, g2, g3, g4, g5, g6, g7, g8, g9, g10⟩ := gcd_facts (n := n) hd hg
     refine xd5 mixed ?_
     refine R1 x3 rfl (R1 x3 rfl (R1 (xb1 (r := (a : Int)) Tryz.underlying3 (isS Tryz.underlying79) (wr64 (by omega) (by omega))) rfl (R2 (d_quo (r := n / (a : Int)) (by omega) (by rw [g3]; exact wr64 (by omega) (by omega))) rfl rfl (R1 (xa0 (c_KWhole _ (by omega) (by omega)) fi43 rfl) rfl (R1 x3 rfl (R1 x3 rfl (R1 (xb1 (r := (a : Int)) Tryz.underlying3 (isS Tryz.underlying79) (wr64 (by omega) (by omega))) rfl ?_)))))))
     refine R2 (d_quo (r := d / (a : Int)) (by omega) (by rw [g4]; exact wr64 (by omega) (by omega))) rfl rfl (R1 (xa0 (c_KWhole _ (by omega) (by omega)) fi43 rfl) rfl (R2 (xc8 (r := tS [⟨2, true, tWh (wh (n / (a : Int)))⟩, ⟨2, true, tWh (wh (d / (a : Int)))⟩]) (ts := [(0, tWh (wh (n / (a : Int)))), (1, tWh (wh (d / (a : Int))))]) bu31 zr31.2 ⟨_, rfl⟩ rfl ⟨_, _, _, _, rfl, Up.f (fs := [⟨2, true, (tS [⟨1, false, (tE (.bool false))⟩, ⟨1, false, (tLm [])⟩])⟩, ⟨2, true, (tS [⟨1, false, (tE (.bool false))⟩, ⟨1, false, (tLm [])⟩])⟩]) (f := ⟨2, true, (tS [⟨1, false, (tE (.bool false))⟩, ⟨1, false, (tLm [])⟩])⟩) (fs' := [⟨2, true, tWh (wh (n / (a : Int)))⟩, ⟨2, true, (tS [⟨1, false, (tE (.bool false))⟩, ⟨1, false, (tLm [])⟩])⟩]) 0 rfl rfl rfl, inferInstance, ⟨_, _, _, _, rfl, Up.f (fs := [⟨2, true, tWh (wh (n / (a : Int)))⟩, ⟨2, true, (tS [⟨1, false, (tE (.bool false))⟩, ⟨1, false, (tLm [])⟩])⟩]) (f := ⟨2, true, (tS [⟨1, false, (tE (.bool false))⟩, ⟨1, false, (tLm [])⟩])⟩) (fs' := [⟨2, true, tWh (wh (n / (a : Int)))⟩, ⟨2, true, tWh (wh (d / (a : Int)))⟩]) 1 rfl rfl rfl, inferInstance, Le.refl⟩⟩) rfl rfl (RE (xa3 (es := 4) (agg := true) (0) ti31 rfl rfl rfl) ⟨rfl, rfl, trivial⟩ ⟨rfl, trivial⟩ trivial (xd6 (by kernel_rfl) (x4 (xa1 ?_))))))
     exact xg4 Plain.mk' rfl ⟨_, _, _, _, _, rfl, rfl, ti31, (Le.of (by rw [kfr_big hd, g5]))⟩
end An.S

/- Layer 5: values and timelines. -/
namespace An.S
open Go Go.Proofs An
set_option maxHeartbeats 2000000
theorem fi17 : FnI Tryz.prog 17 := ⟨_, Tryz.func17, by kernel_rfl, rfl⟩
theorem fi105 : FnI Tryz.prog 105 := ⟨_, Tryz.func105, by kernel_rfl, rfl⟩
theorem zr39 : (Tryz.prog.info? 39).bind (·.zero) = some (.agg #[.int .u8 0, .bool false, .slice none 0 0, .bool false, .slice none 0 0, .int .i64 0]) ∧ ∀ F w, (tS [⟨1, false, (tE (.int .u8 0))⟩, ⟨4, true, (tS [⟨2, true, (tS [⟨1, false, (tE (.bool false))⟩, ⟨1, false, (tLm [])⟩])⟩, ⟨2, true, (tS [⟨1, false, (tE (.bool false))⟩, ⟨1, false, (tLm [])⟩])⟩])⟩, ⟨1, false, (tE (.int .i64 0))⟩]).p F w (.agg #[.int .u8 0, .bool false, .slice none 0 0, .bool false, .slice none 0 0, .int .i64 0]) := ⟨by kernel_rfl, fun _ _ => ⟨_, rfl, rfl, ⟨fun _ => rfl, rfl⟩, ⟨fun h => Bool.noConfusion h, ⟨_, rfl, rfl, ⟨fun h => Bool.noConfusion h, ⟨_, rfl, rfl, ⟨fun _ => rfl, rfl⟩, ⟨fun _ => rfl, ⟨none, 0, rfl, Nat.le_refl _, by decide, .inl rfl⟩⟩, trivial⟩⟩, ⟨fun h => Bool.noConfusion h, ⟨_, rfl, rfl, ⟨fun _ => rfl, rfl⟩, ⟨fun _ => rfl, ⟨none, 0, rfl, Nat.le_refl _, by decide, .inl rfl⟩⟩, trivial⟩⟩, trivial⟩⟩, ⟨fun _ => rfl, rfl⟩, trivial⟩⟩
theorem bu39 : BuI Tryz.prog 39 (fun i => [(0, 1), (1, 4), (5, 1)][i]?) (.agg #[.int .u8 0, .bool false, .slice none 0 0, .bool false, .slice none 0 0, .int .i64 0]) := BuI.struct Tryz.underlying39 (by kernel_rfl) (by kernel_rfl)
theorem c_Num (n d : Int) (h1 : -9223372036854775808 ≤ n) (h2 : n ≤ 9223372036854775807) (h3 : -9223372036854775808 ≤ d) (h4 : d ≤ 9223372036854775807) :
  Ct Tryz.prog 23 [tI n, tI d] (tVa ⟨2, fr (kfr n d), 0⟩) := by
 refine Ct.intro Tryz.func23 rfl Tryz.ntmps23 rfl ?_
 intro w F
 refine x6 ?_
 refine x8 ?_
 refine RE (xb4 (k := 4) (n := 6) (agg := true) zr39.1 zr39.2 rfl) trivial trivial ⟨rfl, trivial⟩ (x7 (by kernel_rfl) (x4 (x6 ?_)))
 refine x8 ?_
 refine R1 x3 rfl (R1 x3 rfl (R2 (xa0 (c_KFrac n d h1 h2 h3 h4) fi17 rfl) rfl rfl (R2 (xc8 (r := tS [⟨1, false, tE (.int .u8 2)⟩, ⟨4, true, tFr (fr (kfr n d))⟩, ⟨1, false, (tE (.int .i64 0))⟩]) (ts := [(0, tE (.int .u8 2)), (1, tFr (fr (kfr n d)))]) bu39 zr39.2 ⟨_, rfl⟩ rfl ⟨_, _, _, _, rfl, Up.f (fs := [⟨1, false, (tE (.int .u8 0))⟩, ⟨4, true, (tS [⟨2, true, (tS [⟨1, false, (tE (.bool false))⟩, ⟨1, false, (tLm [])⟩])⟩, ⟨2, true, (tS [⟨1, false, (tE (.bool false))⟩, ⟨1, false, (tLm [])⟩])⟩])⟩, ⟨1, false, (tE (.int .i64 0))⟩]) (f := ⟨1, false, (tE (.int .u8 0))⟩) (fs' := [⟨1, false, tE (.int .u8 2)⟩, ⟨4, true, (tS [⟨2, true, (tS [⟨1, false, (tE (.bool false))⟩, ⟨1, false, (tLm [])⟩])⟩, ⟨2, true, (tS [⟨1, false, (tE (.bool false))⟩, ⟨1, false, (tLm [])⟩])⟩])⟩, ⟨1, false, (tE (.int .i64 0))⟩]) 0 rfl rfl rfl, inferInstance, ⟨_, _, _, _, rfl, Up.f (fs := [⟨1, false, tE (.int .u8 2)⟩, ⟨4, true, (tS [⟨2, true, (tS [⟨1, false, (tE (.bool false))⟩, ⟨1, false, (tLm [])⟩])⟩, ⟨2, true, (tS [⟨1, false, (tE (.bool false))⟩, ⟨1, false, (tLm [])⟩])⟩])⟩, ⟨1, false, (tE (.int .i64 0))⟩]) (f := ⟨4, true, (tS [⟨2, true, (tS [⟨1, false, (tE (.bool false))⟩, ⟨1, false, (tLm [])⟩])⟩, ⟨2, true, (tS [⟨1, false, (tE (.bool false))⟩, ⟨1, false, (tLm [])⟩])⟩])⟩) (fs' := [⟨1, false, tE (.int .u8 2)⟩, ⟨4, true, tFr (fr (kfr n d))⟩, ⟨1, false, (tE (.int .i64 0))⟩]) 1 rfl rfl rfl, inferInstance, Le.refl⟩⟩) rfl rfl (RE (xa3 (es := 6) (agg := true) (0) ti39 rfl rfl rfl) ⟨rfl, rfl, trivial⟩ ⟨rfl, trivial⟩ trivial (x7 (by kernel_rfl) (x4 (xa1 ?_)))))))
 exact xg4 Plain.mk' rfl ⟨_, _, _, _, _, rfl, rfl, ti39, (Le.of rfl)⟩
theorem c_Cash (n d : Int) (h1 : -9223372036854775808 ≤ n) (h2 : n ≤ 9223372036854775807) (h3 : -9223372036854775808 ≤ d) (h4 : d ≤ 9223372036854775807) :
  Ct Tryz.prog 22 [tI n, tI d] (tVa ⟨3, fr (kfr n d), 0⟩) := by
 refine Ct.intro Tryz.func22 rfl Tryz.ntmps22 rfl ?_
 intro w F
 refine x6 ?_
 refine x8 ?_
 refine RE (xb4 (k := 4) (n := 6) (agg := true) zr39.1 zr39.2 rfl) trivial trivial ⟨rfl, trivial⟩ (x7 (by kernel_rfl) (x4 (x6 ?_)))
 refine x8 ?_
 refine R1 x3 rfl (R1 x3 rfl (R2 (xa0 (c_KFrac n d h1 h2 h3 h4) fi17 rfl) rfl rfl (R2 (xc8 (r := tS [⟨1, false, tE (.int .u8 3)⟩, ⟨4, true, tFr (fr (kfr n d))⟩, ⟨1, false, (tE (.int .i64 0))⟩]) (ts := [(0, tE (.int .u8 3)), (1, tFr (fr (kfr n d)))]) bu39 zr39.2 ⟨_, rfl⟩ rfl ⟨_, _, _, _, rfl, Up.f (fs := [⟨1, false, (tE (.int .u8 0))⟩, ⟨4, true, (tS [⟨2, true, (tS [⟨1, false, (tE (.bool false))⟩, ⟨1, false, (tLm [])⟩])⟩, ⟨2, true, (tS [⟨1, false, (tE (.bool false))⟩, ⟨1, false, (tLm [])⟩])⟩])⟩, ⟨1, false, (tE (.int .i64 0))⟩]) (f := ⟨1, false, (tE (.int .u8 0))⟩) (fs' := [⟨1, false, tE (.int .u8 3)⟩, ⟨4, true, (tS [⟨2, true, (tS [⟨1, false, (tE (.bool false))⟩, ⟨1, false, (tLm [])⟩])⟩, ⟨2, true, (tS [⟨1, false, (tE (.bool false))⟩, ⟨1, false, (tLm [])⟩])⟩])⟩, ⟨1, false, (tE (.int .i64 0))⟩]) 0 rfl rfl rfl, inferInstance, ⟨_, _, _, _, rfl, Up.f (fs := [⟨1, false, tE (.int .u8 3)⟩, ⟨4, true, (tS [⟨2, true, (tS [⟨1, false, (tE (.bool false))⟩, ⟨1, false, (tLm [])⟩])⟩, ⟨2, true, (tS [⟨1, false, (tE (.bool false))⟩, ⟨1, false, (tLm [])⟩])⟩])⟩, ⟨1, false, (tE (.int .i64 0))⟩]) (f := ⟨4, true, (tS [⟨2, true, (tS [⟨1, false, (tE (.bool false))⟩, ⟨1, false, (tLm [])⟩])⟩, ⟨2, true, (tS [⟨1, false, (tE (.bool false))⟩, ⟨1, false, (tLm [])⟩])⟩])⟩) (fs' := [⟨1, false, tE (.int .u8 3)⟩, ⟨4, true, tFr (fr (kfr n d))⟩, ⟨1, false, (tE (.int .i64 0))⟩]) 1 rfl rfl rfl, inferInstance, Le.refl⟩⟩) rfl rfl (RE (xa3 (es := 6) (agg := true) (0) ti39 rfl rfl rfl) ⟨rfl, rfl, trivial⟩ ⟨rfl, trivial⟩ trivial (x7 (by kernel_rfl) (x4 (xa1 ?_)))))))
 exact xg4 Plain.mk' rfl ⟨_, _, _, _, _, rfl, rfl, ti39, (Le.of rfl)⟩
theorem c_TSame (x y : Va) :
  Ct Tryz.prog 81 [tVa x, tVa y] (tB (decide (x = y))) := by
 refine Ct.intro Tryz.func81 rfl Tryz.ntmps81 rfl ?_
 intro w F
 refine x6 ?_
 refine x8 ?_
 refine RE (xc9 (k := 2) ti39 rfl) ⟨rfl, trivial⟩ trivial ⟨rfl, trivial⟩ (RE (xc9 (k := 3) ti39 rfl) ⟨rfl, trivial⟩ trivial ⟨rfl, trivial⟩ (R1 x5 rfl (x7 (by kernel_rfl) (x4 (x6 ?_)))))
 refine x8 ?_
 refine R1 (x9 fo39_0 rfl) rfl (xa6 (0) ti5 rfl rfl rfl (At.g 0 rfl rfl) rfl (R1 (x9 fo39_0 rfl) rfl (xa6 (0) ti5 rfl rfl rfl (At.g 0 rfl rfl) rfl (R2 xe3 rfl rfl (R1 x3 rfl ?_)))))
 refine RGcaseD (t := 10) rfl (fun h34 => ?_) (fun h34 => ?_)
 ·
  refine RGon (decide_eq_true h34) rfl (x9 fo39_2 rfl) rfl ⟨rfl, trivial⟩ trivial trivial (xb7 (decide_eq_true h34) rfl rfl (0) ti3 rfl rfl rfl (At.g 2 rfl rfl) rfl (RGon (decide_eq_true h34) rfl (x9 fo39_2 rfl) rfl ⟨rfl, trivial⟩ trivial trivial (xb7 (decide_eq_true h34) rfl rfl (0) ti3 rfl rfl rfl (At.g 2 rfl rfl) rfl (RGon (decide_eq_true h34) rfl xe3 rfl ⟨rfl, rfl, trivial⟩ trivial trivial (R2 (xb2 (decide_eq_true h34)) rfl rfl (R1 x3 rfl ?_))))))
  refine RGcaseD (t := 17) rfl (fun h34_2 => ?_) (fun h34_2 => ?_)
  ·
   refine RGon (decide_eq_true h34_2) rfl (x9 fo39_1 rfl) rfl ⟨rfl, trivial⟩ trivial trivial (xb7 (decide_eq_true h34_2) rfl rfl (0) ti31 rfl rfl rfl (At.g 1 rfl rfl) rfl (RGon (decide_eq_true h34_2) rfl (x9 fo39_1 rfl) rfl ⟨rfl, trivial⟩ trivial trivial (xb7 (decide_eq_true h34_2) rfl rfl (0) ti31 rfl rfl rfl (At.g 1 rfl rfl) rfl (RGon (decide_eq_true h34_2) rfl (xa0 (c_FSame _ _) fi105 rfl) rfl ⟨rfl, rfl, trivial⟩ trivial trivial (R2 (xb2 (decide_eq_true h34_2)) rfl rfl (R1 x5 rfl (x7 (by kernel_rfl) ?_)))))))
   refine x4 (xa1 ?_)
   exact xa4 Plain.mk' rfl rfl (Le.bool (by obtain ⟨a, b, e⟩ := x; obtain ⟨c, d, f⟩ := y; simp only [Va.mk.injEq] at *; simp_all <;> omega))
  ·
   refine RGoff (decide_eq_false h34_2) rfl rfl (RGoff (decide_eq_false h34_2) rfl rfl (RGoff (decide_eq_false h34_2) rfl rfl (RGoff (decide_eq_false h34_2) rfl rfl (RGoff (decide_eq_false h34_2) rfl rfl (R2 (xb0 (decide_eq_false h34_2)) rfl rfl (R1 x5 rfl (x7 (by kernel_rfl) ?_)))))))
   refine x4 (xa1 ?_)
   exact xa4 Plain.mk' rfl rfl (Le.bool (by obtain ⟨a, b, e⟩ := x; obtain ⟨c, d, f⟩ := y; simp only [Va.mk.injEq] at *; simp_all <;> omega))
 ·
  refine RGoff (decide_eq_false h34) rfl rfl (RGoff (decide_eq_false h34) rfl rfl (RGoff (decide_eq_false h34) rfl rfl (RGoff (decide_eq_false h34) rfl rfl (RGoff (decide_eq_false h34) rfl rfl (R2 (xb0 (decide_eq_false h34)) rfl rfl (R1 x3 rfl (RGoff0 rfl rfl ?_)))))))
  refine RGoff0 rfl rfl (RGoff0 rfl rfl (RGoff0 rfl rfl (RGoff0 rfl rfl (R2 (xb0 rfl) rfl rfl (R1 x5 rfl (x7 (by kernel_rfl) (x4 ?_)))))))
  refine xa1 ?_
  exact xa4 Plain.mk' rfl rfl (Le.bool (by obtain ⟨a, b, e⟩ := x; obtain ⟨c, d, f⟩ := y; simp only [Va.mk.injEq] at *; simp_all <;> omega))
theorem c_isPart (a b : Int) :
  Ct Tryz.prog 55 [tI a, tI b] (tB (Sn.ok ⟨a, b⟩)) := by
 refine Ct.intro Tryz.func55 rfl Tryz.ntmps55 rfl ?_
 intro w F
 refine x6 ?_
 refine x8 ?_
 refine R1 x5 rfl (x7 (by kernel_rfl) (x4 (x6 ?_)))
 refine x8 ?_
 refine R1 x3 rfl (R2 xf5 rfl rfl (R1 x3 rfl ?_))
 refine RGcaseD (t := 7) rfl (fun h56 => ?_) (fun h56 => ?_)
 ·
  refine RGon (decide_eq_true h56) rfl x3 rfl ⟨rfl, trivial⟩ trivial trivial (RGon (decide_eq_true h56) rfl x3 rfl ⟨rfl, trivial⟩ trivial trivial (RGon (decide_eq_true h56) rfl xf5 rfl ⟨rfl, rfl, trivial⟩ trivial trivial (R2 (xb2 (decide_eq_true h56)) rfl rfl (R1 x3 rfl ?_))))
  refine RGcaseD (t := 12) rfl (fun h56_2 => ?_) (fun h56_2 => ?_)
  ·
   refine RGon (decide_eq_true h56_2) rfl x3 rfl ⟨rfl, trivial⟩ trivial trivial (RGon (decide_eq_true h56_2) rfl xf5 rfl ⟨rfl, rfl, trivial⟩ trivial trivial (R2 (xb2 (decide_eq_true h56_2)) rfl rfl (R1 x5 rfl (x7 (by kernel_rfl) (x4 (xa1 ?_))))))
   exact xa4 Plain.mk' rfl rfl (Le.bool (by simp [Sn.ok, *]))
  ·
   refine RGoff (decide_eq_false h56_2) rfl rfl (RGoff (decide_eq_false h56_2) rfl rfl (R2 (xb0 (decide_eq_false h56_2)) rfl rfl (R1 x5 rfl (x7 (by kernel_rfl) (x4 (xa1 ?_))))))
   exact xa4 Plain.mk' rfl rfl (Le.bool (by simp [Sn.ok, *]))
 ·
  refine RGoff (decide_eq_false h56) rfl rfl (RGoff (decide_eq_false h56) rfl rfl (RGoff (decide_eq_false h56) rfl rfl (R2 (xb0 (decide_eq_false h56)) rfl rfl (R1 x3 rfl (RGoff0 rfl rfl (RGoff0 rfl rfl (R2 (xb0 rfl) rfl rfl ?_)))))))
  refine R1 x5 rfl (x7 (by kernel_rfl) (x4 (xa1 ?_)))
  exact xa4 Plain.mk' rfl rfl (Le.bool (by simp [Sn.ok, *]))
theorem upN (v : Va) : Up (tVa v) (1 + (0 + 1)) 1 false (tLm v.f.n.l) (tVa v) :=
  Up.t (t1 := tFr v.f) (t1' := tFr v.f) (At.g 1 rfl rfl) (Up.f (f := ⟨4, true, tFr v.f⟩) 1 rfl rfl rfl) (Up.t (t1 := tWh v.f.n) (t1' := tWh v.f.n) (At.g 0 rfl rfl) (Up.f (f := ⟨2, true, tWh v.f.n⟩) 0 rfl rfl rfl) (Up.f (f := ⟨1, false, tLm v.f.n.l⟩) 1 rfl rfl rfl))
theorem upD (v : Va) : Up (tVa v) (1 + (2 + 1)) 1 false (tLm v.f.d.l) (tVa v) :=
  Up.t (t1 := tFr v.f) (t1' := tFr v.f) (At.g 1 rfl rfl) (Up.f (f := ⟨4, true, tFr v.f⟩) 1 rfl rfl rfl) (Up.t (t1 := tWh v.f.d) (t1' := tWh v.f.d) (At.g 1 rfl rfl) (Up.f (f := ⟨2, true, tWh v.f.d⟩) 1 rfl rfl rfl) (Up.f (f := ⟨1, false, tLm v.f.d.l⟩) 1 rfl rfl rfl))
theorem c_copied (v : Va) (h1 : v.f.n.l.length ≤ 1000000) (h2 : v.f.d.l.length ≤ 1000000) :
  Ct Tryz.prog 91 [tVa v] (tVa v) := by
 refine Ct.intro Tryz.func91 rfl Tryz.ntmps91 rfl ?_
 intro w F
 refine x6 ?_
 refine x8 ?_
 refine RE (xc9 (k := 1) ti39 rfl) ⟨rfl, trivial⟩ trivial ⟨rfl, trivial⟩ (RE (xb4 (k := 2) (n := 6) (agg := true) zr39.1 zr39.2 rfl) trivial trivial ⟨rfl, trivial⟩ (x7 (by kernel_rfl) (x4 (x6 ?_))))
 refine x8 ?_
 refine R1 (x9 fo39_1 rfl) rfl (R1 (x9 fo31_0 rfl) rfl (R1 (x9 fo29_1 rfl) rfl (xa6 (0) ti22 rfl rfl rfl (At.t (At.g 1 rfl rfl) (At.t (At.g 0 rfl rfl) (At.g 1 rfl rfl))) rfl (R1 (xa0 (c_clone16V _ h1) fi101 rfl) rfl (R1 (x9 fo39_1 rfl) rfl (R1 (x9 fo31_0 rfl) rfl (R1 (x9 fo29_1 rfl) rfl ?_)))))))
 refine RE (d_storeF (k := 1) (T0 := 39) (es := 6) (ts := [.val (tVa v)]) (0) ti22 rfl (upN v) rfl rfl) ⟨rfl, rfl, trivial⟩ ⟨rfl, trivial⟩ trivial (x7 (by kernel_rfl) (x4 (x6 ?_)))
 refine x8 ?_
 refine R1 (x9 fo39_1 rfl) rfl (R1 (x9 fo31_1 rfl) rfl (R1 (x9 fo29_1 rfl) rfl (xa6 (0) ti22 rfl rfl rfl (At.t (At.g 1 rfl rfl) (At.t (At.g 1 rfl rfl) (At.g 1 rfl rfl))) rfl (R1 (xa0 (c_clone16V _ h2) fi101 rfl) rfl (R1 (x9 fo39_1 rfl) rfl (R1 (x9 fo31_1 rfl) rfl (R1 (x9 fo29_1 rfl) rfl ?_)))))))
 refine RE (d_storeF (k := 1) (T0 := 39) (es := 6) (ts := [.val (tVa v)]) (0) ti22 rfl (upD v) rfl rfl) ⟨rfl, rfl, trivial⟩ ⟨rfl, trivial⟩ trivial (x7 (by kernel_rfl) (x4 (x6 ?_)))
 refine x8 ?_
 refine RE (xa8 (0) ti39 rfl rfl) ⟨rfl, trivial⟩ ⟨rfl, trivial⟩ trivial (RE (xa3 (es := 6) (agg := true) (0) ti39 rfl rfl rfl) ⟨rfl, rfl, trivial⟩ ⟨rfl, trivial⟩ trivial (x7 (by kernel_rfl) (x4 (xa1 ?_))))
 exact xg4 Plain.mk' rfl ⟨_, _, _, _, _, rfl, rfl, ti39, Le.refl⟩
theorem va23 {v : Va} {b : Bool} (h : (v.kind : Int) = 2 ∨ (v.kind : Int) = 3) (hb : b = (decide (v.i = 0) && v.f.valid)) : b = v.valid := by
  rw [Va.valid, if_pos (by omega)]; exact hb
theorem va1 {v : Va} {b : Bool} (h : (v.kind : Int) = 1) (hb : b = (decide (v.f = fr0) && decide (0 ≤ v.i) && decide (v.i ≤ 1))) : b = v.valid := by
  rw [Va.valid, if_neg (by omega), if_pos (by omega)]; exact hb
theorem va4 {v : Va} {b : Bool} (h : (v.kind : Int) = 4) (hb : b = (decide (v.f = fr0) && decide (0 ≤ v.i) && decide (v.i < 65536))) : b = v.valid := by
  rw [Va.valid, if_neg (by omega), if_neg (by omega), if_pos (by omega)]; exact hb
theorem va56 {v : Va} {b : Bool} (h : (v.kind : Int) = 5 ∨ (v.kind : Int) = 6) (hb : b = (decide (v.f = fr0) && decide (-1048576 ≤ v.i) && decide (v.i ≤ 1048576))) : b = v.valid := by
  rw [Va.valid, if_neg (by omega), if_neg (by omega), if_neg (by omega), if_pos (by omega)]; exact hb
theorem va0 {v : Va} (h1 : ¬ ((v.kind : Int) = 2 ∨ (v.kind : Int) = 3)) (h2 : ¬ (v.kind : Int) = 1) (h3 : ¬ (v.kind : Int) = 4) (h4 : ¬ ((v.kind : Int) = 5 ∨ (v.kind : Int) = 6)) : false = v.valid := by
  rw [Va.valid, if_neg (by omega), if_neg (by omega), if_neg (by omega), if_neg (by omega)]
theorem c_TValid (v : Va) (hD : v.f.dig) :
  Ct Tryz.prog 84 [tVa v] (tB v.valid) := by
 refine Ct.intro Tryz.func84 rfl Tryz.ntmps84 rfl ?_
 intro w F
 refine x6 ?_
 refine x8 ?_
 refine RE (xc9 (k := 1) ti39 rfl) ⟨rfl, trivial⟩ trivial ⟨rfl, trivial⟩ (R1 x5 rfl (x7 (by kernel_rfl) (x4 (x6 (x6 ?_)))))
 refine x8 ?_
 refine R1 (x9 fo39_0 rfl) rfl (xa6 (0) ti5 rfl rfl rfl (At.g 0 rfl rfl) rfl (x7 (by kernel_rfl) (x4 (xb3 (x6 (x6 ?_))))))
 refine x8 ?_
 refine R2 xe3 rfl rfl (R1 x5 rfl (x7 (by kernel_rfl) (x4 ?_)))
 refine xc0 rfl (fun h20 => ?_) (fun h20 => ?_)
 ·
  refine xa5 (x4 ?_)
  refine xc0 rfl (fun h20_2 => ?_) (fun h20_2 => ?_)
  ·
   refine x6 ?_
   refine x8 ?_
   refine R1 (x9 fo39_2 rfl) rfl (xa6 (0) ti3 rfl rfl rfl (At.g 2 rfl rfl) rfl (R2 xe3 rfl rfl (R1 x3 rfl ?_)))
   refine RGcaseD (t := 11) rfl (fun h21 => ?_) (fun h21 => ?_)
   ·
    refine RGon (decide_eq_true h21) rfl (x9 fo39_1 rfl) rfl ⟨rfl, trivial⟩ trivial trivial (xb7 (decide_eq_true h21) rfl rfl (0) ti31 rfl rfl rfl (At.g 1 rfl rfl) rfl (RGon (decide_eq_true h21) rfl (xa0 (c_FValid _ hD.1 hD.2) fi28 rfl) rfl ⟨rfl, trivial⟩ trivial trivial (R2 (xb2 (decide_eq_true h21)) rfl rfl (R1 x5 rfl (x7 (by kernel_rfl) (x4 (xa1 ?_)))))))
    refine xc6 (xa7 ?_)
    exact xa4 Plain.mk' rfl rfl (Le.bool (va23 (by omega) (by first | (simp [*]; done) | simp [*])))
   ·
    refine RGoff (decide_eq_false h21) rfl rfl (RGoff (decide_eq_false h21) rfl rfl (RGoff (decide_eq_false h21) rfl rfl (R2 (xb0 (decide_eq_false h21)) rfl rfl (R1 x5 rfl (x7 (by kernel_rfl) (x4 (xa1 ?_)))))))
    refine xc6 (xa7 ?_)
    exact xa4 Plain.mk' rfl rfl (Le.bool (va23 (by omega) (by first | (simp [*]; done) | simp [*])))
  ·
   refine x6 ?_
   refine x8 ?_
   refine R2 xe3 rfl rfl (R1 x5 rfl (x7 (by kernel_rfl) (x4 ?_)))
   refine xc0 rfl (fun h22 => ?_) (fun h22 => ?_)
   ·
    refine x6 ?_
    refine x8 ?_
    refine R1 (x9 fo39_1 rfl) rfl (xa6 (0) ti31 rfl rfl rfl (At.g 1 rfl rfl) rfl (R0 (xc8 (r := tS [⟨2, true, (tS [⟨1, false, (tE (.bool false))⟩, ⟨1, false, (tLm [])⟩])⟩, ⟨2, true, (tS [⟨1, false, (tE (.bool false))⟩, ⟨1, false, (tLm [])⟩])⟩]) (ts := []) bu31 zr31.2 ⟨_, rfl⟩ rfl Le.refl)  (R2 (xa0 (c_FSame _ fr0) fi105 rfl) rfl rfl (R1 x3 rfl ?_))))
    refine RGcaseD (t := 22) rfl (fun h23 => ?_) (fun h23 => ?_)
    ·
     refine RGon (decide_eq_true h23) rfl (x9 fo39_2 rfl) rfl ⟨rfl, trivial⟩ trivial trivial (xb7 (decide_eq_true h23) rfl rfl (0) ti3 rfl rfl rfl (At.g 2 rfl rfl) rfl (RGon (decide_eq_true h23) rfl xf5 rfl ⟨rfl, rfl, trivial⟩ trivial trivial (R2 (xb2 (decide_eq_true h23)) rfl rfl (R1 x3 rfl ?_))))
     refine RGcaseD (t := 27) rfl (fun h23_2 => ?_) (fun h23_2 => ?_)
     ·
      refine RGon (decide_eq_true h23_2) rfl (x9 fo39_2 rfl) rfl ⟨rfl, trivial⟩ trivial trivial (xb7 (decide_eq_true h23_2) rfl rfl (0) ti3 rfl rfl rfl (At.g 2 rfl rfl) rfl (RGon (decide_eq_true h23_2) rfl xf5 rfl ⟨rfl, rfl, trivial⟩ trivial trivial (R2 (xb2 (decide_eq_true h23_2)) rfl rfl (R1 x5 rfl (x7 (by kernel_rfl) (x4 (xa1 ?_)))))))
      refine xc6 (xa7 ?_)
      exact xa4 Plain.mk' rfl rfl (Le.bool (va1 (by omega) (by simp [*])))
     ·
      refine RGoff (decide_eq_false h23_2) rfl rfl (RGoff (decide_eq_false h23_2) rfl rfl (RGoff (decide_eq_false h23_2) rfl rfl (R2 (xb0 (decide_eq_false h23_2)) rfl rfl (R1 x5 rfl (x7 (by kernel_rfl) (x4 (xa1 ?_)))))))
      refine xc6 (xa7 ?_)
      exact xa4 Plain.mk' rfl rfl (Le.bool (va1 (by omega) (by simp [*])))
    ·
     refine RGoff (decide_eq_false h23) rfl rfl (RGoff (decide_eq_false h23) rfl rfl (RGoff (decide_eq_false h23) rfl rfl (R2 (xb0 (decide_eq_false h23)) rfl rfl (R1 x3 rfl (RGoff0 rfl rfl (RGoff0 rfl rfl (RGoff0 rfl rfl ?_)))))))
     refine R2 (xb0 rfl) rfl rfl (R1 x5 rfl (x7 (by kernel_rfl) (x4 (xa1 (xc6 (xa7 ?_))))))
     exact xa4 Plain.mk' rfl rfl (Le.bool (va1 (by omega) (by simp [*])))
   ·
    refine x6 ?_
    refine x8 ?_
    refine R2 xe3 rfl rfl (R1 x5 rfl (x7 (by kernel_rfl) (x4 ?_)))
    refine xc0 rfl (fun h24 => ?_) (fun h24 => ?_)
    ·
     refine x6 ?_
     refine x8 ?_
     refine R1 (x9 fo39_1 rfl) rfl (xa6 (0) ti31 rfl rfl rfl (At.g 1 rfl rfl) rfl (R0 (xc8 (r := tS [⟨2, true, (tS [⟨1, false, (tE (.bool false))⟩, ⟨1, false, (tLm [])⟩])⟩, ⟨2, true, (tS [⟨1, false, (tE (.bool false))⟩, ⟨1, false, (tLm [])⟩])⟩]) (ts := []) bu31 zr31.2 ⟨_, rfl⟩ rfl Le.refl)  (R2 (xa0 (c_FSame _ fr0) fi105 rfl) rfl rfl (R1 x3 rfl ?_))))
     refine RGcaseD (t := 38) rfl (fun h25 => ?_) (fun h25 => ?_)
     ·
      refine RGon (decide_eq_true h25) rfl (x9 fo39_2 rfl) rfl ⟨rfl, trivial⟩ trivial trivial (xb7 (decide_eq_true h25) rfl rfl (0) ti3 rfl rfl rfl (At.g 2 rfl rfl) rfl (RGon (decide_eq_true h25) rfl xf5 rfl ⟨rfl, rfl, trivial⟩ trivial trivial (R2 (xb2 (decide_eq_true h25)) rfl rfl (R1 x3 rfl ?_))))
      refine RGcaseD (t := 43) rfl (fun h25_2 => ?_) (fun h25_2 => ?_)
      ·
       refine RGon (decide_eq_true h25_2) rfl (x9 fo39_2 rfl) rfl ⟨rfl, trivial⟩ trivial trivial (xb7 (decide_eq_true h25_2) rfl rfl (0) ti3 rfl rfl rfl (At.g 2 rfl rfl) rfl (RGon (decide_eq_true h25_2) rfl xd8 rfl ⟨rfl, rfl, trivial⟩ trivial trivial (R2 (xb2 (decide_eq_true h25_2)) rfl rfl (R1 x5 rfl (x7 (by kernel_rfl) (x4 (xa1 ?_)))))))
       refine xc6 (xa7 ?_)
       exact xa4 Plain.mk' rfl rfl (Le.bool (va4 (by omega) (by simp [*])))
      ·
       refine RGoff (decide_eq_false h25_2) rfl rfl (RGoff (decide_eq_false h25_2) rfl rfl (RGoff (decide_eq_false h25_2) rfl rfl (R2 (xb0 (decide_eq_false h25_2)) rfl rfl (R1 x5 rfl (x7 (by kernel_rfl) (x4 (xa1 ?_)))))))
       refine xc6 (xa7 ?_)
       exact xa4 Plain.mk' rfl rfl (Le.bool (va4 (by omega) (by simp [*])))
     ·
      refine RGoff (decide_eq_false h25) rfl rfl (RGoff (decide_eq_false h25) rfl rfl (RGoff (decide_eq_false h25) rfl rfl (R2 (xb0 (decide_eq_false h25)) rfl rfl (R1 x3 rfl (RGoff0 rfl rfl (RGoff0 rfl rfl (RGoff0 rfl rfl ?_)))))))
      refine R2 (xb0 rfl) rfl rfl (R1 x5 rfl (x7 (by kernel_rfl) (x4 (xa1 (xc6 (xa7 ?_))))))
      exact xa4 Plain.mk' rfl rfl (Le.bool (va4 (by omega) (by simp [*])))
    ·
     refine x6 (x6 ?_)
     refine x8 ?_
     refine R2 xe3 rfl rfl (R1 x5 rfl (x7 (by kernel_rfl) (x4 ?_)))
     refine xc0 rfl (fun h26 => ?_) (fun h26 => ?_)
     ·
      refine xa5 (x4 ?_)
      refine xc0 rfl (fun h26_2 => ?_) (fun h26_2 => ?_)
      ·
       refine x6 ?_
       refine x8 ?_
       refine R1 (x9 fo39_1 rfl) rfl (xa6 (0) ti31 rfl rfl rfl (At.g 1 rfl rfl) rfl (R0 (xc8 (r := tS [⟨2, true, (tS [⟨1, false, (tE (.bool false))⟩, ⟨1, false, (tLm [])⟩])⟩, ⟨2, true, (tS [⟨1, false, (tE (.bool false))⟩, ⟨1, false, (tLm [])⟩])⟩]) (ts := []) bu31 zr31.2 ⟨_, rfl⟩ rfl Le.refl)  (R2 (xa0 (c_FSame _ fr0) fi105 rfl) rfl rfl (R1 x3 rfl ?_))))
       refine RGcaseD (t := 55) rfl (fun h27 => ?_) (fun h27 => ?_)
       ·
        refine RGon (decide_eq_true h27) rfl (x9 fo39_2 rfl) rfl ⟨rfl, trivial⟩ trivial trivial (xb7 (decide_eq_true h27) rfl rfl (0) ti3 rfl rfl rfl (At.g 2 rfl rfl) rfl (RGon (decide_eq_true h27) rfl xf5 rfl ⟨rfl, rfl, trivial⟩ trivial trivial (R2 (xb2 (decide_eq_true h27)) rfl rfl (R1 x3 rfl ?_))))
        refine RGcaseD (t := 60) rfl (fun h27_2 => ?_) (fun h27_2 => ?_)
        ·
         refine RGon (decide_eq_true h27_2) rfl (x9 fo39_2 rfl) rfl ⟨rfl, trivial⟩ trivial trivial (xb7 (decide_eq_true h27_2) rfl rfl (0) ti3 rfl rfl rfl (At.g 2 rfl rfl) rfl (RGon (decide_eq_true h27_2) rfl xf5 rfl ⟨rfl, rfl, trivial⟩ trivial trivial (R2 (xb2 (decide_eq_true h27_2)) rfl rfl (R1 x5 rfl (x7 (by kernel_rfl) (x4 (xa1 ?_)))))))
         refine xc6 (xa7 ?_)
         exact xa4 Plain.mk' rfl rfl (Le.bool (va56 (by omega) (by simp [*])))
        ·
         refine RGoff (decide_eq_false h27_2) rfl rfl (RGoff (decide_eq_false h27_2) rfl rfl (RGoff (decide_eq_false h27_2) rfl rfl (R2 (xb0 (decide_eq_false h27_2)) rfl rfl (R1 x5 rfl (x7 (by kernel_rfl) (x4 (xa1 ?_)))))))
         refine xc6 (xa7 ?_)
         exact xa4 Plain.mk' rfl rfl (Le.bool (va56 (by omega) (by simp [*])))
       ·
        refine RGoff (decide_eq_false h27) rfl rfl (RGoff (decide_eq_false h27) rfl rfl (RGoff (decide_eq_false h27) rfl rfl (R2 (xb0 (decide_eq_false h27)) rfl rfl (R1 x3 rfl (RGoff0 rfl rfl (RGoff0 rfl rfl (RGoff0 rfl rfl ?_)))))))
        refine R2 (xb0 rfl) rfl rfl (R1 x5 rfl (x7 (by kernel_rfl) (x4 (xa1 (xc6 (xa7 ?_))))))
        exact xa4 Plain.mk' rfl rfl (Le.bool (va56 (by omega) (by simp [*])))
      ·
       refine xa5 (xc1 (x4 (x6 ?_)))
       refine x8 ?_
       refine R1 x5 rfl (x7 (by kernel_rfl) (x4 (xa1 ?_)))
       exact xa4 Plain.mk' rfl rfl (Le.bool (va0 (by omega) (by omega) (by omega) (by omega)))
     ·
      refine x8 ?_
      refine R2 xe3 rfl rfl (R1 x5 rfl (x7 (by kernel_rfl) (x4 ?_)))
      refine xc0 rfl (fun h26_2 => ?_) (fun h26_2 => ?_)
      ·
       refine x6 ?_
       refine x8 ?_
       refine R1 (x9 fo39_1 rfl) rfl (xa6 (0) ti31 rfl rfl rfl (At.g 1 rfl rfl) rfl (R0 (xc8 (r := tS [⟨2, true, (tS [⟨1, false, (tE (.bool false))⟩, ⟨1, false, (tLm [])⟩])⟩, ⟨2, true, (tS [⟨1, false, (tE (.bool false))⟩, ⟨1, false, (tLm [])⟩])⟩]) (ts := []) bu31 zr31.2 ⟨_, rfl⟩ rfl Le.refl)  (R2 (xa0 (c_FSame _ fr0) fi105 rfl) rfl rfl (R1 x3 rfl ?_))))
       refine RGcaseD (t := 55) rfl (fun h27 => ?_) (fun h27 => ?_)
       ·
        refine RGon (decide_eq_true h27) rfl (x9 fo39_2 rfl) rfl ⟨rfl, trivial⟩ trivial trivial (xb7 (decide_eq_true h27) rfl rfl (0) ti3 rfl rfl rfl (At.g 2 rfl rfl) rfl (RGon (decide_eq_true h27) rfl xf5 rfl ⟨rfl, rfl, trivial⟩ trivial trivial (R2 (xb2 (decide_eq_true h27)) rfl rfl (R1 x3 rfl ?_))))
        refine RGcaseD (t := 60) rfl (fun h27_2 => ?_) (fun h27_2 => ?_)
        ·
         refine RGon (decide_eq_true h27_2) rfl (x9 fo39_2 rfl) rfl ⟨rfl, trivial⟩ trivial trivial (xb7 (decide_eq_true h27_2) rfl rfl (0) ti3 rfl rfl rfl (At.g 2 rfl rfl) rfl (RGon (decide_eq_true h27_2) rfl xf5 rfl ⟨rfl, rfl, trivial⟩ trivial trivial (R2 (xb2 (decide_eq_true h27_2)) rfl rfl (R1 x5 rfl (x7 (by kernel_rfl) (x4 (xa1 ?_)))))))
         refine xc6 (xa7 ?_)
         exact xa4 Plain.mk' rfl rfl (Le.bool (va56 (by omega) (by simp [*])))
        ·
         refine RGoff (decide_eq_false h27_2) rfl rfl (RGoff (decide_eq_false h27_2) rfl rfl (RGoff (decide_eq_false h27_2) rfl rfl (R2 (xb0 (decide_eq_false h27_2)) rfl rfl (R1 x5 rfl (x7 (by kernel_rfl) (x4 (xa1 ?_)))))))
         refine xc6 (xa7 ?_)
         exact xa4 Plain.mk' rfl rfl (Le.bool (va56 (by omega) (by simp [*])))
       ·
        refine RGoff (decide_eq_false h27) rfl rfl (RGoff (decide_eq_false h27) rfl rfl (RGoff (decide_eq_false h27) rfl rfl (R2 (xb0 (decide_eq_false h27)) rfl rfl (R1 x3 rfl (RGoff0 rfl rfl (RGoff0 rfl rfl (RGoff0 rfl rfl ?_)))))))
        refine R2 (xb0 rfl) rfl rfl (R1 x5 rfl (x7 (by kernel_rfl) (x4 (xa1 (xc6 (xa7 ?_))))))
        exact xa4 Plain.mk' rfl rfl (Le.bool (va56 (by omega) (by simp [*])))
      ·
       refine xa5 (xc1 (x4 (x6 ?_)))
       refine x8 ?_
       refine R1 x5 rfl (x7 (by kernel_rfl) (x4 (xa1 ?_)))
       exact xa4 Plain.mk' rfl rfl (Le.bool (va0 (by omega) (by omega) (by omega) (by omega)))
 ·
  refine x8 ?_
  refine R2 xe3 rfl rfl (R1 x5 rfl (x7 (by kernel_rfl) (x4 ?_)))
  refine xc0 rfl (fun h20_2 => ?_) (fun h20_2 => ?_)
  ·
   refine x6 ?_
   refine x8 ?_
   refine R1 (x9 fo39_2 rfl) rfl (xa6 (0) ti3 rfl rfl rfl (At.g 2 rfl rfl) rfl (R2 xe3 rfl rfl (R1 x3 rfl ?_)))
   refine RGcaseD (t := 11) rfl (fun h21 => ?_) (fun h21 => ?_)
   ·
    refine RGon (decide_eq_true h21) rfl (x9 fo39_1 rfl) rfl ⟨rfl, trivial⟩ trivial trivial (xb7 (decide_eq_true h21) rfl rfl (0) ti31 rfl rfl rfl (At.g 1 rfl rfl) rfl (RGon (decide_eq_true h21) rfl (xa0 (c_FValid _ hD.1 hD.2) fi28 rfl) rfl ⟨rfl, trivial⟩ trivial trivial (R2 (xb2 (decide_eq_true h21)) rfl rfl (R1 x5 rfl (x7 (by kernel_rfl) (x4 (xa1 ?_)))))))
    refine xc6 (xa7 ?_)
    exact xa4 Plain.mk' rfl rfl (Le.bool (va23 (by omega) (by first | (simp [*]; done) | simp [*])))
   ·
    refine RGoff (decide_eq_false h21) rfl rfl (RGoff (decide_eq_false h21) rfl rfl (RGoff (decide_eq_false h21) rfl rfl (R2 (xb0 (decide_eq_false h21)) rfl rfl (R1 x5 rfl (x7 (by kernel_rfl) (x4 (xa1 ?_)))))))
    refine xc6 (xa7 ?_)
    exact xa4 Plain.mk' rfl rfl (Le.bool (va23 (by omega) (by first | (simp [*]; done) | simp [*])))
  ·
   refine x6 ?_
   refine x8 ?_
   refine R2 xe3 rfl rfl (R1 x5 rfl (x7 (by kernel_rfl) (x4 ?_)))
   refine xc0 rfl (fun h22 => ?_) (fun h22 => ?_)
   ·
    refine x6 ?_
    refine x8 ?_
    refine R1 (x9 fo39_1 rfl) rfl (xa6 (0) ti31 rfl rfl rfl (At.g 1 rfl rfl) rfl (R0 (xc8 (r := tS [⟨2, true, (tS [⟨1, false, (tE (.bool false))⟩, ⟨1, false, (tLm [])⟩])⟩, ⟨2, true, (tS [⟨1, false, (tE (.bool false))⟩, ⟨1, false, (tLm [])⟩])⟩]) (ts := []) bu31 zr31.2 ⟨_, rfl⟩ rfl Le.refl)  (R2 (xa0 (c_FSame _ fr0) fi105 rfl) rfl rfl (R1 x3 rfl ?_))))
    refine RGcaseD (t := 22) rfl (fun h23 => ?_) (fun h23 => ?_)
    ·
     refine RGon (decide_eq_true h23) rfl (x9 fo39_2 rfl) rfl ⟨rfl, trivial⟩ trivial trivial (xb7 (decide_eq_true h23) rfl rfl (0) ti3 rfl rfl rfl (At.g 2 rfl rfl) rfl (RGon (decide_eq_true h23) rfl xf5 rfl ⟨rfl, rfl, trivial⟩ trivial trivial (R2 (xb2 (decide_eq_true h23)) rfl rfl (R1 x3 rfl ?_))))
     refine RGcaseD (t := 27) rfl (fun h23_2 => ?_) (fun h23_2 => ?_)
     ·
      refine RGon (decide_eq_true h23_2) rfl (x9 fo39_2 rfl) rfl ⟨rfl, trivial⟩ trivial trivial (xb7 (decide_eq_true h23_2) rfl rfl (0) ti3 rfl rfl rfl (At.g 2 rfl rfl) rfl (RGon (decide_eq_true h23_2) rfl xf5 rfl ⟨rfl, rfl, trivial⟩ trivial trivial (R2 (xb2 (decide_eq_true h23_2)) rfl rfl (R1 x5 rfl (x7 (by kernel_rfl) (x4 (xa1 ?_)))))))
      refine xc6 (xa7 ?_)
      exact xa4 Plain.mk' rfl rfl (Le.bool (va1 (by omega) (by simp [*])))
     ·
      refine RGoff (decide_eq_false h23_2) rfl rfl (RGoff (decide_eq_false h23_2) rfl rfl (RGoff (decide_eq_false h23_2) rfl rfl (R2 (xb0 (decide_eq_false h23_2)) rfl rfl (R1 x5 rfl (x7 (by kernel_rfl) (x4 (xa1 ?_)))))))
      refine xc6 (xa7 ?_)
      exact xa4 Plain.mk' rfl rfl (Le.bool (va1 (by omega) (by simp [*])))
    ·
     refine RGoff (decide_eq_false h23) rfl rfl (RGoff (decide_eq_false h23) rfl rfl (RGoff (decide_eq_false h23) rfl rfl (R2 (xb0 (decide_eq_false h23)) rfl rfl (R1 x3 rfl (RGoff0 rfl rfl (RGoff0 rfl rfl (RGoff0 rfl rfl ?_)))))))
     refine R2 (xb0 rfl) rfl rfl (R1 x5 rfl (x7 (by kernel_rfl) (x4 (xa1 (xc6 (xa7 ?_))))))
     exact xa4 Plain.mk' rfl rfl (Le.bool (va1 (by omega) (by simp [*])))
   ·
    refine x6 ?_
    refine x8 ?_
    refine R2 xe3 rfl rfl (R1 x5 rfl (x7 (by kernel_rfl) (x4 ?_)))
    refine xc0 rfl (fun h24 => ?_) (fun h24 => ?_)
    ·
     refine x6 ?_
     refine x8 ?_
     refine R1 (x9 fo39_1 rfl) rfl (xa6 (0) ti31 rfl rfl rfl (At.g 1 rfl rfl) rfl (R0 (xc8 (r := tS [⟨2, true, (tS [⟨1, false, (tE (.bool false))⟩, ⟨1, false, (tLm [])⟩])⟩, ⟨2, true, (tS [⟨1, false, (tE (.bool false))⟩, ⟨1, false, (tLm [])⟩])⟩]) (ts := []) bu31 zr31.2 ⟨_, rfl⟩ rfl Le.refl)  (R2 (xa0 (c_FSame _ fr0) fi105 rfl) rfl rfl (R1 x3 rfl ?_))))
     refine RGcaseD (t := 38) rfl (fun h25 => ?_) (fun h25 => ?_)
     ·
      refine RGon (decide_eq_true h25) rfl (x9 fo39_2 rfl) rfl ⟨rfl, trivial⟩ trivial trivial (xb7 (decide_eq_true h25) rfl rfl (0) ti3 rfl rfl rfl (At.g 2 rfl rfl) rfl (RGon (decide_eq_true h25) rfl xf5 rfl ⟨rfl, rfl, trivial⟩ trivial trivial (R2 (xb2 (decide_eq_true h25)) rfl rfl (R1 x3 rfl ?_))))
      refine RGcaseD (t := 43) rfl (fun h25_2 => ?_) (fun h25_2 => ?_)
      ·
       refine RGon (decide_eq_true h25_2) rfl (x9 fo39_2 rfl) rfl ⟨rfl, trivial⟩ trivial trivial (xb7 (decide_eq_true h25_2) rfl rfl (0) ti3 rfl rfl rfl (At.g 2 rfl rfl) rfl (RGon (decide_eq_true h25_2) rfl xd8 rfl ⟨rfl, rfl, trivial⟩ trivial trivial (R2 (xb2 (decide_eq_true h25_2)) rfl rfl (R1 x5 rfl (x7 (by kernel_rfl) (x4 (xa1 ?_)))))))
       refine xc6 (xa7 ?_)
       exact xa4 Plain.mk' rfl rfl (Le.bool (va4 (by omega) (by simp [*])))
      ·
       refine RGoff (decide_eq_false h25_2) rfl rfl (RGoff (decide_eq_false h25_2) rfl rfl (RGoff (decide_eq_false h25_2) rfl rfl (R2 (xb0 (decide_eq_false h25_2)) rfl rfl (R1 x5 rfl (x7 (by kernel_rfl) (x4 (xa1 ?_)))))))
       refine xc6 (xa7 ?_)
       exact xa4 Plain.mk' rfl rfl (Le.bool (va4 (by omega) (by simp [*])))
     ·
      refine RGoff (decide_eq_false h25) rfl rfl (RGoff (decide_eq_false h25) rfl rfl (RGoff (decide_eq_false h25) rfl rfl (R2 (xb0 (decide_eq_false h25)) rfl rfl (R1 x3 rfl (RGoff0 rfl rfl (RGoff0 rfl rfl (RGoff0 rfl rfl ?_)))))))
      refine R2 (xb0 rfl) rfl rfl (R1 x5 rfl (x7 (by kernel_rfl) (x4 (xa1 (xc6 (xa7 ?_))))))
      exact xa4 Plain.mk' rfl rfl (Le.bool (va4 (by omega) (by simp [*])))
    ·
     refine x6 (x6 ?_)
     refine x8 ?_
     refine R2 xe3 rfl rfl (R1 x5 rfl (x7 (by kernel_rfl) (x4 ?_)))
     refine xc0 rfl (fun h26 => ?_) (fun h26 => ?_)
     ·
      refine xa5 (x4 ?_)
      refine xc0 rfl (fun h26_2 => ?_) (fun h26_2 => ?_)
      ·
       refine x6 ?_
       refine x8 ?_
       refine R1 (x9 fo39_1 rfl) rfl (xa6 (0) ti31 rfl rfl rfl (At.g 1 rfl rfl) rfl (R0 (xc8 (r := tS [⟨2, true, (tS [⟨1, false, (tE (.bool false))⟩, ⟨1, false, (tLm [])⟩])⟩, ⟨2, true, (tS [⟨1, false, (tE (.bool false))⟩, ⟨1, false, (tLm [])⟩])⟩]) (ts := []) bu31 zr31.2 ⟨_, rfl⟩ rfl Le.refl)  (R2 (xa0 (c_FSame _ fr0) fi105 rfl) rfl rfl (R1 x3 rfl ?_))))
       refine RGcaseD (t := 55) rfl (fun h27 => ?_) (fun h27 => ?_)
       ·
        refine RGon (decide_eq_true h27) rfl (x9 fo39_2 rfl) rfl ⟨rfl, trivial⟩ trivial trivial (xb7 (decide_eq_true h27) rfl rfl (0) ti3 rfl rfl rfl (At.g 2 rfl rfl) rfl (RGon (decide_eq_true h27) rfl xf5 rfl ⟨rfl, rfl, trivial⟩ trivial trivial (R2 (xb2 (decide_eq_true h27)) rfl rfl (R1 x3 rfl ?_))))
        refine RGcaseD (t := 60) rfl (fun h27_2 => ?_) (fun h27_2 => ?_)
        ·
         refine RGon (decide_eq_true h27_2) rfl (x9 fo39_2 rfl) rfl ⟨rfl, trivial⟩ trivial trivial (xb7 (decide_eq_true h27_2) rfl rfl (0) ti3 rfl rfl rfl (At.g 2 rfl rfl) rfl (RGon (decide_eq_true h27_2) rfl xf5 rfl ⟨rfl, rfl, trivial⟩ trivial trivial (R2 (xb2 (decide_eq_true h27_2)) rfl rfl (R1 x5 rfl (x7 (by kernel_rfl) (x4 (xa1 ?_)))))))
         refine xc6 (xa7 ?_)
         exact xa4 Plain.mk' rfl rfl (Le.bool (va56 (by omega) (by simp [*])))
        ·
         refine RGoff (decide_eq_false h27_2) rfl rfl (RGoff (decide_eq_false h27_2) rfl rfl (RGoff (decide_eq_false h27_2) rfl rfl (R2 (xb0 (decide_eq_false h27_2)) rfl rfl (R1 x5 rfl (x7 (by kernel_rfl) (x4 (xa1 ?_)))))))
         refine xc6 (xa7 ?_)
         exact xa4 Plain.mk' rfl rfl (Le.bool (va56 (by omega) (by simp [*])))
       ·
        refine RGoff (decide_eq_false h27) rfl rfl (RGoff (decide_eq_false h27) rfl rfl (RGoff (decide_eq_false h27) rfl rfl (R2 (xb0 (decide_eq_false h27)) rfl rfl (R1 x3 rfl (RGoff0 rfl rfl (RGoff0 rfl rfl (RGoff0 rfl rfl ?_)))))))
        refine R2 (xb0 rfl) rfl rfl (R1 x5 rfl (x7 (by kernel_rfl) (x4 (xa1 (xc6 (xa7 ?_))))))
        exact xa4 Plain.mk' rfl rfl (Le.bool (va56 (by omega) (by simp [*])))
      ·
       refine xa5 (xc1 (x4 (x6 ?_)))
       refine x8 ?_
       refine R1 x5 rfl (x7 (by kernel_rfl) (x4 (xa1 ?_)))
       exact xa4 Plain.mk' rfl rfl (Le.bool (va0 (by omega) (by omega) (by omega) (by omega)))
     ·
      refine x8 ?_
      refine R2 xe3 rfl rfl (R1 x5 rfl (x7 (by kernel_rfl) (x4 ?_)))
      refine xc0 rfl (fun h26_2 => ?_) (fun h26_2 => ?_)
      ·
       refine x6 ?_
       refine x8 ?_
       refine R1 (x9 fo39_1 rfl) rfl (xa6 (0) ti31 rfl rfl rfl (At.g 1 rfl rfl) rfl (R0 (xc8 (r := tS [⟨2, true, (tS [⟨1, false, (tE (.bool false))⟩, ⟨1, false, (tLm [])⟩])⟩, ⟨2, true, (tS [⟨1, false, (tE (.bool false))⟩, ⟨1, false, (tLm [])⟩])⟩]) (ts := []) bu31 zr31.2 ⟨_, rfl⟩ rfl Le.refl)  (R2 (xa0 (c_FSame _ fr0) fi105 rfl) rfl rfl (R1 x3 rfl ?_))))
       refine RGcaseD (t := 55) rfl (fun h27 => ?_) (fun h27 => ?_)
       ·
        refine RGon (decide_eq_true h27) rfl (x9 fo39_2 rfl) rfl ⟨rfl, trivial⟩ trivial trivial (xb7 (decide_eq_true h27) rfl rfl (0) ti3 rfl rfl rfl (At.g 2 rfl rfl) rfl (RGon (decide_eq_true h27) rfl xf5 rfl ⟨rfl, rfl, trivial⟩ trivial trivial (R2 (xb2 (decide_eq_true h27)) rfl rfl (R1 x3 rfl ?_))))
        refine RGcaseD (t := 60) rfl (fun h27_2 => ?_) (fun h27_2 => ?_)
        ·
         refine RGon (decide_eq_true h27_2) rfl (x9 fo39_2 rfl) rfl ⟨rfl, trivial⟩ trivial trivial (xb7 (decide_eq_true h27_2) rfl rfl (0) ti3 rfl rfl rfl (At.g 2 rfl rfl) rfl (RGon (decide_eq_true h27_2) rfl xf5 rfl ⟨rfl, rfl, trivial⟩ trivial trivial (R2 (xb2 (decide_eq_true h27_2)) rfl rfl (R1 x5 rfl (x7 (by kernel_rfl) (x4 (xa1 ?_)))))))
         refine xc6 (xa7 ?_)
         exact xa4 Plain.mk' rfl rfl (Le.bool (va56 (by omega) (by simp [*])))
        ·
         refine RGoff (decide_eq_false h27_2) rfl rfl (RGoff (decide_eq_false h27_2) rfl rfl (RGoff (decide_eq_false h27_2) rfl rfl (R2 (xb0 (decide_eq_false h27_2)) rfl rfl (R1 x5 rfl (x7 (by kernel_rfl) (x4 (xa1 ?_)))))))
         refine xc6 (xa7 ?_)
         exact xa4 Plain.mk' rfl rfl (Le.bool (va56 (by omega) (by simp [*])))
       ·
        refine RGoff (decide_eq_false h27) rfl rfl (RGoff (decide_eq_false h27) rfl rfl (RGoff (decide_eq_false h27) rfl rfl (R2 (xb0 (decide_eq_false h27)) rfl rfl (R1 x3 rfl (RGoff0 rfl rfl (RGoff0 rfl rfl (RGoff0 rfl rfl ?_)))))))
        refine R2 (xb0 rfl) rfl rfl (R1 x5 rfl (x7 (by kernel_rfl) (x4 (xa1 (xc6 (xa7 ?_))))))
        exact xa4 Plain.mk' rfl rfl (Le.bool (va56 (by omega) (by simp [*])))
      ·
       refine xa5 (xc1 (x4 (x6 ?_)))
       refine x8 ?_
       refine R1 x5 rfl (x7 (by kernel_rfl) (x4 (xa1 ?_)))
       exact xa4 Plain.mk' rfl rfl (Le.bool (va0 (by omega) (by omega) (by omega) (by omega)))
end An.S

/- Layer 5: timelines are checked; the first step that fits. Plain data. -/
namespace An
open Go
theorem ranges_stop {n i : Nat} {f : Nat → Bool} (hi : i < n) (h : f i = false) : (List.range n).all f = false := by
  rw [List.all_eq_false]
  exact ⟨i, List.mem_range.2 hi, by simp [h]⟩
theorem ranges_next {i : Nat} {f : Nat → Bool} : (List.range (i + 1)).all f = ((List.range i).all f && f i) := by
  rw [List.range_succ, List.all_append]; simp
theorem tOk_iff {l : List Tst} {i : Nat} : tOk l i = true ↔ 0 ≤ (l.getD i tst0).lo ∧ (l.getD i tst0).lo < (l.getD i tst0).hi ∧ (l.getD i tst0).hi ≤ 65536 ∧ (i = 0 ∨ (l.getD (i - 1) tst0).hi ≤ (l.getD i tst0).lo ∧ (l.getD (i - 1) tst0).v.kind = (l.getD i tst0).v.kind ∧ ¬ ((l.getD (i - 1) tst0).hi = (l.getD i tst0).lo ∧ (l.getD (i - 1) tst0).v = (l.getD i tst0).v)) := by
  simp only [tOk, Bool.and_eq_true, Bool.or_eq_true, Bool.not_eq_true', Bool.and_eq_false_iff, decide_eq_true_eq, decide_eq_false_iff_not, and_assoc, Decidable.not_and_iff_not_or_not]
theorem tRight_bad {l : List Tst} {i : Nat} (hi : i < l.length) (h : ¬ (0 ≤ (l.getD i tst0).lo ∧ (l.getD i tst0).lo < (l.getD i tst0).hi ∧ (l.getD i tst0).hi ≤ 65536 ∧ (i = 0 ∨ (l.getD (i - 1) tst0).hi ≤ (l.getD i tst0).lo ∧ (l.getD (i - 1) tst0).v.kind = (l.getD i tst0).v.kind ∧ ¬ ((l.getD (i - 1) tst0).hi = (l.getD i tst0).lo ∧ (l.getD (i - 1) tst0).v = (l.getD i tst0).v)))) : false = tRight l := by
  rw [tRight, ranges_stop hi (Bool.eq_false_iff.2 fun h' => h (tOk_iff.1 h'))]; rfl
/-- The index of the first step that fits, or -1. -/
def ixF (p : Tst → Bool) (l : List Tst) : Int := if l.any p then ((l.takeWhile fun s => !p s).length : Int) else -1
theorem ixF_at {p : Tst → Bool} : ∀ {l : List Tst} {i : Nat}, i < l.length → (l.take i).any p = false → p (l.getD i tst0) = true → (i : Int) = ixF p l
  | [], i, hi, _, _ => by simp at hi
  | x :: xs, 0, _, _, h => by
    have h : p x = true := h
    simp [ixF, h]
  | x :: xs, i + 1, hi, ha, h => by
    simp only [List.take_succ_cons, List.any_cons, Bool.or_eq_false_iff] at ha
    have h2 : p (xs.getD i tst0) = true := by simpa using h
    have hi2 : i < xs.length := by simpa using hi
    have ih := ixF_at hi2 ha.2 h2
    have hany : xs.any p = true := List.any_eq_true.2 ⟨xs.getD i tst0, by rw [List.getD_eq_getElem?_getD, List.getElem?_eq_getElem hi2]; exact List.getElem_mem hi2, h2⟩
    rw [ixF, if_pos hany] at ih
    simp only [ixF, List.any_cons, ha.1, hany, Bool.or_true, if_true, Bool.not_false, List.takeWhile_cons, List.length_cons]
    omega
theorem ixF_end {p : Tst → Bool} {l : List Tst} (h : l.any p = false) : -1 = ixF p l := by simp [ixF, h]
theorem ixF_any {p : Tst → Bool} {l : List Tst} : decide (ixF p l ≥ 0) = l.any p := by
  rw [ixF]
  cases l.any p with
  | true => simp
  | false => simp
theorem any_next {p : Tst → Bool} {l : List Tst} {i : Nat} (hi : i < l.length) : (l.take (i + 1)).any p = ((l.take i).any p || p (l.getD i tst0)) := by
  rw [List.take_succ_eq_append_getElem hi, List.any_append, List.getD_eq_getElem?_getD, List.getElem?_eq_getElem hi]; simp
theorem all_any {l : List Tst} : (!l.any fun s => !s.v.valid) = l.all fun s => s.v.valid := by
  rw [List.not_any_eq_all_not]; simp
theorem xe6 {l : List Tst} {i : Nat} (hi : i < l.length) : l.getD i tst0 ∈ l := by
  rw [List.getD_eq_getElem?_getD, List.getElem?_eq_getElem hi]; exact List.getElem_mem hi
theorem tRight_valid {l : List Tst} (h : tRight l = true) : ∀ s ∈ l, s.v.valid = true := by
  simp only [tRight, Bool.and_eq_true, List.all_eq_true] at h; exact h.2
theorem va_len {v : Va} (h : v.valid = true) : v.f.n.l.length ≤ 256 ∧ v.f.d.l.length ≤ 256 := by
  have z : fr0.n.l.length ≤ 256 ∧ fr0.d.l.length ≤ 256 := by decide
  rw [Va.valid] at h
  split at h
  · simp only [Bool.and_eq_true, Fr.valid, Fr.sh, decide_eq_true_eq] at h
    exact h.2.1.1.1.1
  · split at h
    · simp only [Bool.and_eq_true, decide_eq_true_eq] at h; rw [h.1.1]; exact z
    · split at h
      · simp only [Bool.and_eq_true, decide_eq_true_eq] at h; rw [h.1.1]; exact z
      · split at h
        · simp only [Bool.and_eq_true, decide_eq_true_eq] at h; rw [h.1.1]; exact z
        · cases h
/-- A piece, behind a timeline. -/
def pst1 (acc : List Tst) (s : Tst) : List Tst :=
  if s.hi ≤ s.lo then acc
  else if 0 < acc.length ∧ (acc.getD (acc.length - 1) tst0).hi = s.lo ∧ (acc.getD (acc.length - 1) tst0).v = s.v then acc.set (acc.length - 1) ⟨(acc.getD (acc.length - 1) tst0).lo, s.hi, (acc.getD (acc.length - 1) tst0).v⟩
  else acc ++ [s]
def pst (acc ps : List Tst) : List Tst := ps.foldl pst1 acc
def clip (a b : Int) (s : Tst) : Tst := ⟨max s.lo a, min s.hi b, s.v⟩
def cutT (l : List Tst) (a b : Int) : List Tst := pst [] (l.map (clip a b))
theorem pst1_len (acc : List Tst) (s : Tst) : (pst1 acc s).length ≤ acc.length + 1 := by
  rw [pst1]; split
  · omega
  · split
    · simp
    · simp
theorem pst_len : ∀ (ps acc : List Tst), (pst acc ps).length ≤ acc.length + ps.length
  | [], acc => by simp [pst]
  | s :: r, acc => by
    have h1 := pst_len r (pst1 acc s)
    have h2 := pst1_len acc s
    simp only [pst, List.foldl_cons, List.length_cons] at *
    omega
theorem pst_snoc {l : List Tst} {i : Nat} (acc : List Tst) (hi : i < l.length) : pst acc (l.take (i + 1)) = pst1 (pst acc (l.take i)) (l.getD i tst0) := by
  rw [List.take_succ_eq_append_getElem hi, pst, List.foldl_append, List.getD_eq_getElem?_getD, List.getElem?_eq_getElem hi]; rfl
end An

/- Layer 5: timelines are checked. -/
namespace An.S
open Go Go.Proofs An
set_option maxHeartbeats 2000000
theorem ti41 : TyI Tryz.prog 41 8 true := ⟨by kernel_rfl, by kernel_rfl⟩
theorem sl24 : SlI Tryz.prog 24 41 8 true := ⟨Tryz.underlying24, ti41⟩
theorem fo41_0 : fieldO Tryz.prog 41 0 = some 0 := by kernel_rfl
theorem fo41_1 : fieldO Tryz.prog 41 1 = some 1 := by kernel_rfl
theorem fo41_2 : fieldO Tryz.prog 41 2 = some 2 := by kernel_rfl
theorem fi81 : FnI Tryz.prog 81 := ⟨_, Tryz.func81, by kernel_rfl, rfl⟩
theorem fi82 : FnI Tryz.prog 82 := ⟨_, Tryz.func82, by kernel_rfl, rfl⟩
theorem fi83 : FnI Tryz.prog 83 := ⟨_, Tryz.func83, by kernel_rfl, rfl⟩
theorem fi84 : FnI Tryz.prog 84 := ⟨_, Tryz.func84, by kernel_rfl, rfl⟩
theorem fi106 : FnI Tryz.prog 106 := ⟨_, Tryz.func106, by kernel_rfl, rfl⟩
theorem zr41 : (Tryz.prog.info? 41).bind (·.zero) = some (.agg #[.int .i64 0, .int .i64 0, .int .u8 0, .bool false, .slice none 0 0, .bool false, .slice none 0 0, .int .i64 0]) ∧ ∀ F w, (tS [⟨1, false, (tE (.int .i64 0))⟩, ⟨1, false, (tE (.int .i64 0))⟩, ⟨6, true, (tS [⟨1, false, (tE (.int .u8 0))⟩, ⟨4, true, (tS [⟨2, true, (tS [⟨1, false, (tE (.bool false))⟩, ⟨1, false, (tLm [])⟩])⟩, ⟨2, true, (tS [⟨1, false, (tE (.bool false))⟩, ⟨1, false, (tLm [])⟩])⟩])⟩, ⟨1, false, (tE (.int .i64 0))⟩])⟩]).p F w (.agg #[.int .i64 0, .int .i64 0, .int .u8 0, .bool false, .slice none 0 0, .bool false, .slice none 0 0, .int .i64 0]) := ⟨by kernel_rfl, fun _ _ => ⟨_, rfl, rfl, ⟨fun _ => rfl, rfl⟩, ⟨fun _ => rfl, rfl⟩, ⟨fun h => Bool.noConfusion h, ⟨_, rfl, rfl, ⟨fun _ => rfl, rfl⟩, ⟨fun h => Bool.noConfusion h, ⟨_, rfl, rfl, ⟨fun h => Bool.noConfusion h, ⟨_, rfl, rfl, ⟨fun _ => rfl, rfl⟩, ⟨fun _ => rfl, ⟨none, 0, rfl, Nat.le_refl _, by decide, .inl rfl⟩⟩, trivial⟩⟩, ⟨fun h => Bool.noConfusion h, ⟨_, rfl, rfl, ⟨fun _ => rfl, rfl⟩, ⟨fun _ => rfl, ⟨none, 0, rfl, Nat.le_refl _, by decide, .inl rfl⟩⟩, trivial⟩⟩, trivial⟩⟩, ⟨fun _ => rfl, rfl⟩, trivial⟩⟩, trivial⟩⟩
theorem c_TRight1 (s : Tst) (hD : s.v.f.dig) :
  Ct Tryz.prog 83 [tTs s] (tB (!s.v.valid)) := by
 refine Ct.intro Tryz.func83 rfl Tryz.ntmps83 rfl ?_
 intro w F
 refine x6 ?_
 refine x8 ?_
 refine RE (xc9 (k := 1) ti41 rfl) ⟨rfl, trivial⟩ trivial ⟨rfl, trivial⟩ (R1 x5 rfl (x7 (by kernel_rfl) (x4 (x6 ?_))))
 refine x8 ?_
 refine R1 (x9 fo41_2 rfl) rfl (xa6 (0) ti39 rfl rfl rfl (At.g 2 rfl rfl) rfl (R1 (xa0 (c_TValid s.v hD) fi84 rfl) rfl (R1 xe4 rfl (R1 x5 rfl (x7 (by kernel_rfl) (x4 (xa1 ?_)))))))
 exact xa4 Plain.mk' rfl rfl Le.refl
theorem c_TIndex (l : List Tst) (hD : ∀ s ∈ l, s.v.f.dig) :
  Ct Tryz.prog 106 [tL 8 true tTs l, tE (.func (.func 83) #[] #[])] (tI (ixF (fun s : Tst => !s.v.valid) l)) := by
 refine Ct.intro Tryz.func106 rfl Tryz.ntmps106 rfl ?_
 intro w F
 refine C_len (s := 0) rfl (fun hl0 => ?_)
 refine x6 ?_
 refine x8 ?_
 refine R1 x5 rfl (x7 (by kernel_rfl) (x4 (x6 (x6 ?_))))
 refine x8 ?_
 refine R1 x3 rfl (R1 (xc4 Tryz.underlying24) rfl (R1 x3 rfl (x7 (by kernel_rfl) (x4 (xb3 ?_)))))
 refine xe1 (fun (i : Nat) => i ≤ l.length ∧ (l.take i).any (fun s : Tst => !s.v.valid) = false) (fun (i : Nat) => upd (upd (upd (upd (fun _ => none) 0 (some (.val (tL 8 true tTs l)))) 1 (some (.val (tE (.func (.func 83) #[] #[]))))) 7 (some (.val (tI l.length)))) 8 (some (.val (tI i)))) (fun (i : Nat) => fun _ => none) (nm []) (fun (i : Nat) => l.length - i) (0) ⟨Nat.zero_le _, rfl⟩ (Sub.int rfl (by first | omega | rfl | (dsimp only; omega)) (Sub.int rfl (by first | omega | rfl | (dsimp only; omega)) (Sub.cons rfl (Sub.cons rfl Sub.nil)))) SubK.nil (SupG.val (SupG.val (SupG.val (SupG.val SupG.nil)))) SupH.nil (lkOk rfl) ?_
 intro i hI
 obtain ⟨hi, ha⟩ := hI
 refine x6 ?_
 refine x8 ?_
 refine R2 xd8 rfl rfl (x7 (by kernel_rfl) (x4 (x6 ?_)))
 refine xc0 rfl (fun h108 => ?_) (fun h108 => ?_)
 ·
  refine xa5 (x4 (x6 (xb3 (x6 ?_))))
  refine x8 ?_
  refine R1 x3 rfl (R1 x5 rfl (x7 (by kernel_rfl) (x4 (x6 ?_))))
  refine x8 ?_
  refine R1 x3 rfl (R1 x3 rfl (R1 x3 rfl (R2 (xb9 sl24 (i) (by omega) (gD (l := l) (n := i) (d := tst0) (by omega))) rfl rfl (R1 (xc5 ti41) rfl (R2 (d_callF (c_TRight1 (l.getD i tst0) (hD _ (xe6 (by omega)))) fi83 rfl) rfl rfl (x7 (by kernel_rfl) (x4 ?_)))))))
  refine xf8 rfl (fun h109 => ?_) (fun h109 => ?_)
  ·
   refine x6 ?_
   refine x8 ?_
   refine R1 x3 rfl (R1 x5 rfl (x7 (by kernel_rfl) (x4 (xa1 (xc6 (xa7 (xa7 ?_)))))))
   refine xc6 (xa7 ?_)
   exact xa4 Plain.mk' rfl rfl (Le.int (ixF_at (by omega) ha h109))
  ·
   refine xa5 (xc1 (x4 ?_))
   refine x8 ?_
   refine R2 (xb6 (wr64 (by omega) (by omega))) rfl rfl (R1 x3 rfl (x7 (by kernel_rfl) ?_))
   exact xc2 (i + 1) ⟨⟨by omega, by rw [any_next (by omega), ha, h109]; rfl⟩, (by omega)⟩ (Sub.int rfl (by first | omega | rfl | (dsimp only; omega)) (Sub.int rfl (by first | omega | rfl | (dsimp only; omega)) (Sub.cons rfl (Sub.cons rfl Sub.nil)))) SubK.nil (SupG.val (SupG.val (SupG.val (SupG.val SupG.nil)))) SupH.nil (lkOk rfl)
 ·
  refine xd4 (xb8 (xb8 (xe0 (x4 (x6 ?_)))))
  refine x8 ?_
  refine R1 x5 rfl (x7 (by kernel_rfl) (x4 (xa1 ?_)))
  exact xa4 Plain.mk' rfl rfl (Le.int (ixF_end (by rw [← ha, show i = l.length by omega, List.take_length])))
theorem c_TContains (l : List Tst) (hD : ∀ s ∈ l, s.v.f.dig) :
  Ct Tryz.prog 82 [tL 8 true tTs l, tE (.func (.func 83) #[] #[])] (tB (l.any (fun s : Tst => !s.v.valid))) := by
 refine Ct.intro Tryz.func82 rfl Tryz.ntmps82 rfl ?_
 intro w F
 refine x6 ?_
 refine x8 ?_
 refine R1 x5 rfl (x7 (by kernel_rfl) (x4 (x6 ?_)))
 refine x8 ?_
 refine R1 x3 rfl (R1 x3 rfl (R2 (xa0 (c_TIndex l hD) fi106 rfl) rfl rfl (R2 d_geq rfl rfl (R1 x5 rfl (x7 (by kernel_rfl) (x4 (xa1 ?_)))))))
 exact xa4 Plain.mk' rfl rfl (Le.bool ixF_any)
theorem c_TRight (l : List Tst) (hD : ∀ s ∈ l, s.v.f.dig) :
  Ct Tryz.prog 50 [tL 8 true tTs l] (tB (tRight l)) := by
 refine Ct.intro Tryz.func50 rfl Tryz.ntmps50 rfl ?_
 intro w F
 refine C_len (s := 0) rfl (fun hl0 => ?_)
 refine x6 ?_
 refine x8 ?_
 refine R1 x5 rfl (x7 (by kernel_rfl) (x4 (x6 (x6 ?_))))
 refine x8 ?_
 refine R1 x3 rfl (R1 (xc4 Tryz.underlying24) rfl (R1 x3 rfl (x7 (by kernel_rfl) (x4 (xb3 ?_)))))
 refine xe1 (fun (i : Nat) => i ≤ l.length ∧ (List.range i).all (tOk l) = true) (fun (i : Nat) => upd (upd (upd (upd (fun _ => none) 0 (some (.val (tL 8 true tTs l)))) 6 (some (.val (tL 8 true tTs l)))) 7 (some (.val (tI l.length)))) 8 (some (.val (tI i)))) (fun (i : Nat) => fun _ => none) (nm []) (fun (i : Nat) => l.length - i) (0) ⟨Nat.zero_le _, rfl⟩ (Sub.int rfl (by first | omega | rfl | (dsimp only; omega)) (Sub.int rfl (by first | omega | rfl | (dsimp only; omega)) (Sub.cons rfl (Sub.cons rfl Sub.nil)))) SubK.nil (SupG.val (SupG.val (SupG.val (SupG.val SupG.nil)))) SupH.nil (lkOk rfl) ?_
 intro i hI
 obtain ⟨hi, ha⟩ := hI
 refine x6 ?_
 refine x8 ?_
 refine R2 xd8 rfl rfl (x7 (by kernel_rfl) (x4 (x6 ?_)))
 refine xc0 rfl (fun h39 => ?_) (fun h39 => ?_)
 ·
  refine xa5 (x4 (x6 (xb3 (x6 ?_))))
  refine x8 ?_
  refine R1 x3 rfl (R2 (xb9 sl24 (i) (by omega) (gD (l := l) (n := i) (d := tst0) (by omega))) rfl rfl (R1 (xc5 ti41) rfl (RE (xb4 (k := 4) (n := 8) (agg := true) zr41.1 zr41.2 rfl) trivial trivial ⟨rfl, trivial⟩ (R1 x5 rfl (RE (xa3 (es := 8) (agg := true) (0) ti41 rfl rfl rfl) ⟨rfl, rfl, trivial⟩ ⟨rfl, trivial⟩ trivial (x7 (by kernel_rfl) (x4 ?_)))))))
  refine x6 (x6 ?_)
  refine x8 ?_
  refine R1 (x9 fo41_0 rfl) rfl (xa6 (0) ti3 rfl rfl rfl (At.g 0 rfl rfl) rfl (R2 xd8 rfl rfl (R1 x3 rfl ?_)))
  refine RGcaseD (t := 16) rfl (fun h40 => ?_) (fun h40 => ?_)
  ·
   refine RGoff (decide_eq_true h40) rfl rfl (RGoff (decide_eq_true h40) rfl rfl (RGoff (decide_eq_true h40) rfl rfl (RGoff (decide_eq_true h40) rfl rfl (RGoff (decide_eq_true h40) rfl rfl (R2 (xb2 (decide_eq_true h40)) rfl rfl (R1 x3 rfl (RGoff1 rfl rfl ?_)))))))
   refine RGoff1 rfl rfl (RGoff1 rfl rfl (R2 (xb2 rfl) rfl rfl (x7 (by kernel_rfl) (x4 (C_bT rfl rfl (x6 ?_))))))
   refine x8 ?_
   refine R1 x5 rfl (x7 (by kernel_rfl) (x4 (xa1 (xa7 (xc6 (xa7 (xa7 ?_)))))))
   refine xc6 (xa7 ?_)
   exact xa4 Plain.mk' rfl rfl (Le.bool (tRight_bad (i := i) (by omega) (by omega)))
  ·
   refine RGon (decide_eq_false h40) rfl (x9 fo41_0 rfl) rfl ⟨rfl, trivial⟩ trivial trivial (xb7 (decide_eq_false h40) rfl rfl (0) ti3 rfl rfl rfl (At.g 0 rfl rfl) rfl (RGon (decide_eq_false h40) rfl (x9 fo41_1 rfl) rfl ⟨rfl, trivial⟩ trivial trivial (xb7 (decide_eq_false h40) rfl rfl (0) ti3 rfl rfl rfl (At.g 1 rfl rfl) rfl (RGon (decide_eq_false h40) rfl d_geq rfl ⟨rfl, rfl, trivial⟩ trivial trivial (R2 (xb0 (decide_eq_false h40)) rfl rfl (R1 x3 rfl ?_))))))
   refine RGcaseD (t := 23) rfl (fun h40_2 => ?_) (fun h40_2 => ?_)
   ·
    refine RGoff (decide_eq_true h40_2) rfl rfl (RGoff (decide_eq_true h40_2) rfl rfl (RGoff (decide_eq_true h40_2) rfl rfl (R2 (xb2 (decide_eq_true h40_2)) rfl rfl (x7 (by kernel_rfl) (x4 (C_bT rfl rfl (x6 ?_)))))))
    refine x8 ?_
    refine R1 x5 rfl (x7 (by kernel_rfl) (x4 (xa1 (xa7 (xc6 (xa7 (xa7 ?_)))))))
    refine xc6 (xa7 ?_)
    exact xa4 Plain.mk' rfl rfl (Le.bool (tRight_bad (i := i) (by omega) (by omega)))
   ·
    refine RGon (decide_eq_false h40_2) rfl (x9 fo41_1 rfl) rfl ⟨rfl, trivial⟩ trivial trivial (xb7 (decide_eq_false h40_2) rfl rfl (0) ti3 rfl rfl rfl (At.g 1 rfl rfl) rfl (RGon (decide_eq_false h40_2) rfl d_gtr rfl ⟨rfl, rfl, trivial⟩ trivial trivial (R2 (xb0 (decide_eq_false h40_2)) rfl rfl (x7 (by kernel_rfl) (x4 ?_)))))
    refine xc0 rfl (fun h40_3 => ?_) (fun h40_3 => ?_)
    ·
     refine x6 ?_
     refine x8 ?_
     refine R1 x5 rfl (x7 (by kernel_rfl) (x4 (xa1 (xa7 (xc6 (xa7 (xa7 ?_)))))))
     refine xc6 (xa7 ?_)
     exact xa4 Plain.mk' rfl rfl (Le.bool (tRight_bad (i := i) (by omega) (by omega)))
    ·
     refine xa5 (x4 (x6 (x6 ?_)))
     refine x8 ?_
     refine R1 x3 rfl (R2 xe3 rfl rfl (x7 (by kernel_rfl) (x4 ?_)))
     refine xc0 rfl (fun h43 => ?_) (fun h43 => ?_)
     ·
      refine xd4 (xb8 (xe0 (x4 ?_)))
      refine x8 ?_
      refine R2 (xb6 (wr64 (by omega) (by omega))) rfl rfl (R1 x3 rfl (x7 (by kernel_rfl) ?_))
      have hok : tOk l i = true := tOk_iff.2 ⟨by omega, by omega, by omega, .inl (by omega)⟩
      exact xc2 (i + 1) ⟨⟨by omega, by rw [ranges_next, ha, Bool.true_and]; exact hok⟩, (by omega)⟩ (Sub.int rfl (by first | omega | rfl | (dsimp only; omega)) (Sub.int rfl (by first | omega | rfl | (dsimp only; omega)) (Sub.cons rfl (Sub.cons rfl Sub.nil)))) SubK.nil (SupG.val (SupG.val (SupG.val (SupG.val SupG.nil)))) SupH.nil (lkOk rfl)
     ·
      refine xa5 (x4 (x6 ?_))
      refine x8 ?_
      refine R1 x3 rfl (R1 x3 rfl (R2 (xd9 (wr64 (by omega) (by omega))) rfl rfl (R2 (xb9 sl24 (i - 1) (by omega) (gD (l := l) (n := i - 1) (d := tst0) (by omega))) rfl rfl (R1 (xc5 ti41) rfl (RE (xb4 (k := 5) (n := 8) (agg := true) zr41.1 zr41.2 rfl) trivial trivial ⟨rfl, trivial⟩ (RE (xa3 (es := 8) (agg := true) (0) ti41 rfl rfl rfl) ⟨rfl, rfl, trivial⟩ ⟨rfl, trivial⟩ trivial (x7 (by kernel_rfl) ?_)))))))
      refine x4 (x6 ?_)
      refine x8 ?_
      refine R1 (x9 fo41_1 rfl) rfl (xa6 (0) ti3 rfl rfl rfl (At.g 1 rfl rfl) rfl (R1 (x9 fo41_0 rfl) rfl (xa6 (0) ti3 rfl rfl rfl (At.g 0 rfl rfl) rfl (R2 d_gtr rfl rfl (R1 x3 rfl ?_)))))
      refine RGcaseD (t := 40) rfl (fun h47 => ?_) (fun h47 => ?_)
      ·
       refine RGoff (decide_eq_true h47) rfl rfl (RGoff (decide_eq_true h47) rfl rfl (RGoff (decide_eq_true h47) rfl rfl (RGoff (decide_eq_true h47) rfl rfl (RGoff (decide_eq_true h47) rfl rfl (RGoff (decide_eq_true h47) rfl rfl (RGoff (decide_eq_true h47) rfl rfl (R2 (xb2 (decide_eq_true h47)) rfl rfl ?_)))))))
       refine R1 x3 rfl (RGoff1 rfl rfl (RGoff1 rfl rfl (RGoff1 rfl rfl (RGoff1 rfl rfl (RGoff1 rfl rfl (RGoff1 rfl rfl (RGoffU rfl rfl ?_)))))))
       refine RGoffU rfl rfl (RGoffU rfl rfl (RGoffU rfl rfl (RGoffU rfl rfl (RGoff1 rfl rfl (R2 (xb2 rfl) rfl rfl (x7 (by kernel_rfl) (x4 ?_)))))))
       refine C_bT rfl rfl (x6 ?_)
       refine x8 ?_
       refine R1 x5 rfl (x7 (by kernel_rfl) (x4 (xa1 (xc6 (xa7 (xa7 (xc6 ?_)))))))
       refine xa7 ?_
       exact xa4 Plain.mk' rfl rfl (Le.bool (tRight_bad (i := i) (by omega) (by omega)))
      ·
       refine RGon (decide_eq_false h47) rfl (x9 fo41_2 rfl) rfl ⟨rfl, trivial⟩ trivial trivial (RGon (decide_eq_false h47) rfl (x9 fo39_0 rfl) rfl ⟨rfl, trivial⟩ trivial trivial (xb7 (decide_eq_false h47) rfl rfl (0) ti5 rfl rfl rfl (At.t (At.g 2 rfl rfl) (At.g 0 rfl rfl)) rfl (RGon (decide_eq_false h47) rfl (x9 fo41_2 rfl) rfl ⟨rfl, trivial⟩ trivial trivial (RGon (decide_eq_false h47) rfl (x9 fo39_0 rfl) rfl ⟨rfl, trivial⟩ trivial trivial (xb7 (decide_eq_false h47) rfl rfl (0) ti5 rfl rfl rfl (At.t (At.g 2 rfl rfl) (At.g 0 rfl rfl)) rfl (RGon (decide_eq_false h47) rfl xf9 rfl ⟨rfl, rfl, trivial⟩ trivial trivial (R2 (xb0 (decide_eq_false h47)) rfl rfl ?_)))))))
       refine R1 x3 rfl ?_
       refine RGcaseD (t := 49) rfl (fun h47_2 => ?_) (fun h47_2 => ?_)
       ·
        refine RGoff (decide_eq_true h47_2) rfl rfl (RGoff (decide_eq_true h47_2) rfl rfl (RGoff (decide_eq_true h47_2) rfl rfl (RGoff (decide_eq_true h47_2) rfl rfl (RGoff (decide_eq_true h47_2) rfl rfl (RGoff (decide_eq_true h47_2) rfl rfl (RGoffU rfl rfl (RGoffU rfl rfl ?_)))))))
        refine RGoffU rfl rfl (RGoffU rfl rfl (RGoffU rfl rfl (RGoff (decide_eq_true h47_2) rfl rfl (R2 (xb2 (decide_eq_true h47_2)) rfl rfl (x7 (by kernel_rfl) (x4 (C_bT rfl rfl ?_)))))))
        refine x6 ?_
        refine x8 ?_
        refine R1 x5 rfl (x7 (by kernel_rfl) (x4 (xa1 (xc6 (xa7 (xa7 (xc6 ?_)))))))
        refine xa7 ?_
        exact xa4 Plain.mk' rfl rfl (Le.bool (tRight_bad (i := i) (by omega) (by omega)))
       ·
        refine RGon (decide_eq_false h47_2) rfl (x9 fo41_1 rfl) rfl ⟨rfl, trivial⟩ trivial trivial (xb7 (decide_eq_false h47_2) rfl rfl (0) ti3 rfl rfl rfl (At.g 1 rfl rfl) rfl (RGon (decide_eq_false h47_2) rfl (x9 fo41_0 rfl) rfl ⟨rfl, trivial⟩ trivial trivial (xb7 (decide_eq_false h47_2) rfl rfl (0) ti3 rfl rfl rfl (At.g 0 rfl rfl) rfl (RGon (decide_eq_false h47_2) rfl xe3 rfl ⟨rfl, rfl, trivial⟩ trivial trivial (RGon (decide_eq_false h47_2) rfl x3 rfl ⟨rfl, trivial⟩ trivial trivial ?_)))))
        refine RGcaseD (t := 55) rfl (fun h47_3 => ?_) (fun h47_3 => ?_)
        ·
         refine RGon (decide_eq_true h47_3) rfl (x9 fo41_2 rfl) rfl ⟨rfl, trivial⟩ trivial trivial (xb7 (decide_eq_true h47_3) rfl rfl (0) ti39 rfl rfl rfl (At.g 2 rfl rfl) rfl (RGon (decide_eq_true h47_3) rfl (x9 fo41_2 rfl) rfl ⟨rfl, trivial⟩ trivial trivial (xb7 (decide_eq_true h47_3) rfl rfl (0) ti39 rfl rfl rfl (At.g 2 rfl rfl) rfl (RGon (decide_eq_true h47_3) rfl (xa0 (c_TSame _ _) fi81 rfl) rfl ⟨rfl, rfl, trivial⟩ trivial trivial (RGon (decide_eq_false h47_2) rfl (xb2 (decide_eq_true h47_3)) rfl ⟨rfl, rfl, trivial⟩ trivial trivial (R2 (xb0 (decide_eq_false h47_2)) rfl rfl (x7 (by kernel_rfl) ?_)))))))
         refine x4 ?_
         refine xc0 rfl (fun h47_4 => ?_) (fun h47_4 => ?_)
         ·
          refine x6 ?_
          refine x8 ?_
          refine R1 x5 rfl (x7 (by kernel_rfl) (x4 (xa1 (xc6 (xa7 (xa7 (xc6 ?_)))))))
          refine xa7 ?_
          exact xa4 Plain.mk' rfl rfl (Le.bool (tRight_bad (i := i) (by omega) (by rintro ⟨_, _, _, h | ⟨_, _, h⟩⟩; omega; exact h ⟨by omega, h47_4⟩)))
         ·
          refine xa5 (xc1 (x4 ?_))
          refine x8 ?_
          refine R2 (xb6 (wr64 (by omega) (by omega))) rfl rfl (R1 x3 rfl (x7 (by kernel_rfl) ?_))
          have hok : tOk l i = true := tOk_iff.2 ⟨by omega, by omega, by omega, .inr ⟨by omega, by omega, fun h => h47_4 h.2⟩⟩
          exact xc2 (i + 1) ⟨⟨by omega, by rw [ranges_next, ha, Bool.true_and]; exact hok⟩, (by omega)⟩ (Sub.int rfl (by first | omega | rfl | (dsimp only; omega)) (Sub.int rfl (by first | omega | rfl | (dsimp only; omega)) (Sub.cons rfl (Sub.cons rfl Sub.nil)))) SubK.nil (SupG.val (SupG.val (SupG.val (SupG.val SupG.nil)))) SupH.nil (lkOk rfl)
        ·
         refine RGoff (decide_eq_false h47_3) rfl rfl (RGoff (decide_eq_false h47_3) rfl rfl (RGoff (decide_eq_false h47_3) rfl rfl (RGoff (decide_eq_false h47_3) rfl rfl (RGoff (decide_eq_false h47_3) rfl rfl (RGon (decide_eq_false h47_2) rfl (xb0 (decide_eq_false h47_3)) rfl ⟨rfl, rfl, trivial⟩ trivial trivial (R2 (xb0 (decide_eq_false h47_2)) rfl rfl (x7 (by kernel_rfl) ?_)))))))
         refine x4 (C_bF rfl rfl (xa5 (xc1 (x4 ?_))))
         refine x8 ?_
         refine R2 (xb6 (wr64 (by omega) (by omega))) rfl rfl (R1 x3 rfl (x7 (by kernel_rfl) ?_))
         have hok : tOk l i = true := tOk_iff.2 ⟨by omega, by omega, by omega, .inr ⟨by omega, by omega, fun h => h47_3 h.1⟩⟩
         exact xc2 (i + 1) ⟨⟨by omega, by rw [ranges_next, ha, Bool.true_and]; exact hok⟩, (by omega)⟩ (Sub.int rfl (by first | omega | rfl | (dsimp only; omega)) (Sub.int rfl (by first | omega | rfl | (dsimp only; omega)) (Sub.cons rfl (Sub.cons rfl Sub.nil)))) SubK.nil (SupG.val (SupG.val (SupG.val (SupG.val SupG.nil)))) SupH.nil (lkOk rfl)
 ·
  refine xd4 (xb8 (xb8 (xe0 (x4 (x6 ?_)))))
  refine x8 ?_
  refine R1 x3 rfl (R2 (xa0 (c_TContains l hD) fi82 rfl) rfl rfl (R1 xe4 rfl (R1 x5 rfl (x7 (by kernel_rfl) (x4 (xa1 ?_))))))
  exact xa4 Plain.mk' rfl rfl (Le.bool (by rw [tRight, ← all_any, ← show i = l.length by omega, ha, Bool.true_and]))
end An.S

/- slices.SortFunc at structs, as a contract that is lent the row. For any program. -/
namespace An
open Go Go.Proofs Go.Shelf Go.Sort
section
variable {α : Type} [Inhabited α]
/-- What the sort leaves. -/
def srt (cf : α → α → Int) (xs : List α) : List α := (pdq (ltOf cf) xs.toArray 0 xs.toArray.size (Go.Lib.bitLen xs.toArray.size) true true).toList
theorem srt_spec {cf : α → α → Int} (hO : SWO (ltOf cf)) (xs : List α) : (srt cf xs).length = xs.length ∧ (srt cf xs).Perm xs ∧ (srt cf xs).Pairwise fun a b => ltOf cf b a = false := by
  obtain ⟨⟨h1, _, h2⟩, h3⟩ := pdq_sorts (ltOf cf) hO xs.toArray 0 xs.toArray.size (Go.Lib.bitLen xs.toArray.size) true true (Nat.zero_le _) (Nat.le_refl _) (Or.inl rfl)
  rw [srt]
  generalize pdq (ltOf cf) xs.toArray 0 xs.toArray.size (Go.Lib.bitLen xs.toArray.size) true true = D at *
  have e1 : D.size = xs.length := by simpa using h1
  have x1 : D.extract 0 xs.toArray.size = D := by rw [← h1]; simp
  have x2 : xs.toArray.extract 0 xs.toArray.size = xs.toArray := by simp
  rw [x1, x2] at h2
  refine ⟨by simpa using e1, by simpa using h2, ?_⟩
  rw [List.pairwise_iff_getElem]
  intro i j hi hj hij
  have hi' : i < D.size := by simpa using hi
  have hj' : j < D.size := by simpa using hj
  have h6 := h3 i j (Nat.zero_le _) hij (by rw [← h1]; exact hj')
  rw [getElem!_pos _ i hi', getElem!_pos _ j hj'] at h6
  simpa using h6
/-- A row that ascends stays as it is. -/
theorem srt_asc {cf : α → α → Int} (hO : SWO (ltOf cf)) {xs : List α} (h : xs.Pairwise fun a b => ltOf cf a b = true) : srt cf xs = xs := by
  have hp := (srt_spec hO xs).2.1
  have hs := (srt_spec hO xs).2.2
  generalize srt cf xs = ys at *
  induction xs generalizing ys with
  | nil => exact hp.eq_nil
  | cons x xs ih =>
    cases ys with
    | nil => exact absurd hp.symm.eq_nil (by simp)
    | cons y ys =>
      obtain ⟨h1, h2⟩ := List.pairwise_cons.1 h
      obtain ⟨s1, s2⟩ := List.pairwise_cons.1 hs
      have hxy : y = x := by
        have hy : y ∈ x :: xs := hp.mem_iff.1 (by simp)
        rcases List.mem_cons.1 hy with e | hy
        · exact e
        · have hx : x ∈ y :: ys := hp.mem_iff.2 (by simp)
          rcases List.mem_cons.1 hx with e | hx
          · exact e.symm
          · have a1 := s1 x hx
            have a2 := h1 y hy
            rw [a2] at a1; cases a1
      subst hxy
      rw [ih h2 ys (List.perm_cons y |>.1 hp) s2]
end
theorem flat_at {α : Type} [Inhabited α] {enc : α → List Value} {k : Nat} (_hk : ∀ x, (enc x).length = k) (d : Array α) {i j : Nat} (hi : i < d.size) (hj : j < k) : (flatK enc k d)[i * k + j]! = (enc d[i]!)[j]! := by
  have lt : i * k + j < d.size * k := by
    have := Nat.mul_le_mul_right k (show i + 1 ≤ d.size from hi); rw [Nat.add_mul, Nat.one_mul] at this; omega
  rw [get_flatK _ _ _ _ lt]
  have e1 : (i * k + j) / k = i := by rw [Nat.mul_comm, Nat.mul_add_div (by omega), Nat.div_eq_of_lt hj]; omega
  have e2 : (i * k + j) % k = j := by rw [Nat.mul_comm, Nat.mul_add_mod, Nat.mod_eq_of_lt hj]
  rw [e1, e2]
/-- slices.SortFunc. -/
theorem sortG {P : Program} {ρ : Ren} {α : Type} [Inhabited α] (L : SlLaysF0.n6 P ρ) {T k : Nat} {f : α → Ty} {enc : α → List Value} {cf : α → α → Int} {g : Nat} (aE : ∀ w, (isAgg (ρ.t 24)).run P w = .ok true w) (zE : ∀ w, (Go.sizeOf (ρ.t 24)).run P w = .ok k w)
    (hk : ∀ x, (enc x).length = k) (h1 : ∀ x, ∀ v ∈ enc x, v.oneCell' = true) (hf1 : ∀ F w x v, (f x).p F w v → v = .agg (enc x).toArray) (hf2 : ∀ F w x, (f x).p F w (.agg (enc x).toArray)) (hO : SWO (ltOf cf))
    (eg : ∀ args w, (callFunc g args).run P w = .ok (.enter g args) w) (hcmp : ∀ (x y : α) (W : World), Calls P g #[.agg (enc x).toArray, .agg (enc y).toArray] W fun e w' => e = .returned (.int .i64 (cf x y)) ∧ ∃ q os', w' = grow (W.drewN q) os') (xs : List α) (hn : xs.length < 4611686018427387904) :
    CtG P (ρ.f 6) [(1, ⟨T, k, true, rV f xs⟩)] [.own (.sl 1 k 0 xs.length), .val (tE (.func (.func g) #[] #[]))] (.val (tE (.tuple #[]))) [(1, ⟨T, k, true, rV f (srt cf xs)⟩)] [] := by
  intro F w η vs hS hA hI hF
  match vs, hS with
  | [v0, v1], hS =>
  obtain ⟨⟨A, rfl, hle, hadr⟩, h2, _⟩ := hS
  have h2 : v1 = .func (.func g) #[] #[] := h2
  subst h2
  obtain ⟨k1, k2, k3, k4, k5⟩ := hA (1, ⟨T, k, true, rV f xs⟩) (by simp)
  have k1 : (rV f xs).length ≤ η.c 1 := k1
  have k2 : 0 < k := k2
  have k4 : η.c 1 ≤ 9223372036854775807 := k4
  rw [rV_len] at k1
  obtain ⟨s1, s2, _⟩ := srt_spec hO xs
  by_cases h0 : xs.length = 0
  · have hx : xs = [] := List.length_eq_zero_iff.1 h0
    subst hx
    have e0 : srt cf ([] : List α) = [] := List.length_eq_zero_iff.1 s1
    rw [e0]
    refine (AnyF.slices_SortFunc_none L A (η.c 1 - 0) (.func (.func g) #[] #[]) w).mono ?_
    rintro e w' ⟨rfl, rfl⟩
    refine ⟨_, η, rfl, ⟨Stp.refl _ _, fun _ _ => ⟨rfl, rfl⟩, rfl, fun x hx => ?_, hI, fun b hb => .inl hb⟩⟩
    simp only [List.mem_singleton] at hx
    subst hx
    refine ⟨by simp [rV], k2, k3, k4, fun hc => ?_⟩
    obtain ⟨cs, c1, c2, _⟩ := k5 hc
    exact ⟨cs, c1, c2, fun i e hi => by simp [rV] at hi⟩
  · have hc0 : 0 < η.c 1 := by omega
    obtain ⟨cs, c1, c2, c3⟩ := k5 hc0
    have c1 : w.heap[η.b 1]? = some (.cells cs T (0, 0)) := c1
    have c2 : cs.size = η.c 1 * k := c2
    have hA' := hadr hc0
    rw [Nat.zero_mul] at hA'
    subst hA'
    have hblk : η.b 1 < w.heap.size := xd1 c1
    have hmul : ∀ i, i < xs.length → i * k + k ≤ cs.size := fun i hi => by
      rw [c2, ← Nat.succ_mul]; exact Nat.mul_le_mul_right _ (by omega)
    have hget : ∀ i (hi : i < xs.length) j, j < k → cs[i * k + j]? = (enc xs[i])[j]? := fun i hi j hj => by
      have h3 := c3 i (.val (f xs[i])) (by rw [rV, List.getElem?_map, List.getElem?_eq_getElem hi]; rfl)
      have h4 := hf1 _ _ _ _ h3
      simp only [pick, cond_true, Value.agg.injEq] at h4
      have h5 := congrArg (fun a : Array Value => a[j]?) h4
      simp only [Array.getElem?_extract, List.getElem?_toArray] at h5
      have := hmul i hi
      rw [if_pos (by omega)] at h5
      exact h5
    have hsize : xs.toArray.size = xs.length := by simp
    have hH : HoldsK enc k w (η.b 1) 0 xs.toArray := by
      intro j hj
      rw [size_flatK, hsize] at hj
      have hj1 : j / k < xs.length := by rw [Nat.div_lt_iff_lt_mul k2]; exact hj
      have hj2 : j % k < k := Nat.mod_lt _ k2
      have hje : j / k * k + j % k = j := by rw [Nat.mul_comm]; exact Nat.div_add_mod j k
      have h6 := hget (j / k) hj1 (j % k) hj2
      rw [hje] at h6
      have h7 := flat_at hk xs.toArray (i := j / k) (j := j % k) (by rw [hsize]; exact hj1) hj2
      rw [hje] at h7
      have hlen : j % k < (enc xs[j / k]).length := by rw [hk]; exact hj2
      have h8 : xs.toArray[j / k]! = xs[j / k] := by rw [getElem!_pos _ _ (by rw [hsize]; exact hj1)]; simp
      refine ⟨?_, ?_⟩
      · show w.cell? ⟨η.b 1, 0 + j, none⟩ = some (flatK enc k xs.toArray)[j]!
        rw [h7, h8, getElem!_pos (enc xs[j / k]) (j % k) hlen]
        simp only [World.cell?, c1, Nat.zero_add, Option.isSome_none, Bool.false_eq_true, if_false]
        rw [h6, List.getElem?_eq_getElem hlen]
      · simp [World.frozen?, c1]
    have hcon := AnyQ.slices_SortFunc_eq L k aE zE enc hk h1 cf hO g #[] (η.b 1) 0 (η.c 1 - 0) xs.toArray w eg (fun m os dk _ x y => hcmp x y _) hH hblk (by rw [hsize]; exact hn)
    rw [hsize] at hcon
    refine hcon.mono ?_
    rintro e w' ⟨rfl, m, os, rfl⟩
    have hd : (pdq (ltOf cf) xs.toArray 0 xs.length (Go.Lib.bitLen xs.length) true true).size = xs.length := by
      have : (srt cf xs).length = xs.length := s1
      simpa [srt] using this
    have hl : (pdq (ltOf cf) xs.toArray 0 xs.length (Go.Lib.bitLen xs.length) true true).toList = srt cf xs := by simp [srt]
    generalize pdq (ltOf cf) xs.toArray 0 xs.length (Go.Lib.bitLen xs.length) true true = d at hd hl
    have hheap : ∀ b', b' < w.heap.size → (sortWorldK enc k w (η.b 1) 0 m d os).heap[b']? = if b' = η.b 1 then some (.cells (putCells id 0 (flatK enc k d) cs) T (0, 0)) else w.heap[b']? := fun b' hb' => by
      show (grow (putRowK enc k (Sort.ahead w m) (η.b 1) 0 d) os).heap[b']? = _
      rw [heap_grow_old _ _ (by simp [putRowK]; exact hb')]
      simp only [putRowK, putRow, mapBlock, Array.getElem?_modify]
      by_cases hb : b' = η.b 1
      · subst hb
        rw [if_pos rfl, if_pos rfl]
        show Option.map _ (w.heap[η.b 1]?) = _
        rw [c1]; rfl
      · rw [if_neg (fun h => hb h.symm), if_neg hb]; rfl
    have hsz : w.heap.size ≤ (sortWorldK enc k w (η.b 1) 0 m d os).heap.size := by
      show w.heap.size ≤ (grow (putRowK enc k (Sort.ahead w m) (η.b 1) 0 d) os).heap.size
      simp [grow, putRowK, putRow, mapBlock, Sort.ahead]
    refine ⟨_, η, rfl, ⟨⟨rfl, rfl, rfl, hsz, fun b' hb' hn' => ?_⟩, fun _ _ => ⟨rfl, rfl⟩, rfl, fun x hx => ?_, fun x hx y hy hne => ?_, fun b' hb' => .inl ?_⟩⟩
    · rw [hheap b' hb', if_neg]
      intro hb; exact hn' ⟨(1, ⟨T, k, true, rV f xs⟩), by simp, hc0, hb⟩
    · simp only [List.mem_singleton] at hx
      subst hx
      refine ⟨by rw [rV_len, s1]; exact k1, k2, k3, k4, fun _ => ⟨putCells id 0 (flatK enc k d) cs, ?_, ?_, fun i e hi => ?_⟩⟩
      · rw [hheap _ hblk, if_pos rfl]
      · simp only [putCells, Array.size_mapIdx]; exact c2
      · have hil : i < (srt cf xs).length := by
          have := (List.getElem?_eq_some_iff.1 hi).1; rwa [rV_len] at this
        have hi2 : i < xs.length := by rw [← s1]; exact hil
        rw [rV, List.getElem?_map, List.getElem?_eq_getElem hil] at hi
        simp only [Option.map_some, Option.some.injEq] at hi
        subst hi
        have hdi : d[i]! = (srt cf xs)[i] := by
          rw [getElem!_pos d i (by rw [hd]; exact hi2)]
          simp only [← hl, Array.getElem_toList]
        have : pick true k (putCells id 0 (flatK enc k d) cs) (i * k) = .agg (enc (srt cf xs)[i]).toArray := by
          simp only [pick, cond_true, Value.agg.injEq]
          apply Array.ext_getElem?
          intro j
          rw [Array.getElem?_extract]
          have hm := hmul i hi2
          simp only [List.getElem?_toArray]
          by_cases hj : j < k
          · rw [if_pos (by simp only [putCells, Array.size_mapIdx]; omega)]
            have hlt : i * k + j < d.size * k := by
              rw [hd]
              have := Nat.mul_le_mul_right k (show i + 1 ≤ xs.length from hi2); rw [Nat.add_mul, Nat.one_mul] at this; omega
            simp only [putCells, Array.getElem?_mapIdx, size_flatK]
            have hcs : cs[i * k + j]? = some (cs[i * k + j]'(by omega)) := by rw [Array.getElem?_eq_getElem]
            rw [hcs]
            simp only [Option.map_some]
            rw [if_pos ⟨Nat.zero_le _, by omega⟩, Nat.sub_zero, flat_at hk d (by rw [hd]; exact hi2) hj, hdi]
            have hjl : j < (enc (srt cf xs)[i]).length := by rw [hk]; exact hj
            rw [getElem!_pos (enc (srt cf xs)[i]) j hjl, List.getElem?_eq_getElem hjl]; rfl
          · rw [if_neg (by simp only [putCells, Array.size_mapIdx]; omega), List.getElem?_eq_none (by rw [hk]; omega)]
        simp only []
        rw [this]
        exact hf2 _ _ _
    · simp only [List.mem_singleton] at hx hy
      subst hx; subst hy
      exact absurd rfl hne
    · obtain ⟨x, hx, hc, rfl⟩ := hb'
      simp only [List.mem_singleton] at hx
      subst hx
      exact ⟨(1, ⟨T, k, true, rV f xs⟩), by simp, hc, rfl⟩
end An

/- Layer 4: sets of days. -/
namespace An.S
open Go Go.Proofs An
open Go.RowKit Go.Sort
set_option maxHeartbeats 2000000
theorem ti98 : TyI Tryz.prog 98 2 true := ⟨by kernel_rfl, by kernel_rfl⟩
theorem sl71 : SlI Tryz.prog 71 98 2 true := ⟨Tryz.underlying71, ti98⟩
theorem fo98_0 : fieldO Tryz.prog 98 0 = some 0 := by kernel_rfl
theorem fo98_1 : fieldO Tryz.prog 98 1 = some 1 := by kernel_rfl
theorem fi92 : FnI Tryz.prog 92 := ⟨_, Tryz.func92, by kernel_rfl, rfl⟩
theorem fi93 : FnI Tryz.prog 93 := ⟨_, Tryz.func93, by kernel_rfl, rfl⟩
theorem el98 : ElI Tryz.prog 98 2 16 true (.agg #[.int .i64 0, .int .i64 0]) := ⟨ti98, by kernel_rfl, by kernel_rfl⟩
theorem zr98 : (Tryz.prog.info? 98).bind (·.zero) = some (.agg #[.int .i64 0, .int .i64 0]) ∧ ∀ F w, (tS [⟨1, false, (tE (.int .i64 0))⟩, ⟨1, false, (tE (.int .i64 0))⟩]).p F w (.agg #[.int .i64 0, .int .i64 0]) := ⟨by kernel_rfl, fun _ _ => ⟨_, rfl, rfl, ⟨fun _ => rfl, rfl⟩, ⟨fun _ => rfl, rfl⟩, trivial⟩⟩
theorem zf98 : Flat 2 true (.agg #[.int .i64 0, .int .i64 0]) := flat_agg (by intro u hu; simp at hu; rcases hu with rfl | rfl <;> rfl)
def cmpI (a b : Int) : Int := if a < b then -1 else if b < a then 1 else 0
theorem cmpInt (a b : Int) (W : World) : Calls Tryz.prog 95 #[.int .i64 a, .int .i64 b] W fun e w' => e = .returned (.int .i64 (cmpI a b)) ∧ w' = W := by
  have hn : ∀ (x : Int) (W : World), Calls Tryz.prog 110 #[.int .i64 x] W fun e w' => e = .returned (.bool false) ∧ w' = W := fun x W => by
    have h1 : (x == x) = true := by simp
    go_enter Tryz.func110, Tryz.ntmps110
    go_wp2
    go_ret
    exact ⟨by simp, rfl⟩
  by_cases h1 : a < b
  · rw [show cmpI a b = -1 by simp [cmpI, h1]]
    go_enter Tryz.func95, Tryz.ntmps95
    go_wp2_with (go_at_call 110; refine (hn _ _).mono ?_; rintro e w' ⟨rfl, rfl⟩)
    go_ret
    exact ⟨rfl, rfl⟩
  · by_cases h2 : b < a
    · rw [show cmpI a b = 1 by simp [cmpI, h1, h2]]
      go_enter Tryz.func95, Tryz.ntmps95
      go_wp2_with (go_at_call 110; refine (hn _ _).mono ?_; rintro e w' ⟨rfl, rfl⟩)
      go_ret
      exact ⟨rfl, rfl⟩
    · rw [show cmpI a b = 0 by simp [cmpI, h1, h2]]
      go_enter Tryz.func95, Tryz.ntmps95
      go_wp2_with (go_at_call 110; refine (hn _ _).mono ?_; rintro e w' ⟨rfl, rfl⟩)
      go_ret
      exact ⟨rfl, rfl⟩
/-- The numbers of the functions and types of slices.SortFunc in this program. -/
def sortSpanR : Go.Shelf.Ren := ⟨fun n => match n with | 6 => 93 | 14 => 108 | 15 => 109 | 20 => 118 | 21 => 119 | 22 => 120 | 23 => 121 | 24 => 122 | 25 => 123 | 26 => 124 | 27 => 125 | 28 => 126 | 29 => 127 | 46 => 140 | 47 => 141 | 48 => 142 | 49 => 143 | 50 => 144 | 57 => 150 | n => n, fun n => match n with | 0 => 0 | 3 => 3 | 4 => 4 | 5 => 5 | 9 => 9 | 22 => 71 | 24 => 98 | 25 => 125 | 39 => 111 | 45 => 145 | 46 => 146 | 50 => 150 | 53 => 128 | 55 => 79 | 66 => 169 | 70 => 173 | 76 => 179 | 77 => 35 | n => n, fun n => n⟩
theorem sortSpan : Go.Proofs.SlLaysF0.n6 Tryz.prog sortSpanR where
  mixed := by kernel_rfl
  f6 := ⟨Tryz.f93.name, by kernel_rfl, by kernel_rfl⟩
  f14 := ⟨Tryz.f108.name, by kernel_rfl, by kernel_rfl⟩
  f15 := by kernel_rfl
  f20 := ⟨Tryz.f118.name, by kernel_rfl, by kernel_rfl⟩
  f21 := ⟨Tryz.f119.name, by kernel_rfl, by kernel_rfl⟩
  f22 := ⟨Tryz.f120.name, by kernel_rfl, by kernel_rfl⟩
  f23 := ⟨Tryz.f121.name, by kernel_rfl, by kernel_rfl⟩
  f24 := ⟨Tryz.f122.name, by kernel_rfl, by kernel_rfl⟩
  f25 := ⟨Tryz.f123.name, by kernel_rfl, by kernel_rfl⟩
  f26 := ⟨Tryz.f124.name, by kernel_rfl, by kernel_rfl⟩
  f27 := ⟨Tryz.f125.name, by kernel_rfl, by kernel_rfl⟩
  f28 := by kernel_rfl
  f29 := by kernel_rfl
  f46 := ⟨Tryz.f140.name, by kernel_rfl, by kernel_rfl⟩
  f47 := by kernel_rfl
  f48 := by kernel_rfl
  f49 := ⟨Tryz.f143.name, by kernel_rfl, by kernel_rfl⟩
  f50 := ⟨Tryz.f144.name, by kernel_rfl, by kernel_rfl⟩
  f57 := ⟨Tryz.f150.name, by kernel_rfl, by kernel_rfl⟩
  t0 := by kernel_rfl
  a0 := fun w => by kernel_rfl
  z0 := fun w => by kernel_rfl
  v0 := fun w => by kernel_rfl
  t3 := by kernel_rfl
  a3 := fun w => by kernel_rfl
  z3 := fun w => by kernel_rfl
  v3 := fun w => by kernel_rfl
  t4 := by kernel_rfl
  a4 := fun w => by kernel_rfl
  z4 := fun w => by kernel_rfl
  v4 := fun w => by kernel_rfl
  t5 := by kernel_rfl
  a5 := fun w => by kernel_rfl
  z5 := fun w => by kernel_rfl
  v5 := fun w => by kernel_rfl
  t9 := by kernel_rfl
  a9 := fun w => by kernel_rfl
  z9 := fun w => by kernel_rfl
  v9 := fun w => by kernel_rfl
  t22 := by kernel_rfl
  a22 := fun w => by kernel_rfl
  z22 := fun w => by kernel_rfl
  v22 := fun w => by kernel_rfl
  t25 := by kernel_rfl
  a25 := fun w => by kernel_rfl
  z25 := fun w => by kernel_rfl
  v25 := fun w => by kernel_rfl
  t39 := by kernel_rfl
  a39 := fun w => by kernel_rfl
  z39 := fun w => by kernel_rfl
  v39 := fun w => by kernel_rfl
  t45 := by kernel_rfl
  a45 := fun w => by kernel_rfl
  z45 := fun w => by kernel_rfl
  v45 := fun w => by kernel_rfl
  t46 := by kernel_rfl
  a46 := fun w => by kernel_rfl
  z46 := fun w => by kernel_rfl
  v46 := fun w => by kernel_rfl
  t50 := by kernel_rfl
  a50 := fun w => by kernel_rfl
  z50 := fun w => by kernel_rfl
  v50 := fun w => by kernel_rfl
  t53 := by kernel_rfl
  a53 := fun w => by kernel_rfl
  z53 := fun w => by kernel_rfl
  v53 := fun w => by kernel_rfl
  t55 := by kernel_rfl
  a55 := fun w => by kernel_rfl
  z55 := fun w => by kernel_rfl
  v55 := fun w => by kernel_rfl
  t66 := by kernel_rfl
  a66 := fun w => by kernel_rfl
  z66 := fun w => by kernel_rfl
  v66 := fun w => by kernel_rfl
  t70 := by kernel_rfl
  a70 := fun w => by kernel_rfl
  z70 := fun w => by kernel_rfl
  v70 := fun w => by kernel_rfl
  t76 := by kernel_rfl
  a76 := fun w => by kernel_rfl
  z76 := fun w => by kernel_rfl
  v76 := fun w => by kernel_rfl
  t77 := by kernel_rfl
  a77 := fun w => by kernel_rfl
  z77 := fun w => by kernel_rfl
  v77 := fun w => by kernel_rfl
def cfSn (x y : Sn) : Int := cmpI x.lo y.lo
def encSn (x : Sn) : List Value := [.int .i64 x.lo, .int .i64 x.hi]
theorem ltSn (x y : Sn) : Go.Proofs.ltOf cfSn x y = decide (x.lo < y.lo) := by
  unfold Go.Proofs.ltOf cfSn cmpI
  by_cases h1 : x.lo < y.lo
  · simp [h1]
  · by_cases h2 : y.lo < x.lo <;> simp [h1, h2]
theorem swoSn : SWO (Go.Proofs.ltOf cfSn) where
  irrefl x := by rw [ltSn]; simp
  trans x y z h1 h2 := by rw [ltSn] at *; simp at *; omega
  ntrans x y z h1 h2 := by rw [ltSn] at *; simp at *; omega
theorem closSn (x y : Sn) (W : World) : Calls Tryz.prog 94 #[.agg (encSn x).toArray, .agg (encSn y).toArray] W fun e w' => e = .returned (.int .i64 (cfSn x y)) ∧ ∃ q os', w' = grow (W.drewN q) os' := by
  have hcon := fun W' => cmpInt x.lo y.lo W'
  show Calls Tryz.prog 94 #[.agg #[.int .i64 x.lo, .int .i64 x.hi], .agg #[.int .i64 y.lo, .int .i64 y.hi]] W fun e w' => e = .returned (.int .i64 (cmpI x.lo y.lo)) ∧ ∃ q os', w' = grow (W.drewN q) os'
  generalize cmpI x.lo y.lo = r at hcon ⊢
  go_enter Tryz.func94, Tryz.ntmps94
  go_wp2_with (go_at_call 95; refine (hcon _).mono ?_; rintro e w' ⟨rfl, rfl⟩)
  go_ret
  exact ⟨rfl, 0, _, by rw [alloc_eq_grow, alloc_eq_grow, grow_grow]; rfl⟩
theorem c_sortSn (xs : List Sn) (hn : xs.length < 4611686018427387904) : CtG Tryz.prog 93 [(1, ⟨98, 2, true, rV tSn xs⟩)] [.own (.sl 1 2 0 xs.length), .val (tE (.func (.func 94) #[] #[]))] (.val (tE (.tuple #[]))) [(1, ⟨98, 2, true, rV tSn (srt cfSn xs)⟩)] [] :=
  sortG sortSpan (enc := encSn) (cf := cfSn) (fun w => by kernel_rfl) (fun w => by kernel_rfl) (fun _ => rfl) (fun x v hv => by simp [encSn] at hv; rcases hv with rfl | rfl <;> rfl) (fun F w x v h => tSn_val h) (fun F w x => tSn_mk) swoSn (enters_of Tryz.func94 (by kernel_rfl) rfl) closSn xs hn
theorem srtSn_len {xs : List Sn} : (srt cfSn xs).length = xs.length := (srt_spec swoSn xs).1
/-- The set of the days of spans. -/
def pos (s : Sn) : Bool := decide (s.lo < s.hi)
def mkS (l : List Sn) : List Sn := mrg (srt cfSn (l.filter pos))
theorem filter_next {l : List Sn} {i : Nat} (hi : i < l.length) : (l.take (i + 1)).filter pos = (l.take i).filter pos ++ (if pos (l.getD i sn0) then [l.getD i sn0] else []) := by
  rw [List.take_succ_eq_append_getElem hi, List.filter_append, List.getD_eq_getElem?_getD, List.getElem?_eq_getElem hi]
  by_cases h : pos l[i] = true <;> simp [h]
theorem mrg_next {l : List Sn} {i : Nat} (hi : i < l.length) : mrg (l.take (i + 1)) = mrg1 (mrg (l.take i)) (l.getD i sn0) := by
  rw [List.take_succ_eq_append_getElem hi, mrg, List.foldl_append, List.getD_eq_getElem?_getD, List.getElem?_eq_getElem hi]; rfl
theorem allS_next {p : Sn → Bool} {l : List Sn} {i : Nat} (hi : i < l.length) : (l.take (i + 1)).all p = ((l.take i).all p && p (l.getD i sn0)) := by
  rw [List.take_succ_eq_append_getElem hi, List.all_append, List.getD_eq_getElem?_getD, List.getElem?_eq_getElem hi]; simp
theorem allS_stop {p : Sn → Bool} {l : List Sn} {i : Nat} (hi : i < l.length) (h : p (l.getD i sn0) = false) : l.all p = false := by
  rw [List.all_eq_false]
  exact ⟨l.getD i sn0, by rw [List.getD_eq_getElem?_getD, List.getElem?_eq_getElem hi]; exact List.getElem_mem hi, by rw [h]; exact Bool.false_ne_true⟩
theorem mrg1_len (acc : List Sn) (s : Sn) : (mrg1 acc s).length ≤ acc.length + 1 := by
  rw [mrg1]; split <;> simp
theorem mrg_len : ∀ (xs acc : List Sn), (xs.foldl mrg1 acc).length ≤ acc.length + xs.length
  | [], acc => by simp
  | s :: r, acc => by
    have h1 := mrg_len r (mrg1 acc s)
    have h2 := mrg1_len acc s
    simp only [List.foldl_cons, List.length_cons]
    omega
theorem filter_le {l : List Sn} {i : Nat} : ((l.take i).filter pos).length ≤ i := by
  have h1 := List.length_filter_le pos (l.take i)
  rw [List.length_take] at h1; omega
theorem c_isSpan (s : Sn) :
  Ct Tryz.prog 92 [tSn s] (tB s.ok) := by
 refine Ct.intro Tryz.func92 rfl Tryz.ntmps92 rfl ?_
 intro w F
 refine x6 ?_
 refine x8 ?_
 refine RE (xc9 (k := 1) ti98 rfl) ⟨rfl, trivial⟩ trivial ⟨rfl, trivial⟩ (R1 x5 rfl (x7 (by kernel_rfl) (x4 (x6 ?_))))
 refine x8 ?_
 refine R1 (x9 fo98_0 rfl) rfl (xa6 (0) ti3 rfl rfl rfl (At.g 0 rfl rfl) rfl (R2 xf5 rfl rfl (R1 x3 rfl ?_)))
 refine RGcaseD (t := 6) rfl (fun h15 => ?_) (fun h15 => ?_)
 ·
  refine RGon (decide_eq_true h15) rfl (x9 fo98_0 rfl) rfl ⟨rfl, trivial⟩ trivial trivial (xb7 (decide_eq_true h15) rfl rfl (0) ti3 rfl rfl rfl (At.g 0 rfl rfl) rfl (RGon (decide_eq_true h15) rfl (x9 fo98_1 rfl) rfl ⟨rfl, trivial⟩ trivial trivial (xb7 (decide_eq_true h15) rfl rfl (0) ti3 rfl rfl rfl (At.g 1 rfl rfl) rfl (RGon (decide_eq_true h15) rfl xf5 rfl ⟨rfl, rfl, trivial⟩ trivial trivial (R2 (xb2 (decide_eq_true h15)) rfl rfl (R1 x3 rfl ?_))))))
  refine RGcaseD (t := 13) rfl (fun h15_2 => ?_) (fun h15_2 => ?_)
  ·
   refine RGon (decide_eq_true h15_2) rfl (x9 fo98_1 rfl) rfl ⟨rfl, trivial⟩ trivial trivial (xb7 (decide_eq_true h15_2) rfl rfl (0) ti3 rfl rfl rfl (At.g 1 rfl rfl) rfl (RGon (decide_eq_true h15_2) rfl xf5 rfl ⟨rfl, rfl, trivial⟩ trivial trivial (R2 (xb2 (decide_eq_true h15_2)) rfl rfl (R1 x5 rfl (x7 (by kernel_rfl) (x4 (xa1 ?_)))))))
   exact xa4 Plain.mk' rfl rfl (Le.bool (by simp [Sn.ok, *]))
  ·
   refine RGoff (decide_eq_false h15_2) rfl rfl (RGoff (decide_eq_false h15_2) rfl rfl (RGoff (decide_eq_false h15_2) rfl rfl (R2 (xb0 (decide_eq_false h15_2)) rfl rfl (R1 x5 rfl (x7 (by kernel_rfl) (x4 (xa1 ?_)))))))
   exact xa4 Plain.mk' rfl rfl (Le.bool (by simp [Sn.ok, *]))
 ·
  refine RGoff (decide_eq_false h15) rfl rfl (RGoff (decide_eq_false h15) rfl rfl (RGoff (decide_eq_false h15) rfl rfl (RGoff (decide_eq_false h15) rfl rfl (RGoff (decide_eq_false h15) rfl rfl (R2 (xb0 (decide_eq_false h15)) rfl rfl (R1 x3 rfl (RGoff0 rfl rfl ?_)))))))
  refine RGoff0 rfl rfl (RGoff0 rfl rfl (R2 (xb0 rfl) rfl rfl (R1 x5 rfl (x7 (by kernel_rfl) (x4 (xa1 ?_))))))
  exact xa4 Plain.mk' rfl rfl (Le.bool (by simp [Sn.ok, *]))
theorem c_SnMake (l : List Sn) (hl : l.length ≤ 1000000) :
  Ct Tryz.prog 60 [tL 2 true tSn l] (tT [tL 2 true tSn (if l.all Sn.ok = true then mkS l else []), tI (if l.all Sn.ok = true then 0 else 2)]) := by
 refine Ct.intro Tryz.func60 rfl Tryz.ntmps60 rfl ?_
 intro w F
 refine x6 ?_
 refine x8 ?_
 refine R1 x5 rfl (R1 x5 rfl (x7 (by kernel_rfl) (x4 (x6 ?_))))
 refine x8 ?_
 refine RE (d_assignN (k := 4) 98 2 true rfl (fun h => by cases h)) trivial trivial ⟨rfl, trivial⟩ (x7 (by kernel_rfl) (x4 (x6 (x6 ?_))))
 refine x8 ?_
 refine R1 x3 rfl (R1 (xc4 Tryz.underlying71) rfl (R1 x3 rfl (x7 (by kernel_rfl) (x4 (xb3 ?_)))))
 refine xe1 (fun (fm : (Nat) × (List Sn)) => (fun (i : Nat) (xs : List Sn) => i ≤ l.length ∧ (l.take i).all Sn.ok = true ∧ xs = (l.take i).filter pos) fm.1 fm.2) (fun (fm : (Nat) × (List Sn)) => (fun (i : Nat) (xs : List Sn) => upd (upd (upd (upd (upd (fun _ => none) 0 (some (.val (tL 2 true tSn l)))) 4 (some (.own (.sl 4 2 0 xs.length)))) 11 (some (.val (tL 2 true tSn l)))) 12 (some (.val (tI l.length)))) 13 (some (.val (tI i)))) fm.1 fm.2) (fun (fm : (Nat) × (List Sn)) => (fun (i : Nat) (xs : List Sn) => upd (fun _ => none) 4 (some (⟨98, 2, true, rV tSn xs⟩))) fm.1 fm.2) (nm [4]) (fun (fm : (Nat) × (List Sn)) => (fun (i : Nat) (xs : List Sn) => l.length - i) fm.1 fm.2) ((0, [])) (by dsimp only; exact ⟨Nat.zero_le _, rfl, rfl⟩) (Sub.int rfl (by first | omega | rfl | (dsimp only; omega)) (Sub.int rfl (by first | omega | rfl | (dsimp only; omega)) (Sub.cons rfl (Sub.cons rfl (Sub.cons rfl Sub.nil))))) ((SubK.consI rfl ImpK.refl) SubK.nil) (SupG.val (SupG.val (SupG.val (SupG.own rfl (SupG.val SupG.nil))))) (SupH.cons rfl (supJ xe5) SupH.nil) (lkOk rfl) ?_
 intro fm hI
 obtain ⟨i, xs⟩ := fm
 replace hI : i ≤ l.length ∧ (l.take i).all Sn.ok = true ∧ xs = (l.take i).filter pos := hI
 show wc _ _ _ _ (upd (upd (upd (upd (upd (fun _ => none) 0 (some (.val (tL 2 true tSn l)))) 4 (some (.own (.sl 4 2 0 xs.length)))) 11 (some (.val (tL 2 true tSn l)))) 12 (some (.val (tI l.length)))) 13 (some (.val (tI i)))) (upd (fun _ => none) 4 (some (⟨98, 2, true, rV tSn xs⟩))) _
 obtain ⟨hi, ha, hx⟩ := hI
 have hxl : xs.length ≤ i := hx ▸ filter_le
 refine x6 ?_
 refine x8 ?_
 refine R2 xd8 rfl rfl (x7 (by kernel_rfl) (x4 (x6 ?_)))
 refine xc0 rfl (fun h31 => ?_) (fun h31 => ?_)
 ·
  refine xa5 (x4 (x6 (xb3 (x6 ?_))))
  refine x8 ?_
  refine R2 (xb9 sl71 (i) (by omega) (gD (l := l) (n := i) (d := sn0) (by omega))) rfl rfl (R1 (xc5 ti98) rfl (RE (xb4 (k := 6) (n := 2) (agg := true) zr98.1 zr98.2 rfl) trivial trivial ⟨rfl, trivial⟩ (RE (xa3 (es := 2) (agg := true) (0) ti98 rfl rfl rfl) ⟨rfl, rfl, trivial⟩ ⟨rfl, trivial⟩ trivial (x7 (by kernel_rfl) (x4 (x6 (x6 ?_)))))))
  refine x8 ?_
  refine RE (xa8 (0) ti98 rfl rfl) ⟨rfl, trivial⟩ ⟨rfl, trivial⟩ trivial (R1 (xa0 (c_isSpan _) fi92 rfl) rfl (R1 xe4 rfl (x7 (by kernel_rfl) (x4 ?_))))
  refine xf8 rfl (fun h32 => ?_) (fun h32 => ?_)
  ·
   have hbad : l.all Sn.ok = false := allS_stop (i := i) (by omega) (by rw [Bool.not_eq_true'] at h32; exact h32)
   refine x6 ?_
   refine x8 ?_
   refine R1 x5 rfl (R1 x5 rfl (x7 (by kernel_rfl) (x4 (xa1 (xa7 (xc6 (xa7 ?_)))))))
   refine xa7 (xc6 (xa7 ?_))
   exact E_ret2 Plain.mk' rfl rfl rfl (leNil (by rw [if_neg (by rw [hbad]; exact Bool.false_ne_true)])) (Le.int (by rw [if_neg (by rw [hbad]; exact Bool.false_ne_true)]))
  ·
   rw [Bool.not_eq_false'] at h32
   refine xa5 (x4 (x6 ?_))
   refine x8 ?_
   refine R1 (x9 fo98_0 rfl) rfl (xa6 (0) ti3 rfl rfl rfl (At.g 0 rfl rfl) rfl (R1 (x9 fo98_1 rfl) rfl (xa6 (0) ti3 rfl rfl rfl (At.g 1 rfl rfl) rfl (R2 xd8 rfl rfl (x7 (by kernel_rfl) (x4 ?_))))))
   refine xc0 rfl (fun h35 => ?_) (fun h35 => ?_)
   ·
    refine x8 ?_
    refine R1 x3 rfl (RE (xa8 (0) ti98 rfl rfl) ⟨rfl, trivial⟩ ⟨rfl, trivial⟩ trivial (R1 (xf7 (n := 1) (f := tSn) [(l.getD i sn0)] Tryz.underlying71 el98 zf98 rfl (fun _ => inferInstance) rfl rfl rfl) rfl (RE (xf6 (k := 4) (k' := 28) (f := tSn) (ys := [(l.getD i sn0)]) (ts' := rV tSn (xs ++ [(l.getD i sn0)])) Tryz.underlying71 el98 zf98 rfl rfl (fun _ => inferInstance) rV_len (by simp; omega) (by simp; omega) (by simp [rV]) (n' := xs.length + 1) rfl) ⟨rfl, rfl, trivial⟩ ⟨rfl, trivial⟩ ⟨rfl, trivial⟩ (R1 x5 rfl (x7 (by kernel_rfl) (xc1 (x4 ?_)))))))
    refine x8 ?_
    refine R2 (xb6 (wr64 (by omega) (by omega))) rfl rfl (R1 x3 rfl (x7 (by kernel_rfl) ?_))
    exact K_famR (l := [4]) (fun j => cond (Nat.beq j 4) 28 (j)) ((i + 1, xs ++ [(l.getD i sn0)])) ⟨(by dsimp only; exact ⟨by omega, by rw [allS_next (by omega), ha, h32]; rfl, by rw [filter_next (by omega), ← hx, if_pos (show pos _ = true from decide_eq_true h35)]⟩), (by dsimp only; omega)⟩ (SubR.int rfl (by first | omega | rfl | (dsimp only; omega)) (SubR.int rfl (by first | omega | rfl | (dsimp only; omega)) (SubR.cons rfl ((SubR.consI rfl (Imp.of (by dsimp only; rw [List.length_append]; rfl))) (SubR.cons rfl SubR.nil))))) ((SubKR.consI rfl (ImpK.of ren_rV.symm)) SubKR.nil) (SupG.val (SupG.val (SupG.val (SupG.own rfl (SupG.val SupG.nil))))) (SupH.cons rfl (supJ xe5) SupH.nil) (lkOk rfl) rfl rfl (fun _ h => by cases h)
   ·
    refine xa5 (xc1 (x4 ?_))
    refine x8 ?_
    refine R2 (xb6 (wr64 (by omega) (by omega))) rfl rfl (R1 x3 rfl (x7 (by kernel_rfl) ?_))
    exact xc2 ((i + 1, xs)) ⟨(by dsimp only; exact ⟨by omega, by rw [allS_next (by omega), ha, h32]; rfl, by rw [filter_next (by omega), ← hx, if_neg (by rw [pos, decide_eq_false h35]; exact Bool.false_ne_true), List.append_nil]⟩), (by dsimp only; omega)⟩ (Sub.int rfl (by first | omega | rfl | (dsimp only; omega)) (Sub.int rfl (by first | omega | rfl | (dsimp only; omega)) (Sub.cons rfl (Sub.cons rfl (Sub.cons rfl Sub.nil))))) ((SubK.consI rfl ImpK.refl) SubK.nil) (SupG.val (SupG.val (SupG.val (SupG.own rfl (SupG.val SupG.nil))))) (SupH.cons rfl (supJ xe5) SupH.nil) (lkOk rfl)
 ·
  refine xd4 (xb8 (xb8 (xe0 (x4 (x6 ?_)))))
  have hil : i = l.length := by omega
  subst hil
  rw [List.take_length] at ha hx
  have hall := ha
  have hmk : mkS l = mrg (srt cfSn xs) := by rw [mkS, hx]
  refine x8 ?_
  refine R1 x3 rfl (RE (xg8 (fun _ => 4) (c_sortSn xs (by omega)) fi93 rfl (krC (ρ := fun _ => 4) (k := 1) ren_rV (krN (ρ := fun _ => 4))) (krC (ρ := fun _ => 4) (k := 1) ren_rV (krN (ρ := fun _ => 4))) ⟨⟨rfl, xe5⟩, trivial⟩ rfl) ⟨rfl, rfl, trivial⟩ ⟨rfl, trivial⟩ trivial (x7 (by kernel_rfl) (x4 (x6 ?_))))
  refine x8 ?_
  refine RE (d_assignN (k := 7) 98 2 true rfl (fun h => by cases h)) trivial trivial ⟨rfl, trivial⟩ (x7 (by kernel_rfl) (x4 (x6 (x6 ?_))))
  refine x8 ?_
  refine R1 x3 rfl (R1 (d_lenO Tryz.underlying71) rfl (R1 x3 rfl (x7 (by kernel_rfl) (x4 (xb3 ?_)))))
  refine xe1 (fun (fm : (Nat) × (List Sn)) => (fun (i : Nat) (zs : List Sn) => i ≤ xs.length ∧ zs = mrg ((srt cfSn xs).take i)) fm.1 fm.2) (fun (fm : (Nat) × (List Sn)) => (fun (i : Nat) (zs : List Sn) => upd (upd (upd (upd (upd (fun _ => none) 4 (some (.own (.sl 4 2 0 xs.length)))) 7 (some (.own (.sl 7 2 0 zs.length)))) 32 (some (.own (.sl 4 2 0 xs.length)))) 33 (some (.val (tI xs.length)))) 34 (some (.val (tI i)))) fm.1 fm.2) (fun (fm : (Nat) × (List Sn)) => (fun (i : Nat) (zs : List Sn) => upd (upd (fun _ => none) 4 (some (⟨98, 2, true, rV tSn (srt cfSn xs)⟩))) 7 (some (⟨98, 2, true, rV tSn zs⟩))) fm.1 fm.2) (nm [4, 7]) (fun (fm : (Nat) × (List Sn)) => (fun (i : Nat) (zs : List Sn) => xs.length - i) fm.1 fm.2) ((0, [])) (by dsimp only; exact ⟨Nat.zero_le _, rfl⟩) (Sub.int rfl (by first | omega | rfl | (dsimp only; omega)) (Sub.int rfl (by first | omega | rfl | (dsimp only; omega)) (Sub.cons rfl (Sub.cons rfl (Sub.cons rfl Sub.nil))))) ((SubK.consI rfl ImpK.refl) ((SubK.consI rfl ImpK.refl) SubK.nil)) (SupG.val (SupG.val (SupG.own rfl (SupG.own rfl (SupG.own rfl SupG.nil))))) (SupH.cons rfl (supJ xe5) (SupH.cons rfl (supJ xe5) SupH.nil)) (lkOk rfl) ?_
  intro fm hI
  obtain ⟨i, zs⟩ := fm
  replace hI : i ≤ xs.length ∧ zs = mrg ((srt cfSn xs).take i) := hI
  show wc _ _ _ _ (upd (upd (upd (upd (upd (fun _ => none) 4 (some (.own (.sl 4 2 0 xs.length)))) 7 (some (.own (.sl 7 2 0 zs.length)))) 32 (some (.own (.sl 4 2 0 xs.length)))) 33 (some (.val (tI xs.length)))) 34 (some (.val (tI i)))) (upd (upd (fun _ => none) 4 (some (⟨98, 2, true, rV tSn (srt cfSn xs)⟩))) 7 (some (⟨98, 2, true, rV tSn zs⟩))) _
  obtain ⟨hi', hz⟩ := hI
  have hsl := srtSn_len (xs := xs)
  have hzl : zs.length ≤ i := by
   have h := mrg_len ((srt cfSn xs).take i) []
   rw [List.length_take] at h
   have h2 : zs.length ≤ ([] : List Sn).length + min i (srt cfSn xs).length := by rw [hz]; exact h
   simp at h2; omega
  refine x6 ?_
  refine x8 ?_
  refine R2 xd8 rfl rfl (x7 (by kernel_rfl) (x4 (x6 ?_)))
  refine xc0 rfl (fun h41 => ?_) (fun h41 => ?_)
  ·
   refine xa5 (x4 (x6 (xb3 (x6 ?_))))
   refine x8 ?_
   refine R2 (xd0 sl71 (by omega) (by omega) rfl) rfl rfl (RE (xa8 (i) ti98 (rV_getD (d := sn0) (by omega)) (by omega)) ⟨rfl, trivial⟩ ⟨rfl, trivial⟩ trivial (RE (xb4 (k := 9) (n := 2) (agg := true) zr98.1 zr98.2 rfl) trivial trivial ⟨rfl, trivial⟩ (RE (xa3 (es := 2) (agg := true) (0) ti98 rfl rfl rfl) ⟨rfl, rfl, trivial⟩ ⟨rfl, trivial⟩ trivial (x7 (by kernel_rfl) (x4 (x6 ?_))))))
   refine x8 ?_
   refine R1 x3 rfl (R1 (d_lenO Tryz.underlying71) rfl (R1 x5 rfl (x7 (by kernel_rfl) (x4 (x6 ?_)))))
   refine xd5 mixed ?_
   refine R1 x3 rfl (R2 d_gtr rfl rfl (R1 x3 rfl ?_))
   refine RGcaseD (t := 42) rfl (fun h42 => ?_) (fun h42 => ?_)
   ·
    refine RGon (decide_eq_true h42) rfl x3 rfl ⟨rfl, trivial⟩ trivial trivial (RGon (decide_eq_true h42) rfl x3 rfl ⟨rfl, trivial⟩ trivial trivial (RGon (decide_eq_true h42) rfl (xd9 (wr64 (by omega) (by omega))) rfl ⟨rfl, rfl, trivial⟩ trivial trivial (RGon (decide_eq_true h42) rfl (xd0 sl71 (by omega) (by omega) rfl) rfl ⟨rfl, rfl, trivial⟩ trivial trivial (RGon (decide_eq_true h42) rfl (x9 fo98_1 rfl) rfl ⟨rfl, trivial⟩ trivial trivial (RGon (decide_eq_true h42) rfl (d_loadF (es := 2) (o := 1) (zs.length - 1) ti3 (rV_getD (d := sn0) (by omega)) (At.g 1 rfl rfl) (by omega)) rfl ⟨rfl, trivial⟩ ⟨rfl, trivial⟩ trivial (RGon (decide_eq_true h42) rfl (x9 fo98_0 rfl) rfl ⟨rfl, trivial⟩ trivial trivial (xb7 (decide_eq_true h42) rfl rfl (0) ti3 rfl rfl rfl (At.g 0 rfl rfl) rfl ?_)))))))
    refine RGon (decide_eq_true h42) rfl d_geq rfl ⟨rfl, rfl, trivial⟩ trivial trivial (R2 (xb2 (decide_eq_true h42)) rfl rfl (xd6 (by kernel_rfl) (x4 ?_)))
    refine xc0 rfl (fun h42_2 => ?_) (fun h42_2 => ?_)
    ·
     refine xd5 mixed ?_
     refine R1 x3 rfl (R1 x3 rfl (R2 (xd9 (wr64 (by omega) (by omega))) rfl rfl (R1 x3 rfl (R1 x3 rfl (R2 (xd9 (wr64 (by omega) (by omega))) rfl rfl (R2 (xd0 sl71 (by omega) (by omega) rfl) rfl rfl (R1 (x9 fo98_1 rfl) rfl ?_)))))))
     refine RE (d_loadF (es := 2) (o := 1) (zs.length - 1) ti3 (rV_getD (d := sn0) (by omega)) (At.g 1 rfl rfl) (by omega)) ⟨rfl, trivial⟩ ⟨rfl, trivial⟩ trivial (R1 (x9 fo98_1 rfl) rfl (xa6 (0) ti3 rfl rfl rfl (At.g 1 rfl rfl) rfl (R2 d_max2 rfl rfl (R2 (xd0 sl71 (by omega) (by omega) rfl) rfl rfl (R1 (x9 fo98_1 rfl) rfl (RE (d_storeF (es := 2) (o := 1) (t2 := tSn ⟨(zs.getD (zs.length - 1) sn0).lo, max (zs.getD (zs.length - 1) sn0).hi ((srt cfSn xs).getD i sn0).hi⟩) (zs.length - 1) ti3 (rV_getD (d := sn0) (by omega)) (Up.f (f := ⟨1, false, tI (zs.getD (zs.length - 1) sn0).hi⟩) 1 rfl rfl rfl) (by omega) (rV_set rfl)) ⟨rfl, rfl, trivial⟩ ⟨rfl, trivial⟩ trivial (xd6 (by kernel_rfl) ?_)))))))
     refine xc1 (x4 ?_)
     refine x8 ?_
     refine R2 (xb6 (wr64 (by omega) (by omega))) rfl rfl (R1 x3 rfl (x7 (by kernel_rfl) ?_))
     exact xc2 ((i + 1, (zs.set (zs.length - 1) ⟨(zs.getD (zs.length - 1) sn0).lo, max (zs.getD (zs.length - 1) sn0).hi ((srt cfSn xs).getD i sn0).hi⟩))) ⟨(by dsimp only; exact ⟨by omega, by rw [mrg_next (by omega), ← hz, mrg1, if_pos ⟨by omega, by omega⟩]⟩), (by dsimp only; omega)⟩ (Sub.int rfl (by first | omega | rfl | (dsimp only; omega)) (Sub.int rfl (by first | omega | rfl | (dsimp only; omega)) (Sub.cons rfl ((Sub.consI rfl (Imp.of (by dsimp only; rw [List.length_set]))) (Sub.cons rfl Sub.nil))))) ((SubK.consI rfl ImpK.refl) ((SubK.consI rfl ImpK.refl) SubK.nil)) (SupG.val (SupG.val (SupG.own rfl (SupG.own rfl (SupG.own rfl SupG.nil))))) (SupH.cons rfl (supJ xe5) (SupH.cons rfl (supJ xe5) SupH.nil)) (lkOk rfl)
    ·
     refine x8 ?_
     refine R1 x3 rfl (RE (xa8 (0) ti98 rfl rfl) ⟨rfl, trivial⟩ ⟨rfl, trivial⟩ trivial (R1 (xf7 (n := 1) (f := tSn) [((srt cfSn xs).getD i sn0)] Tryz.underlying71 el98 zf98 rfl (fun _ => inferInstance) rfl rfl rfl) rfl (RE (xf6 (k := 7) (k' := 70) (f := tSn) (ys := [((srt cfSn xs).getD i sn0)]) (ts' := rV tSn (zs ++ [((srt cfSn xs).getD i sn0)])) Tryz.underlying71 el98 zf98 rfl rfl (fun _ => inferInstance) rV_len (by simp; omega) (by simp; omega) (by simp [rV]) (n' := zs.length + 1) rfl) ⟨rfl, rfl, trivial⟩ ⟨rfl, trivial⟩ ⟨rfl, trivial⟩ (R1 x5 rfl (x7 (by kernel_rfl) (xc1 (x4 ?_)))))))
     refine x8 ?_
     refine R2 (xb6 (wr64 (by omega) (by omega))) rfl rfl (R1 x3 rfl (x7 (by kernel_rfl) ?_))
     exact K_famR (l := [4, 7]) (fun j => cond (Nat.beq j 7) 70 (j)) ((i + 1, zs ++ [((srt cfSn xs).getD i sn0)])) ⟨(by dsimp only; exact ⟨by omega, by rw [mrg_next (by omega), ← hz, mrg1, if_neg (by omega)]⟩), (by dsimp only; omega)⟩ (SubR.int rfl (by first | omega | rfl | (dsimp only; omega)) (SubR.int rfl (by first | omega | rfl | (dsimp only; omega)) (SubR.cons rfl ((SubR.consI rfl (Imp.of (by dsimp only; rw [List.length_append]; rfl))) (SubR.cons rfl SubR.nil))))) ((SubKR.consI rfl (ImpK.of ren_rV.symm)) ((SubKR.consI rfl (ImpK.of ren_rV.symm)) SubKR.nil)) (SupG.val (SupG.val (SupG.own rfl (SupG.own rfl (SupG.own rfl SupG.nil))))) (SupH.cons rfl (supJ xe5) (SupH.cons rfl (supJ xe5) SupH.nil)) (lkOk rfl) rfl rfl (fun _ h => by cases h)
   ·
    refine RGoff (decide_eq_false h42) rfl rfl (RGoff (decide_eq_false h42) rfl rfl (RGoff (decide_eq_false h42) rfl rfl (RGoff (decide_eq_false h42) rfl rfl (RGoff (decide_eq_false h42) rfl rfl (RGoff (decide_eq_false h42) rfl rfl (RGoff (decide_eq_false h42) rfl rfl (RGoff (decide_eq_false h42) rfl rfl ?_)))))))
    refine RGoff (decide_eq_false h42) rfl rfl (R2 (xb0 (decide_eq_false h42)) rfl rfl (xd6 (by kernel_rfl) (x4 (C_bF rfl rfl ?_))))
    refine x8 ?_
    refine R1 x3 rfl (RE (xa8 (0) ti98 rfl rfl) ⟨rfl, trivial⟩ ⟨rfl, trivial⟩ trivial (R1 (xf7 (n := 1) (f := tSn) [((srt cfSn xs).getD i sn0)] Tryz.underlying71 el98 zf98 rfl (fun _ => inferInstance) rfl rfl rfl) rfl (RE (xf6 (k := 7) (k' := 70) (f := tSn) (ys := [((srt cfSn xs).getD i sn0)]) (ts' := rV tSn (zs ++ [((srt cfSn xs).getD i sn0)])) Tryz.underlying71 el98 zf98 rfl rfl (fun _ => inferInstance) rV_len (by simp; omega) (by simp; omega) (by simp [rV]) (n' := zs.length + 1) rfl) ⟨rfl, rfl, trivial⟩ ⟨rfl, trivial⟩ ⟨rfl, trivial⟩ (R1 x5 rfl (x7 (by kernel_rfl) (xc1 (x4 ?_)))))))
    refine x8 ?_
    refine R2 (xb6 (wr64 (by omega) (by omega))) rfl rfl (R1 x3 rfl (x7 (by kernel_rfl) ?_))
    exact K_famR (l := [4, 7]) (fun j => cond (Nat.beq j 7) 70 (j)) ((i + 1, zs ++ [((srt cfSn xs).getD i sn0)])) ⟨(by dsimp only; exact ⟨by omega, by rw [mrg_next (by omega), ← hz, mrg1, if_neg (by omega)]⟩), (by dsimp only; omega)⟩ (SubR.int rfl (by first | omega | rfl | (dsimp only; omega)) (SubR.int rfl (by first | omega | rfl | (dsimp only; omega)) (SubR.cons rfl ((SubR.consI rfl (Imp.of (by dsimp only; rw [List.length_append]; rfl))) (SubR.cons rfl SubR.nil))))) ((SubKR.consI rfl (ImpK.of ren_rV.symm)) ((SubKR.consI rfl (ImpK.of ren_rV.symm)) SubKR.nil)) (SupG.val (SupG.val (SupG.own rfl (SupG.own rfl (SupG.own rfl SupG.nil))))) (SupH.cons rfl (supJ xe5) (SupH.cons rfl (supJ xe5) SupH.nil)) (lkOk rfl) rfl rfl (fun _ h => by cases h)
  ·
   refine xd4 (xb8 (xb8 (xe0 (x4 (x6 ?_)))))
   refine x8 ?_
   refine R1 x3 rfl (RE (d_assignS (f := tSn) (xs := zs) (fun _ h => h) (rV_all rfl) rfl) ⟨rfl, trivial⟩ ⟨rfl, trivial⟩ trivial (R1 x5 rfl (x7 (by kernel_rfl) (x4 (xa1 ?_)))))
   exact E_ret2 Plain.mk' rfl rfl rfl (Le.of (by rw [if_pos hall, hmk, hz, show i = (srt cfSn xs).length by omega, List.take_length])) (Le.int (by rw [if_pos hall]))
end An.S

/- A slice of memory that was lent gets a name of one's own. For any program. -/
namespace An
open Go
theorem C_renS {P : Program} {c : Base} {g : Slots} {h : Keys} {al : Names} {Q : Exit → Act → World → Prop} {x : Code} {t k es off len : Nat} {y : HEnt} (k' : Nat) (hs : g t = some (.own (.sl k es off len))) (hk : h k = some y) (hk' : al k' = false)
    (H : wc P c x Q (upd g t (some (.own (.sl k' es off len)))) (upd (upd h k none) k' (some y)) (fun j => Nat.beq j k' || al j)) : wc P c x Q g h al := fun a w hst => by
  obtain ⟨η, s⟩ := hst
  have s2 := s.rename hk hk'
  have h1 := (s2.slot t _ hs).2.2
  have hk1 : k ≠ k' := fun e => by have := (s.key k _ hk).1; rw [e, hk'] at this; cases this
  obtain ⟨hb, hc⟩ := η.set_other (k := k') (j := k) (η.b k) (η.c k) hk1
  have h2 : Ent.sat (c.dom (upd (upd h k none) k' (some y)) (η.set k' (η.b k) (η.c k))) w (η.set k' (η.b k) (η.c k)) (.own (.sl k' es off len)) (a.tmps.getD t undef) := by
    obtain ⟨A, e1, e2, e3⟩ := h1
    rw [hc] at e1 e2 e3; rw [hb] at e3
    exact ⟨A, by rw [Env.set_c]; exact e1, by rw [Env.set_c]; exact e2, by rw [Env.set_c, Env.set_b]; exact e3⟩
  have s3 := s2.put (s2.slot t _ hs).1 h2 fun j hj => by
    simp only [Ent.supp, VP.supp, List.mem_singleton] at hj
    subst hj; simp
  have ea : a.put (some t) (a.tmps.getD t undef) = a := by
    have hlt : t < a.tmps.size := by rw [s.tn]; exact (s.slot t _ hs).1
    have : a.tmps.setIfInBounds t (a.tmps.getD t undef) = a.tmps := by
      apply Array.ext_getElem?
      intro i
      rw [Array.getElem?_setIfInBounds]
      by_cases hi : t = i
      · subst hi; simp [hlt]
      · simp [hi]
    simp only [Act.put, this]
  rw [ea] at s3
  exact H a w ⟨_, s3⟩
end An

/- Layers 4 and 5: sets are checked and bridged, pieces of timelines are put together. -/
namespace An.S
open Go Go.Proofs An
set_option maxHeartbeats 2000000
theorem fi50 : FnI Tryz.prog 50 := ⟨_, Tryz.func50, by kernel_rfl, rfl⟩
theorem fi55 : FnI Tryz.prog 55 := ⟨_, Tryz.func55, by kernel_rfl, rfl⟩
theorem fi56 : FnI Tryz.prog 56 := ⟨_, Tryz.func56, by kernel_rfl, rfl⟩
theorem fi91 : FnI Tryz.prog 91 := ⟨_, Tryz.func91, by kernel_rfl, rfl⟩
theorem el41 : ElI Tryz.prog 41 8 96 true (.agg #[.int .i64 0, .int .i64 0, .int .u8 0, .bool false, .slice none 0 0, .bool false, .slice none 0 0, .int .i64 0]) := ⟨ti41, by kernel_rfl, by kernel_rfl⟩
theorem bu41 : BuI Tryz.prog 41 (fun i => [(0, 1), (1, 1), (2, 6)][i]?) (.agg #[.int .i64 0, .int .i64 0, .int .u8 0, .bool false, .slice none 0 0, .bool false, .slice none 0 0, .int .i64 0]) := BuI.struct Tryz.underlying41 (by kernel_rfl) (by kernel_rfl)
theorem zf41 : Flat 8 true (.agg #[.int .i64 0, .int .i64 0, .int .u8 0, .bool false, .slice none 0 0, .bool false, .slice none 0 0, .int .i64 0]) := flat_agg (by intro u hu; simp at hu; rcases hu with rfl | rfl | rfl | rfl | rfl | rfl | rfl | rfl <;> rfl)
/-- A span and the one before it. -/
def sOkA (l : List Sn) (i : Nat) : Bool := (l.getD i sn0).ok && decide ((l.getD i sn0).lo ≠ (l.getD i sn0).hi) && (decide (i = 0) || decide ((l.getD (i - 1) sn0).hi < (l.getD i sn0).lo))
def sVal (l : List Sn) : Bool := (List.range l.length).all (sOkA l)
theorem sOkA_iff {l : List Sn} {i : Nat} : sOkA l i = true ↔ (l.getD i sn0).ok = true ∧ (l.getD i sn0).lo ≠ (l.getD i sn0).hi ∧ (i = 0 ∨ (l.getD (i - 1) sn0).hi < (l.getD i sn0).lo) := by
  simp only [sOkA, Bool.and_eq_true, Bool.or_eq_true, decide_eq_true_eq, and_assoc]
theorem sVal_at {l : List Sn} {i : Nat} (h : sVal l = true) (hi : i < l.length) : 0 ≤ (l.getD i sn0).lo ∧ (l.getD i sn0).lo < (l.getD i sn0).hi ∧ (l.getD i sn0).hi ≤ 65536 := by
  have h1 := sOkA_iff.1 (List.all_eq_true.1 h i (List.mem_range.2 hi))
  simp only [Sn.ok, Bool.and_eq_true, decide_eq_true_eq] at h1
  omega
/-- Bridged: a span, behind a set. -/
def brg1 (d : Int) (acc : List Sn) (s : Sn) : List Sn :=
  if 0 < acc.length ∧ s.lo - (acc.getD (acc.length - 1) sn0).hi ≤ d then acc.set (acc.length - 1) ⟨(acc.getD (acc.length - 1) sn0).lo, s.hi⟩ else acc ++ [s]
def brg (d : Int) (l : List Sn) : List Sn := l.foldl (brg1 d) []
theorem c_paste (zs ps : List Tst) (hz : zs.length ≤ 1000000) (hp : ps.length ≤ 1000000) (hD : ∀ s ∈ ps, s.v.f.n.l.length ≤ 1000000 ∧ s.v.f.d.l.length ≤ 1000000) :
  CtG Tryz.prog 56 [(1, ⟨41, 8, true, rV tTs zs⟩)] [.own (.sl 1 8 0 zs.length), .val (tL 8 true tTs ps)] (.own (.sl 90 8 0 (pst zs ps).length)) [(90, ⟨41, 8, true, rV tTs (pst zs ps)⟩)] [90] := by
 refine CtG.intro [1] Tryz.func56 rfl Tryz.ntmps56 rfl rfl ⟨⟨rfl, xe5⟩, trivial⟩ ?_
 intro w F η
 refine C_renS (t := 0) (k := 1) 90 rfl rfl rfl ?_
 refine x6 ?_
 refine x8 ?_
 refine R1 x5 rfl (x7 (by kernel_rfl) (x4 (x6 (x6 ?_))))
 refine x8 ?_
 refine R1 x3 rfl (R1 (xc4 Tryz.underlying24) rfl (R1 x3 rfl (x7 (by kernel_rfl) (x4 (xb3 ?_)))))
 refine xe1 (fun (fm : (Nat) × (List Tst)) => (fun (i : Nat) (xs : List Tst) => i ≤ ps.length ∧ xs = pst zs (ps.take i)) fm.1 fm.2) (fun (fm : (Nat) × (List Tst)) => (fun (i : Nat) (xs : List Tst) => upd (upd (upd (upd (fun _ => none) 0 (some (.own (.sl 90 8 0 xs.length)))) 8 (some (.val (tL 8 true tTs ps)))) 9 (some (.val (tI ps.length)))) 10 (some (.val (tI i)))) fm.1 fm.2) (fun (fm : (Nat) × (List Tst)) => (fun (i : Nat) (xs : List Tst) => upd (fun _ => none) 90 (some (⟨41, 8, true, rV tTs xs⟩))) fm.1 fm.2) (nm [90, 1]) (fun (fm : (Nat) × (List Tst)) => (fun (i : Nat) (xs : List Tst) => ps.length - i) fm.1 fm.2) ((0, zs)) (by dsimp only; exact ⟨Nat.zero_le _, rfl⟩) (Sub.int rfl (by first | omega | rfl | (dsimp only; omega)) (Sub.int rfl (by first | omega | rfl | (dsimp only; omega)) (Sub.cons rfl (Sub.cons rfl Sub.nil)))) ((SubK.consI rfl ImpK.refl) SubK.nil) (SupG.val (SupG.val (SupG.val (SupG.own rfl SupG.nil)))) (SupH.cons rfl (supJ xe5) SupH.nil) (lkOk rfl) ?_
 intro fm hI
 obtain ⟨i, xs⟩ := fm
 replace hI : i ≤ ps.length ∧ xs = pst zs (ps.take i) := hI
 show wc _ _ _ _ (upd (upd (upd (upd (fun _ => none) 0 (some (.own (.sl 90 8 0 xs.length)))) 8 (some (.val (tL 8 true tTs ps)))) 9 (some (.val (tI ps.length)))) 10 (some (.val (tI i)))) (upd (fun _ => none) 90 (some (⟨41, 8, true, rV tTs xs⟩))) _
 obtain ⟨hi, hx⟩ := hI
 have hxl : xs.length ≤ zs.length + i := by
  have h := pst_len (ps.take i) zs
  rw [← hx, List.length_take] at h; omega
 refine x6 ?_
 refine x8 ?_
 refine R2 xd8 rfl rfl (x7 (by kernel_rfl) (x4 (x6 ?_)))
 refine xc0 rfl (fun h68 => ?_) (fun h68 => ?_)
 ·
  refine xa5 (x4 (x6 (xb3 (x6 ?_))))
  refine x8 ?_
  refine R2 (xb9 sl24 (i) (by omega) (gD (l := ps) (n := i) (d := tst0) (by omega))) rfl rfl (R1 (xc5 ti41) rfl (RE (xb4 (k := 6) (n := 8) (agg := true) zr41.1 zr41.2 rfl) trivial trivial ⟨rfl, trivial⟩ (RE (xa3 (es := 8) (agg := true) (0) ti41 rfl rfl rfl) ⟨rfl, rfl, trivial⟩ ⟨rfl, trivial⟩ trivial (x7 (by kernel_rfl) (x4 (x6 (x6 ?_)))))))
  refine x8 ?_
  refine R1 (x9 fo41_0 rfl) rfl (xa6 (0) ti3 rfl rfl rfl (At.g 0 rfl rfl) rfl (R1 (x9 fo41_1 rfl) rfl (xa6 (0) ti3 rfl rfl rfl (At.g 1 rfl rfl) rfl (R2 d_geq rfl rfl (x7 (by kernel_rfl) (x4 ?_))))))
  refine xc0 rfl (fun h69 => ?_) (fun h69 => ?_)
  ·
   refine xd4 (xb8 (xe0 (x4 ?_)))
   refine x8 ?_
   refine R2 (xb6 (wr64 (by omega) (by omega))) rfl rfl (R1 x3 rfl (x7 (by kernel_rfl) ?_))
   exact xc2 ((i + 1, xs)) ⟨(by dsimp only; exact ⟨by omega, by rw [pst_snoc _ (by omega), ← hx, pst1, if_pos (by omega)]⟩), (by dsimp only; omega)⟩ (Sub.int rfl (by first | omega | rfl | (dsimp only; omega)) (Sub.int rfl (by first | omega | rfl | (dsimp only; omega)) (Sub.cons rfl (Sub.cons rfl Sub.nil)))) ((SubK.consI rfl ImpK.refl) SubK.nil) (SupG.val (SupG.val (SupG.val (SupG.own rfl SupG.nil)))) (SupH.cons rfl (supJ xe5) SupH.nil) (lkOk rfl)
  ·
   refine xa5 (x4 (x6 ?_))
   refine x8 ?_
   refine R1 x3 rfl (R1 (d_lenO Tryz.underlying24) rfl (R1 x5 rfl (x7 (by kernel_rfl) (x4 (x6 ?_)))))
   refine xd5 mixed ?_
   refine R1 x3 rfl (R2 d_gtr rfl rfl (R1 x3 rfl ?_))
   refine RGcaseD (t := 23) rfl (fun h72 => ?_) (fun h72 => ?_)
   ·
    refine RGon (decide_eq_true h72) rfl x3 rfl ⟨rfl, trivial⟩ trivial trivial (RGon (decide_eq_true h72) rfl x3 rfl ⟨rfl, trivial⟩ trivial trivial (RGon (decide_eq_true h72) rfl (xd9 (wr64 (by omega) (by omega))) rfl ⟨rfl, rfl, trivial⟩ trivial trivial (RGon (decide_eq_true h72) rfl (xd0 sl24 (by omega) (by omega) rfl) rfl ⟨rfl, rfl, trivial⟩ trivial trivial (RGon (decide_eq_true h72) rfl (x9 fo41_1 rfl) rfl ⟨rfl, trivial⟩ trivial trivial (RGon (decide_eq_true h72) rfl (d_loadF (es := 8) (o := 1) (xs.length - 1) ti3 (rV_getD (d := tst0) (by omega)) (At.g 1 rfl rfl) (by omega)) rfl ⟨rfl, trivial⟩ ⟨rfl, trivial⟩ trivial (RGon (decide_eq_true h72) rfl (x9 fo41_0 rfl) rfl ⟨rfl, trivial⟩ trivial trivial (xb7 (decide_eq_true h72) rfl rfl (0) ti3 rfl rfl rfl (At.g 0 rfl rfl) rfl ?_)))))))
    refine RGon (decide_eq_true h72) rfl xe3 rfl ⟨rfl, rfl, trivial⟩ trivial trivial (R2 (xb2 (decide_eq_true h72)) rfl rfl (R1 x3 rfl ?_))
    refine RGcaseD (t := 34) rfl (fun h72_2 => ?_) (fun h72_2 => ?_)
    ·
     refine RGon (decide_eq_true h72_2) rfl x3 rfl ⟨rfl, trivial⟩ trivial trivial (RGon (decide_eq_true h72_2) rfl x3 rfl ⟨rfl, trivial⟩ trivial trivial (RGon (decide_eq_true h72_2) rfl (xd9 (wr64 (by omega) (by omega))) rfl ⟨rfl, rfl, trivial⟩ trivial trivial (RGon (decide_eq_true h72_2) rfl (xd0 sl24 (by omega) (by omega) rfl) rfl ⟨rfl, rfl, trivial⟩ trivial trivial (RGon (decide_eq_true h72_2) rfl (x9 fo41_2 rfl) rfl ⟨rfl, trivial⟩ trivial trivial (RGon (decide_eq_true h72_2) rfl (d_loadF (es := 8) (o := 2) (xs.length - 1) ti39 (rV_getD (d := tst0) (by omega)) (At.g 2 rfl rfl) (by omega)) rfl ⟨rfl, trivial⟩ ⟨rfl, trivial⟩ trivial (RGon (decide_eq_true h72_2) rfl (x9 fo41_2 rfl) rfl ⟨rfl, trivial⟩ trivial trivial (xb7 (decide_eq_true h72_2) rfl rfl (0) ti39 rfl rfl rfl (At.g 2 rfl rfl) rfl ?_)))))))
     refine RGon (decide_eq_true h72_2) rfl (xa0 (c_TSame _ _) fi81 rfl) rfl ⟨rfl, rfl, trivial⟩ trivial trivial (R2 (xb2 (decide_eq_true h72_2)) rfl rfl (xd6 (by kernel_rfl) (x4 ?_)))
     refine xc0 rfl (fun h72_3 => ?_) (fun h72_3 => ?_)
     ·
      refine x8 ?_
      refine R1 x3 rfl (R1 x3 rfl (R2 (xd9 (wr64 (by omega) (by omega))) rfl rfl (R1 (x9 fo41_1 rfl) rfl (xa6 (0) ti3 rfl rfl rfl (At.g 1 rfl rfl) rfl (R2 (xd0 sl24 (by omega) (by omega) rfl) rfl rfl (R1 (x9 fo41_1 rfl) rfl (RE (d_storeF (es := 8) (o := 1) (t2 := tTs ⟨(xs.getD (xs.length - 1) tst0).lo, (ps.getD i tst0).hi, (xs.getD (xs.length - 1) tst0).v⟩) (xs.length - 1) ti3 (rV_getD (d := tst0) (by omega)) (Up.g 1 rfl rfl rfl) (by omega) (rV_set rfl)) ⟨rfl, rfl, trivial⟩ ⟨rfl, trivial⟩ trivial ?_)))))))
      refine x7 (by kernel_rfl) (xc1 (x4 ?_))
      refine x8 ?_
      refine R2 (xb6 (wr64 (by omega) (by omega))) rfl rfl (R1 x3 rfl (x7 (by kernel_rfl) ?_))
      exact xc2 ((i + 1, (xs.set (xs.length - 1) ⟨(xs.getD (xs.length - 1) tst0).lo, (ps.getD i tst0).hi, (xs.getD (xs.length - 1) tst0).v⟩))) ⟨(by dsimp only; exact ⟨by omega, by rw [pst_snoc _ (by omega), ← hx, pst1, if_neg (by omega), if_pos ⟨by omega, by omega, h72_3⟩]⟩), (by dsimp only; omega)⟩ (Sub.int rfl (by first | omega | rfl | (dsimp only; omega)) (Sub.int rfl (by first | omega | rfl | (dsimp only; omega)) (Sub.cons rfl ((Sub.consI rfl (Imp.of (by dsimp only; rw [List.length_set]))) Sub.nil)))) ((SubK.consI rfl ImpK.refl) SubK.nil) (SupG.val (SupG.val (SupG.val (SupG.own rfl SupG.nil)))) (SupH.cons rfl (supJ xe5) SupH.nil) (lkOk rfl)
     ·
      refine xd5 mixed ?_
      refine R1 x3 rfl (R1 (x9 fo41_0 rfl) rfl (xa6 (0) ti3 rfl rfl rfl (At.g 0 rfl rfl) rfl (R1 (x9 fo41_1 rfl) rfl (xa6 (0) ti3 rfl rfl rfl (At.g 1 rfl rfl) rfl (R1 (x9 fo41_2 rfl) rfl (xa6 (0) ti39 rfl rfl rfl (At.g 2 rfl rfl) rfl (R1 (xa0 (c_copied _ (hD _ (xe6 (l := ps) (by omega))).1 (hD _ (xe6 (l := ps) (by omega))).2) fi91 rfl) rfl ?_)))))))
      refine R3 (xc8 (r := tS [⟨1, false, tI (ps.getD i tst0).lo⟩, ⟨1, false, tI (ps.getD i tst0).hi⟩, ⟨6, true, tVa (ps.getD i tst0).v⟩]) (ts := [(0, tI (ps.getD i tst0).lo), (1, tI (ps.getD i tst0).hi), (2, tVa (ps.getD i tst0).v)]) bu41 zr41.2 ⟨_, rfl⟩ rfl ⟨_, _, _, _, rfl, Up.f (fs := [⟨1, false, (tE (.int .i64 0))⟩, ⟨1, false, (tE (.int .i64 0))⟩, ⟨6, true, (tS [⟨1, false, (tE (.int .u8 0))⟩, ⟨4, true, (tS [⟨2, true, (tS [⟨1, false, (tE (.bool false))⟩, ⟨1, false, (tLm [])⟩])⟩, ⟨2, true, (tS [⟨1, false, (tE (.bool false))⟩, ⟨1, false, (tLm [])⟩])⟩])⟩, ⟨1, false, (tE (.int .i64 0))⟩])⟩]) (f := ⟨1, false, (tE (.int .i64 0))⟩) (fs' := [⟨1, false, tI (ps.getD i tst0).lo⟩, ⟨1, false, (tE (.int .i64 0))⟩, ⟨6, true, (tS [⟨1, false, (tE (.int .u8 0))⟩, ⟨4, true, (tS [⟨2, true, (tS [⟨1, false, (tE (.bool false))⟩, ⟨1, false, (tLm [])⟩])⟩, ⟨2, true, (tS [⟨1, false, (tE (.bool false))⟩, ⟨1, false, (tLm [])⟩])⟩])⟩, ⟨1, false, (tE (.int .i64 0))⟩])⟩]) 0 rfl rfl rfl, inferInstance, ⟨_, _, _, _, rfl, Up.f (fs := [⟨1, false, tI (ps.getD i tst0).lo⟩, ⟨1, false, (tE (.int .i64 0))⟩, ⟨6, true, (tS [⟨1, false, (tE (.int .u8 0))⟩, ⟨4, true, (tS [⟨2, true, (tS [⟨1, false, (tE (.bool false))⟩, ⟨1, false, (tLm [])⟩])⟩, ⟨2, true, (tS [⟨1, false, (tE (.bool false))⟩, ⟨1, false, (tLm [])⟩])⟩])⟩, ⟨1, false, (tE (.int .i64 0))⟩])⟩]) (f := ⟨1, false, (tE (.int .i64 0))⟩) (fs' := [⟨1, false, tI (ps.getD i tst0).lo⟩, ⟨1, false, tI (ps.getD i tst0).hi⟩, ⟨6, true, (tS [⟨1, false, (tE (.int .u8 0))⟩, ⟨4, true, (tS [⟨2, true, (tS [⟨1, false, (tE (.bool false))⟩, ⟨1, false, (tLm [])⟩])⟩, ⟨2, true, (tS [⟨1, false, (tE (.bool false))⟩, ⟨1, false, (tLm [])⟩])⟩])⟩, ⟨1, false, (tE (.int .i64 0))⟩])⟩]) 1 rfl rfl rfl, inferInstance, ⟨_, _, _, _, rfl, Up.f (fs := [⟨1, false, tI (ps.getD i tst0).lo⟩, ⟨1, false, tI (ps.getD i tst0).hi⟩, ⟨6, true, (tS [⟨1, false, (tE (.int .u8 0))⟩, ⟨4, true, (tS [⟨2, true, (tS [⟨1, false, (tE (.bool false))⟩, ⟨1, false, (tLm [])⟩])⟩, ⟨2, true, (tS [⟨1, false, (tE (.bool false))⟩, ⟨1, false, (tLm [])⟩])⟩])⟩, ⟨1, false, (tE (.int .i64 0))⟩])⟩]) (f := ⟨6, true, (tS [⟨1, false, (tE (.int .u8 0))⟩, ⟨4, true, (tS [⟨2, true, (tS [⟨1, false, (tE (.bool false))⟩, ⟨1, false, (tLm [])⟩])⟩, ⟨2, true, (tS [⟨1, false, (tE (.bool false))⟩, ⟨1, false, (tLm [])⟩])⟩])⟩, ⟨1, false, (tE (.int .i64 0))⟩])⟩) (fs' := [⟨1, false, tI (ps.getD i tst0).lo⟩, ⟨1, false, tI (ps.getD i tst0).hi⟩, ⟨6, true, tVa (ps.getD i tst0).v⟩]) 2 rfl rfl rfl, inferInstance, Le.refl⟩⟩⟩) rfl rfl rfl (R1 (xf7 (n := 1) (f := tTs) [(ps.getD i tst0)] Tryz.underlying24 el41 zf41 rfl (fun _ => inferInstance) rfl rfl rfl) rfl (RE (xf6 (k := 90) (k' := 62) (f := tTs) (ys := [(ps.getD i tst0)]) (ts' := rV tTs (xs ++ [(ps.getD i tst0)])) Tryz.underlying24 el41 zf41 rfl rfl (fun _ => inferInstance) rV_len (by simp; omega) (by simp; omega) (by simp [rV]) (n' := xs.length + 1) rfl) ⟨rfl, rfl, trivial⟩ ⟨rfl, trivial⟩ ⟨rfl, trivial⟩ (R1 x5 rfl (xd6 (by kernel_rfl) (xc1 (x4 ?_))))))
      refine x8 ?_
      refine R2 (xb6 (wr64 (by omega) (by omega))) rfl rfl (R1 x3 rfl (x7 (by kernel_rfl) ?_))
      exact K_famR (l := [90, 1]) (fun j => cond (Nat.beq j 90) 62 (j)) ((i + 1, xs ++ [(ps.getD i tst0)])) ⟨(by dsimp only; exact ⟨by omega, by rw [pst_snoc _ (by omega), ← hx, pst1, if_neg (by omega), if_neg fun h => h72_3 h.2.2]⟩), (by dsimp only; omega)⟩ (SubR.int rfl (by first | omega | rfl | (dsimp only; omega)) (SubR.int rfl (by first | omega | rfl | (dsimp only; omega)) (SubR.cons rfl ((SubR.consI rfl (Imp.of (by dsimp only; rw [List.length_append]; rfl))) SubR.nil)))) ((SubKR.consI rfl (ImpK.of ren_rV.symm)) SubKR.nil) (SupG.val (SupG.val (SupG.val (SupG.own rfl SupG.nil)))) (SupH.cons rfl (supJ xe5) SupH.nil) (lkOk rfl) rfl rfl (fun _ h => by cases h)
    ·
     refine RGoff (decide_eq_false h72_2) rfl rfl (RGoff (decide_eq_false h72_2) rfl rfl (RGoff (decide_eq_false h72_2) rfl rfl (RGoff (decide_eq_false h72_2) rfl rfl (RGoff (decide_eq_false h72_2) rfl rfl (RGoff (decide_eq_false h72_2) rfl rfl (RGoff (decide_eq_false h72_2) rfl rfl (RGoff (decide_eq_false h72_2) rfl rfl ?_)))))))
     refine RGoff (decide_eq_false h72_2) rfl rfl (R2 (xb0 (decide_eq_false h72_2)) rfl rfl (xd6 (by kernel_rfl) (x4 (C_bF rfl rfl ?_))))
     refine xd5 mixed ?_
     refine R1 x3 rfl (R1 (x9 fo41_0 rfl) rfl (xa6 (0) ti3 rfl rfl rfl (At.g 0 rfl rfl) rfl (R1 (x9 fo41_1 rfl) rfl (xa6 (0) ti3 rfl rfl rfl (At.g 1 rfl rfl) rfl (R1 (x9 fo41_2 rfl) rfl (xa6 (0) ti39 rfl rfl rfl (At.g 2 rfl rfl) rfl (R1 (xa0 (c_copied _ (hD _ (xe6 (l := ps) (by omega))).1 (hD _ (xe6 (l := ps) (by omega))).2) fi91 rfl) rfl ?_)))))))
     refine R3 (xc8 (r := tS [⟨1, false, tI (ps.getD i tst0).lo⟩, ⟨1, false, tI (ps.getD i tst0).hi⟩, ⟨6, true, tVa (ps.getD i tst0).v⟩]) (ts := [(0, tI (ps.getD i tst0).lo), (1, tI (ps.getD i tst0).hi), (2, tVa (ps.getD i tst0).v)]) bu41 zr41.2 ⟨_, rfl⟩ rfl ⟨_, _, _, _, rfl, Up.f (fs := [⟨1, false, (tE (.int .i64 0))⟩, ⟨1, false, (tE (.int .i64 0))⟩, ⟨6, true, (tS [⟨1, false, (tE (.int .u8 0))⟩, ⟨4, true, (tS [⟨2, true, (tS [⟨1, false, (tE (.bool false))⟩, ⟨1, false, (tLm [])⟩])⟩, ⟨2, true, (tS [⟨1, false, (tE (.bool false))⟩, ⟨1, false, (tLm [])⟩])⟩])⟩, ⟨1, false, (tE (.int .i64 0))⟩])⟩]) (f := ⟨1, false, (tE (.int .i64 0))⟩) (fs' := [⟨1, false, tI (ps.getD i tst0).lo⟩, ⟨1, false, (tE (.int .i64 0))⟩, ⟨6, true, (tS [⟨1, false, (tE (.int .u8 0))⟩, ⟨4, true, (tS [⟨2, true, (tS [⟨1, false, (tE (.bool false))⟩, ⟨1, false, (tLm [])⟩])⟩, ⟨2, true, (tS [⟨1, false, (tE (.bool false))⟩, ⟨1, false, (tLm [])⟩])⟩])⟩, ⟨1, false, (tE (.int .i64 0))⟩])⟩]) 0 rfl rfl rfl, inferInstance, ⟨_, _, _, _, rfl, Up.f (fs := [⟨1, false, tI (ps.getD i tst0).lo⟩, ⟨1, false, (tE (.int .i64 0))⟩, ⟨6, true, (tS [⟨1, false, (tE (.int .u8 0))⟩, ⟨4, true, (tS [⟨2, true, (tS [⟨1, false, (tE (.bool false))⟩, ⟨1, false, (tLm [])⟩])⟩, ⟨2, true, (tS [⟨1, false, (tE (.bool false))⟩, ⟨1, false, (tLm [])⟩])⟩])⟩, ⟨1, false, (tE (.int .i64 0))⟩])⟩]) (f := ⟨1, false, (tE (.int .i64 0))⟩) (fs' := [⟨1, false, tI (ps.getD i tst0).lo⟩, ⟨1, false, tI (ps.getD i tst0).hi⟩, ⟨6, true, (tS [⟨1, false, (tE (.int .u8 0))⟩, ⟨4, true, (tS [⟨2, true, (tS [⟨1, false, (tE (.bool false))⟩, ⟨1, false, (tLm [])⟩])⟩, ⟨2, true, (tS [⟨1, false, (tE (.bool false))⟩, ⟨1, false, (tLm [])⟩])⟩])⟩, ⟨1, false, (tE (.int .i64 0))⟩])⟩]) 1 rfl rfl rfl, inferInstance, ⟨_, _, _, _, rfl, Up.f (fs := [⟨1, false, tI (ps.getD i tst0).lo⟩, ⟨1, false, tI (ps.getD i tst0).hi⟩, ⟨6, true, (tS [⟨1, false, (tE (.int .u8 0))⟩, ⟨4, true, (tS [⟨2, true, (tS [⟨1, false, (tE (.bool false))⟩, ⟨1, false, (tLm [])⟩])⟩, ⟨2, true, (tS [⟨1, false, (tE (.bool false))⟩, ⟨1, false, (tLm [])⟩])⟩])⟩, ⟨1, false, (tE (.int .i64 0))⟩])⟩]) (f := ⟨6, true, (tS [⟨1, false, (tE (.int .u8 0))⟩, ⟨4, true, (tS [⟨2, true, (tS [⟨1, false, (tE (.bool false))⟩, ⟨1, false, (tLm [])⟩])⟩, ⟨2, true, (tS [⟨1, false, (tE (.bool false))⟩, ⟨1, false, (tLm [])⟩])⟩])⟩, ⟨1, false, (tE (.int .i64 0))⟩])⟩) (fs' := [⟨1, false, tI (ps.getD i tst0).lo⟩, ⟨1, false, tI (ps.getD i tst0).hi⟩, ⟨6, true, tVa (ps.getD i tst0).v⟩]) 2 rfl rfl rfl, inferInstance, Le.refl⟩⟩⟩) rfl rfl rfl (R1 (xf7 (n := 1) (f := tTs) [(ps.getD i tst0)] Tryz.underlying24 el41 zf41 rfl (fun _ => inferInstance) rfl rfl rfl) rfl (RE (xf6 (k := 90) (k' := 62) (f := tTs) (ys := [(ps.getD i tst0)]) (ts' := rV tTs (xs ++ [(ps.getD i tst0)])) Tryz.underlying24 el41 zf41 rfl rfl (fun _ => inferInstance) rV_len (by simp; omega) (by simp; omega) (by simp [rV]) (n' := xs.length + 1) rfl) ⟨rfl, rfl, trivial⟩ ⟨rfl, trivial⟩ ⟨rfl, trivial⟩ (R1 x5 rfl (xd6 (by kernel_rfl) (xc1 (x4 ?_))))))
     refine x8 ?_
     refine R2 (xb6 (wr64 (by omega) (by omega))) rfl rfl (R1 x3 rfl (x7 (by kernel_rfl) ?_))
     exact K_famR (l := [90, 1]) (fun j => cond (Nat.beq j 90) 62 (j)) ((i + 1, xs ++ [(ps.getD i tst0)])) ⟨(by dsimp only; exact ⟨by omega, by rw [pst_snoc _ (by omega), ← hx, pst1, if_neg (by omega), if_neg (by omega)]⟩), (by dsimp only; omega)⟩ (SubR.int rfl (by first | omega | rfl | (dsimp only; omega)) (SubR.int rfl (by first | omega | rfl | (dsimp only; omega)) (SubR.cons rfl ((SubR.consI rfl (Imp.of (by dsimp only; rw [List.length_append]; rfl))) SubR.nil)))) ((SubKR.consI rfl (ImpK.of ren_rV.symm)) SubKR.nil) (SupG.val (SupG.val (SupG.val (SupG.own rfl SupG.nil)))) (SupH.cons rfl (supJ xe5) SupH.nil) (lkOk rfl) rfl rfl (fun _ h => by cases h)
   ·
    refine RGoff (decide_eq_false h72) rfl rfl (RGoff (decide_eq_false h72) rfl rfl (RGoff (decide_eq_false h72) rfl rfl (RGoff (decide_eq_false h72) rfl rfl (RGoff (decide_eq_false h72) rfl rfl (RGoff (decide_eq_false h72) rfl rfl (RGoff (decide_eq_false h72) rfl rfl (RGoff (decide_eq_false h72) rfl rfl ?_)))))))
    refine RGoff (decide_eq_false h72) rfl rfl (R2 (xb0 (decide_eq_false h72)) rfl rfl (R1 x3 rfl (RGoff0 rfl rfl (RGoff0 rfl rfl (RGoff0 rfl rfl (RGoff0 rfl rfl (RGoff0 rfl rfl ?_)))))))
    refine RGoff0 rfl rfl (RGoff0 rfl rfl (RGoff0 rfl rfl (RGoff0 rfl rfl (R2 (xb0 rfl) rfl rfl (xd6 (by kernel_rfl) (x4 (C_bF rfl rfl ?_)))))))
    refine xd5 mixed ?_
    refine R1 x3 rfl (R1 (x9 fo41_0 rfl) rfl (xa6 (0) ti3 rfl rfl rfl (At.g 0 rfl rfl) rfl (R1 (x9 fo41_1 rfl) rfl (xa6 (0) ti3 rfl rfl rfl (At.g 1 rfl rfl) rfl (R1 (x9 fo41_2 rfl) rfl (xa6 (0) ti39 rfl rfl rfl (At.g 2 rfl rfl) rfl (R1 (xa0 (c_copied _ (hD _ (xe6 (l := ps) (by omega))).1 (hD _ (xe6 (l := ps) (by omega))).2) fi91 rfl) rfl ?_)))))))
    refine R3 (xc8 (r := tS [⟨1, false, tI (ps.getD i tst0).lo⟩, ⟨1, false, tI (ps.getD i tst0).hi⟩, ⟨6, true, tVa (ps.getD i tst0).v⟩]) (ts := [(0, tI (ps.getD i tst0).lo), (1, tI (ps.getD i tst0).hi), (2, tVa (ps.getD i tst0).v)]) bu41 zr41.2 ⟨_, rfl⟩ rfl ⟨_, _, _, _, rfl, Up.f (fs := [⟨1, false, (tE (.int .i64 0))⟩, ⟨1, false, (tE (.int .i64 0))⟩, ⟨6, true, (tS [⟨1, false, (tE (.int .u8 0))⟩, ⟨4, true, (tS [⟨2, true, (tS [⟨1, false, (tE (.bool false))⟩, ⟨1, false, (tLm [])⟩])⟩, ⟨2, true, (tS [⟨1, false, (tE (.bool false))⟩, ⟨1, false, (tLm [])⟩])⟩])⟩, ⟨1, false, (tE (.int .i64 0))⟩])⟩]) (f := ⟨1, false, (tE (.int .i64 0))⟩) (fs' := [⟨1, false, tI (ps.getD i tst0).lo⟩, ⟨1, false, (tE (.int .i64 0))⟩, ⟨6, true, (tS [⟨1, false, (tE (.int .u8 0))⟩, ⟨4, true, (tS [⟨2, true, (tS [⟨1, false, (tE (.bool false))⟩, ⟨1, false, (tLm [])⟩])⟩, ⟨2, true, (tS [⟨1, false, (tE (.bool false))⟩, ⟨1, false, (tLm [])⟩])⟩])⟩, ⟨1, false, (tE (.int .i64 0))⟩])⟩]) 0 rfl rfl rfl, inferInstance, ⟨_, _, _, _, rfl, Up.f (fs := [⟨1, false, tI (ps.getD i tst0).lo⟩, ⟨1, false, (tE (.int .i64 0))⟩, ⟨6, true, (tS [⟨1, false, (tE (.int .u8 0))⟩, ⟨4, true, (tS [⟨2, true, (tS [⟨1, false, (tE (.bool false))⟩, ⟨1, false, (tLm [])⟩])⟩, ⟨2, true, (tS [⟨1, false, (tE (.bool false))⟩, ⟨1, false, (tLm [])⟩])⟩])⟩, ⟨1, false, (tE (.int .i64 0))⟩])⟩]) (f := ⟨1, false, (tE (.int .i64 0))⟩) (fs' := [⟨1, false, tI (ps.getD i tst0).lo⟩, ⟨1, false, tI (ps.getD i tst0).hi⟩, ⟨6, true, (tS [⟨1, false, (tE (.int .u8 0))⟩, ⟨4, true, (tS [⟨2, true, (tS [⟨1, false, (tE (.bool false))⟩, ⟨1, false, (tLm [])⟩])⟩, ⟨2, true, (tS [⟨1, false, (tE (.bool false))⟩, ⟨1, false, (tLm [])⟩])⟩])⟩, ⟨1, false, (tE (.int .i64 0))⟩])⟩]) 1 rfl rfl rfl, inferInstance, ⟨_, _, _, _, rfl, Up.f (fs := [⟨1, false, tI (ps.getD i tst0).lo⟩, ⟨1, false, tI (ps.getD i tst0).hi⟩, ⟨6, true, (tS [⟨1, false, (tE (.int .u8 0))⟩, ⟨4, true, (tS [⟨2, true, (tS [⟨1, false, (tE (.bool false))⟩, ⟨1, false, (tLm [])⟩])⟩, ⟨2, true, (tS [⟨1, false, (tE (.bool false))⟩, ⟨1, false, (tLm [])⟩])⟩])⟩, ⟨1, false, (tE (.int .i64 0))⟩])⟩]) (f := ⟨6, true, (tS [⟨1, false, (tE (.int .u8 0))⟩, ⟨4, true, (tS [⟨2, true, (tS [⟨1, false, (tE (.bool false))⟩, ⟨1, false, (tLm [])⟩])⟩, ⟨2, true, (tS [⟨1, false, (tE (.bool false))⟩, ⟨1, false, (tLm [])⟩])⟩])⟩, ⟨1, false, (tE (.int .i64 0))⟩])⟩) (fs' := [⟨1, false, tI (ps.getD i tst0).lo⟩, ⟨1, false, tI (ps.getD i tst0).hi⟩, ⟨6, true, tVa (ps.getD i tst0).v⟩]) 2 rfl rfl rfl, inferInstance, Le.refl⟩⟩⟩) rfl rfl rfl (R1 (xf7 (n := 1) (f := tTs) [(ps.getD i tst0)] Tryz.underlying24 el41 zf41 rfl (fun _ => inferInstance) rfl rfl rfl) rfl (RE (xf6 (k := 90) (k' := 62) (f := tTs) (ys := [(ps.getD i tst0)]) (ts' := rV tTs (xs ++ [(ps.getD i tst0)])) Tryz.underlying24 el41 zf41 rfl rfl (fun _ => inferInstance) rV_len (by simp; omega) (by simp; omega) (by simp [rV]) (n' := xs.length + 1) rfl) ⟨rfl, rfl, trivial⟩ ⟨rfl, trivial⟩ ⟨rfl, trivial⟩ (R1 x5 rfl (xd6 (by kernel_rfl) (xc1 (x4 ?_))))))
    refine x8 ?_
    refine R2 (xb6 (wr64 (by omega) (by omega))) rfl rfl (R1 x3 rfl (x7 (by kernel_rfl) ?_))
    exact K_famR (l := [90, 1]) (fun j => cond (Nat.beq j 90) 62 (j)) ((i + 1, xs ++ [(ps.getD i tst0)])) ⟨(by dsimp only; exact ⟨by omega, by rw [pst_snoc _ (by omega), ← hx, pst1, if_neg (by omega), if_neg (by omega)]⟩), (by dsimp only; omega)⟩ (SubR.int rfl (by first | omega | rfl | (dsimp only; omega)) (SubR.int rfl (by first | omega | rfl | (dsimp only; omega)) (SubR.cons rfl ((SubR.consI rfl (Imp.of (by dsimp only; rw [List.length_append]; rfl))) SubR.nil)))) ((SubKR.consI rfl (ImpK.of ren_rV.symm)) SubKR.nil) (SupG.val (SupG.val (SupG.val (SupG.own rfl SupG.nil)))) (SupH.cons rfl (supJ xe5) SupH.nil) (lkOk rfl) rfl rfl (fun _ h => by cases h)
 ·
  refine xd4 (xb8 (xb8 (xe0 (x4 (x6 ?_)))))
  have hil : i = ps.length := by omega
  subst hil
  rw [List.take_length] at hx
  subst hx
  refine x8 ?_
  refine R1 x3 rfl (R1 x5 rfl (x7 (by kernel_rfl) (x4 (xa1 ?_))))
  exact xg2 LentC.mk' rfl rfl Imp.refl ⟨rfl, trivial⟩ rfl ⟨⟨rfl, xe5⟩, trivial⟩ rfl
theorem getD_map {f : Tst → Tst} {l : List Tst} {i : Nat} (hi : i < l.length) : (l.map f).getD i tst0 = f (l.getD i tst0) := by
  rw [List.getD_eq_getElem?_getD, List.getD_eq_getElem?_getD, List.getElem?_map, List.getElem?_eq_getElem hi]; rfl
theorem cut_next {a b : Int} {l : List Tst} {i : Nat} (hi : i < l.length) : pst [] ((l.map (clip a b)).take (i + 1)) = pst (pst [] ((l.map (clip a b)).take i)) [clip a b (l.getD i tst0)] := by
  rw [pst_snoc _ (by simpa using hi), getD_map hi]; rfl
theorem c_Cut (l : List Tst) (a b : Int) (hl : l.length ≤ 500000) (hD : ∀ s ∈ l, s.v.f.dig) :
  Ct Tryz.prog 29 [tL 8 true tTs l, tI a, tI b] (tT [tL 8 true tTs (if tRight l = true ∧ Sn.ok ⟨a, b⟩ = true then cutT l a b else []), tI (if tRight l = true ∧ Sn.ok ⟨a, b⟩ = true then 0 else 2)]) := by
 refine Ct.intro Tryz.func29 rfl Tryz.ntmps29 rfl ?_
 intro w F
 refine x6 ?_
 refine x8 ?_
 refine R1 x5 rfl (R1 x5 rfl (x7 (by kernel_rfl) (x4 (x6 (x6 ?_)))))
 refine x8 ?_
 refine R1 x3 rfl (R1 (xa0 (c_TRight l hD) fi50 rfl) rfl (R1 xe4 rfl (R1 x3 rfl ?_)))
 refine RGcase (t := 14) rfl (fun h95 => ?_) (fun h95 => ?_)
 ·
  refine RGoff h95 rfl rfl (RGoff h95 rfl rfl (RGoff h95 rfl rfl (RGoff h95 rfl rfl (R2 (xb2 h95) rfl rfl (x7 (by kernel_rfl) (x4 (C_bT rfl rfl ?_)))))))
  refine x6 ?_
  refine x8 ?_
  refine R1 x5 rfl (R1 x5 rfl (x7 (by kernel_rfl) (x4 (xa1 (xa7 ?_)))))
  exact E_ret2 Plain.mk' rfl rfl rfl (leNil (by rw [if_neg fun h => by rw [h.1] at h95; cases h95])) (Le.int (by rw [if_neg fun h => by rw [h.1] at h95; cases h95]))
 ·
  refine RGon h95 rfl x3 rfl ⟨rfl, trivial⟩ trivial trivial (RGon h95 rfl x3 rfl ⟨rfl, trivial⟩ trivial trivial (RGon h95 rfl (xa0 (c_isPart _ _) fi55 rfl) rfl ⟨rfl, rfl, trivial⟩ trivial trivial (RGon h95 rfl xe4 rfl ⟨rfl, trivial⟩ trivial trivial (R2 (xb0 h95) rfl rfl (x7 (by kernel_rfl) (x4 ?_))))))
  refine xf8 rfl (fun h95_2 => ?_) (fun h95_2 => ?_)
  ·
   refine x6 ?_
   refine x8 ?_
   refine R1 x5 rfl (R1 x5 rfl (x7 (by kernel_rfl) (x4 (xa1 (xa7 ?_)))))
   exact E_ret2 Plain.mk' rfl rfl rfl (leNil (by rw [if_neg fun h => by rw [h.2] at h95_2; cases h95_2])) (Le.int (by rw [if_neg fun h => by rw [h.2] at h95_2; cases h95_2]))
  ·
   refine xa5 (x4 (x6 ?_))
   refine x8 ?_
   refine RE (d_assignN (k := 8) 41 8 true rfl (fun h => by cases h)) trivial trivial ⟨rfl, trivial⟩ (x7 (by kernel_rfl) (x4 (x6 (x6 ?_))))
   refine x8 ?_
   refine R1 x3 rfl (R1 (xc4 Tryz.underlying24) rfl (R1 x3 rfl (x7 (by kernel_rfl) (x4 (xb3 ?_)))))
   have hok : tRight l = true ∧ Sn.ok ⟨a, b⟩ = true := ⟨by simpa using h95, by simpa using h95_2⟩
   have hlen := fun s hs => va_len (tRight_valid hok.1 s hs)
   refine xe1 (fun (fm : (Nat) × (List Tst)) => (fun (i : Nat) (zs : List Tst) => i ≤ l.length ∧ zs = pst [] ((l.map (clip a b)).take i)) fm.1 fm.2) (fun (fm : (Nat) × (List Tst)) => (fun (i : Nat) (zs : List Tst) => upd (upd (upd (upd (upd (upd (fun _ => none) 1 (some (.val (tI a)))) 2 (some (.val (tI b)))) 8 (some (.own (.sl 8 8 0 zs.length)))) 20 (some (.val (tL 8 true tTs l)))) 21 (some (.val (tI l.length)))) 22 (some (.val (tI i)))) fm.1 fm.2) (fun (fm : (Nat) × (List Tst)) => (fun (i : Nat) (zs : List Tst) => upd (fun _ => none) 8 (some (⟨41, 8, true, rV tTs zs⟩))) fm.1 fm.2) (nm [8]) (fun (fm : (Nat) × (List Tst)) => (fun (i : Nat) (zs : List Tst) => l.length - i) fm.1 fm.2) ((0, [])) (by dsimp only; exact ⟨Nat.zero_le _, rfl⟩) (Sub.int rfl (by first | omega | rfl | (dsimp only; omega)) (Sub.int rfl (by first | omega | rfl | (dsimp only; omega)) (Sub.cons rfl (Sub.cons rfl (Sub.int rfl (by first | omega | rfl | (dsimp only; omega)) (Sub.int rfl (by first | omega | rfl | (dsimp only; omega)) Sub.nil)))))) ((SubK.consI rfl ImpK.refl) SubK.nil) (SupG.val (SupG.val (SupG.val (SupG.own rfl (SupG.val (SupG.val SupG.nil)))))) (SupH.cons rfl (supJ xe5) SupH.nil) (lkOk rfl) ?_
   intro fm hI
   obtain ⟨i, zs⟩ := fm
   replace hI : i ≤ l.length ∧ zs = pst [] ((l.map (clip a b)).take i) := hI
   show wc _ _ _ _ (upd (upd (upd (upd (upd (upd (fun _ => none) 1 (some (.val (tI a)))) 2 (some (.val (tI b)))) 8 (some (.own (.sl 8 8 0 zs.length)))) 20 (some (.val (tL 8 true tTs l)))) 21 (some (.val (tI l.length)))) 22 (some (.val (tI i)))) (upd (fun _ => none) 8 (some (⟨41, 8, true, rV tTs zs⟩))) _
   obtain ⟨hi, hz⟩ := hI
   have hzl : zs.length ≤ i := by
    have h := pst_len ((l.map (clip a b)).take i) []
    rw [← hz, List.length_take] at h; simp at h; omega
   refine x6 ?_
   refine x8 ?_
   refine R2 xd8 rfl rfl (x7 (by kernel_rfl) (x4 (x6 ?_)))
   refine xc0 rfl (fun h99 => ?_) (fun h99 => ?_)
   ·
    refine xa5 (x4 (x6 (xb3 (x6 ?_))))
    refine x8 ?_
    refine R2 (xb9 sl24 (i) (by omega) (gD (l := l) (n := i) (d := tst0) (by omega))) rfl rfl (R1 (xc5 ti41) rfl (RE (xb4 (k := 10) (n := 8) (agg := true) zr41.1 zr41.2 rfl) trivial trivial ⟨rfl, trivial⟩ (RE (xa3 (es := 8) (agg := true) (0) ti41 rfl rfl rfl) ⟨rfl, rfl, trivial⟩ ⟨rfl, trivial⟩ trivial (x7 (by kernel_rfl) (x4 ?_)))))
    refine x8 ?_
    refine R1 x3 rfl (R1 (x9 fo41_0 rfl) rfl (xa6 (0) ti3 rfl rfl rfl (At.g 0 rfl rfl) rfl (R1 x3 rfl (R2 d_max2 rfl rfl (R1 (x9 fo41_1 rfl) rfl (xa6 (0) ti3 rfl rfl rfl (At.g 1 rfl rfl) rfl (R1 x3 rfl ?_)))))))
    refine R2 d_min2 rfl rfl (R1 (x9 fo41_2 rfl) rfl (xa6 (0) ti39 rfl rfl rfl (At.g 2 rfl rfl) rfl (R3 (xc8 (r := tS [⟨1, false, tI (max (l.getD i tst0).lo a)⟩, ⟨1, false, tI (min (l.getD i tst0).hi b)⟩, ⟨6, true, tVa (l.getD i tst0).v⟩]) (ts := [(0, tI (max (l.getD i tst0).lo a)), (1, tI (min (l.getD i tst0).hi b)), (2, tVa (l.getD i tst0).v)]) bu41 zr41.2 ⟨_, rfl⟩ rfl ⟨_, _, _, _, rfl, Up.f (fs := [⟨1, false, (tE (.int .i64 0))⟩, ⟨1, false, (tE (.int .i64 0))⟩, ⟨6, true, (tS [⟨1, false, (tE (.int .u8 0))⟩, ⟨4, true, (tS [⟨2, true, (tS [⟨1, false, (tE (.bool false))⟩, ⟨1, false, (tLm [])⟩])⟩, ⟨2, true, (tS [⟨1, false, (tE (.bool false))⟩, ⟨1, false, (tLm [])⟩])⟩])⟩, ⟨1, false, (tE (.int .i64 0))⟩])⟩]) (f := ⟨1, false, (tE (.int .i64 0))⟩) (fs' := [⟨1, false, tI (max (l.getD i tst0).lo a)⟩, ⟨1, false, (tE (.int .i64 0))⟩, ⟨6, true, (tS [⟨1, false, (tE (.int .u8 0))⟩, ⟨4, true, (tS [⟨2, true, (tS [⟨1, false, (tE (.bool false))⟩, ⟨1, false, (tLm [])⟩])⟩, ⟨2, true, (tS [⟨1, false, (tE (.bool false))⟩, ⟨1, false, (tLm [])⟩])⟩])⟩, ⟨1, false, (tE (.int .i64 0))⟩])⟩]) 0 rfl rfl rfl, inferInstance, ⟨_, _, _, _, rfl, Up.f (fs := [⟨1, false, tI (max (l.getD i tst0).lo a)⟩, ⟨1, false, (tE (.int .i64 0))⟩, ⟨6, true, (tS [⟨1, false, (tE (.int .u8 0))⟩, ⟨4, true, (tS [⟨2, true, (tS [⟨1, false, (tE (.bool false))⟩, ⟨1, false, (tLm [])⟩])⟩, ⟨2, true, (tS [⟨1, false, (tE (.bool false))⟩, ⟨1, false, (tLm [])⟩])⟩])⟩, ⟨1, false, (tE (.int .i64 0))⟩])⟩]) (f := ⟨1, false, (tE (.int .i64 0))⟩) (fs' := [⟨1, false, tI (max (l.getD i tst0).lo a)⟩, ⟨1, false, tI (min (l.getD i tst0).hi b)⟩, ⟨6, true, (tS [⟨1, false, (tE (.int .u8 0))⟩, ⟨4, true, (tS [⟨2, true, (tS [⟨1, false, (tE (.bool false))⟩, ⟨1, false, (tLm [])⟩])⟩, ⟨2, true, (tS [⟨1, false, (tE (.bool false))⟩, ⟨1, false, (tLm [])⟩])⟩])⟩, ⟨1, false, (tE (.int .i64 0))⟩])⟩]) 1 rfl rfl rfl, inferInstance, ⟨_, _, _, _, rfl, Up.f (fs := [⟨1, false, tI (max (l.getD i tst0).lo a)⟩, ⟨1, false, tI (min (l.getD i tst0).hi b)⟩, ⟨6, true, (tS [⟨1, false, (tE (.int .u8 0))⟩, ⟨4, true, (tS [⟨2, true, (tS [⟨1, false, (tE (.bool false))⟩, ⟨1, false, (tLm [])⟩])⟩, ⟨2, true, (tS [⟨1, false, (tE (.bool false))⟩, ⟨1, false, (tLm [])⟩])⟩])⟩, ⟨1, false, (tE (.int .i64 0))⟩])⟩]) (f := ⟨6, true, (tS [⟨1, false, (tE (.int .u8 0))⟩, ⟨4, true, (tS [⟨2, true, (tS [⟨1, false, (tE (.bool false))⟩, ⟨1, false, (tLm [])⟩])⟩, ⟨2, true, (tS [⟨1, false, (tE (.bool false))⟩, ⟨1, false, (tLm [])⟩])⟩])⟩, ⟨1, false, (tE (.int .i64 0))⟩])⟩) (fs' := [⟨1, false, tI (max (l.getD i tst0).lo a)⟩, ⟨1, false, tI (min (l.getD i tst0).hi b)⟩, ⟨6, true, tVa (l.getD i tst0).v⟩]) 2 rfl rfl rfl, inferInstance, Le.refl⟩⟩⟩) rfl rfl rfl (R1 (xf7 (n := 1) (f := tTs) [(clip a b (l.getD i tst0))] Tryz.underlying24 el41 zf41 rfl (fun _ => inferInstance) rfl rfl rfl) rfl ?_))))
    have hcl : ∀ s ∈ [(clip a b (l.getD i tst0))], s.v.f.n.l.length ≤ 1000000 ∧ s.v.f.d.l.length ≤ 1000000 := by
     intro s hs
     rw [List.mem_singleton.1 hs]
     have h := hlen _ (xe6 (l := l) (i := i) (by omega))
     exact ⟨by show (l.getD i tst0).v.f.n.l.length ≤ _; omega, by show (l.getD i tst0).v.f.d.l.length ≤ _; omega⟩
    refine RE (xg8 (fun j => cond (Nat.beq j 1) 8 (39)) (c_paste zs [(clip a b (l.getD i tst0))] (by omega) (by simp) hcl) fi56 rfl (krC (ρ := fun j => cond (Nat.beq j 1) 8 (39)) (k := 1) ren_rV (krN (ρ := fun j => cond (Nat.beq j 1) 8 (39)))) (krC (ρ := fun j => cond (Nat.beq j 1) 8 (39)) (k := 90) ren_rV (krN (ρ := fun j => cond (Nat.beq j 1) 8 (39)))) ⟨⟨rfl, xe5⟩, trivial⟩ rfl) ⟨rfl, rfl, trivial⟩ ⟨rfl, trivial⟩ ⟨rfl, trivial⟩ (R1 x5 rfl (x7 (by kernel_rfl) (xc1 (x4 ?_))))
    refine x8 ?_
    refine R2 (xb6 (wr64 (by omega) (by omega))) rfl rfl (R1 x3 rfl (x7 (by kernel_rfl) ?_))
    exact K_famR (l := [8]) (fun j => cond (Nat.beq j 8) 39 (j)) ((i + 1, pst zs [(clip a b (l.getD i tst0))])) ⟨(by dsimp only; exact ⟨by omega, by rw [cut_next (by omega), ← hz]⟩), (by dsimp only; omega)⟩ (SubR.int rfl (by first | omega | rfl | (dsimp only; omega)) (SubR.int rfl (by first | omega | rfl | (dsimp only; omega)) (SubR.cons rfl (SubR.cons rfl (SubR.int rfl (by first | omega | rfl | (dsimp only; omega)) (SubR.int rfl (by first | omega | rfl | (dsimp only; omega)) SubR.nil)))))) ((SubKR.consI rfl (ImpK.of ren_rV.symm)) SubKR.nil) (SupG.val (SupG.val (SupG.val (SupG.own rfl (SupG.val (SupG.val SupG.nil)))))) (SupH.cons rfl (supJ xe5) SupH.nil) (lkOk rfl) rfl rfl (fun _ h => by cases h)
   ·
    refine xd4 (xb8 (xb8 (xe0 (x4 (x6 ?_)))))
    refine x8 ?_
    refine R1 x3 rfl (RE (d_assignS (f := tTs) (xs := zs) (fun _ h => h) (rV_all rfl) rfl) ⟨rfl, trivial⟩ ⟨rfl, trivial⟩ trivial (R1 x5 rfl (x7 (by kernel_rfl) (x4 (xa1 ?_)))))
    exact E_ret2 Plain.mk' rfl rfl rfl (Le.of (by rw [if_pos hok, hz, cutT, show i = (l.map (clip a b)).length by simp; omega, List.take_length])) (Le.int (by rw [if_pos hok]))
end An.S
