/- Part 4 of a proof: W11, W12, Split, Tl, LibZa, S1, Ref, Ref2, Ref3, S2, S3, S4, Tl2, S5, LibZ, S6, LibZb, S7, Tl3, S8. -/
import Derived.Shelf.SlSortCmp.NoneTotal
import Derived.Test.YtkenppkgldecmaaGreatV3
/- Package frac. -/
namespace An.S
open Go Go.Proofs An
set_option maxHeartbeats 1000000
theorem ti49 : TyI Tryz.prog 49 4 true := ⟨by kernel_rfl, by kernel_rfl⟩
theorem ti162 : TyI Tryz.prog 162 4 true := ⟨by kernel_rfl, by kernel_rfl⟩
theorem fo49_0 : fieldO Tryz.prog 49 0 = some 0 := by kernel_rfl
theorem fo49_1 : fieldO Tryz.prog 49 1 = some 2 := by kernel_rfl
theorem fo162_0 : fieldO Tryz.prog 162 0 = some 0 := by kernel_rfl
theorem fi123 : FnI Tryz.prog 123 := ⟨_, Tryz.func123, by kernel_rfl, rfl⟩
theorem fi139 : FnI Tryz.prog 139 := ⟨_, Tryz.func139, by kernel_rfl, rfl⟩
theorem fi167 : FnI Tryz.prog 167 := ⟨_, Tryz.func167, by kernel_rfl, rfl⟩
theorem fi168 : FnI Tryz.prog 168 := ⟨_, Tryz.func168, by kernel_rfl, rfl⟩
theorem fi169 : FnI Tryz.prog 169 := ⟨_, Tryz.func169, by kernel_rfl, rfl⟩
theorem fi170 : FnI Tryz.prog 170 := ⟨_, Tryz.func170, by kernel_rfl, rfl⟩
theorem fi175 : FnI Tryz.prog 175 := ⟨_, Tryz.func175, by kernel_rfl, rfl⟩
theorem fi192 : FnI Tryz.prog 192 := ⟨_, Tryz.func192, by kernel_rfl, rfl⟩
theorem fi203 : FnI Tryz.prog 203 := ⟨_, Tryz.func203, by kernel_rfl, rfl⟩
theorem zr49 : (Tryz.prog.info? 49).bind (·.zero) = some (.agg #[.bool false, .slice none 0 0, .bool false, .slice none 0 0]) ∧ ∀ F w, (tS [⟨2, true, (tS [⟨1, false, (tE (.bool false))⟩, ⟨1, false, (tLm [])⟩])⟩, ⟨2, true, (tS [⟨1, false, (tE (.bool false))⟩, ⟨1, false, (tLm [])⟩])⟩]).p F w (.agg #[.bool false, .slice none 0 0, .bool false, .slice none 0 0]) := ⟨by kernel_rfl, fun _ _ => ⟨_, rfl, rfl, ⟨fun h => Bool.noConfusion h, ⟨_, rfl, rfl, ⟨fun _ => rfl, rfl⟩, ⟨fun _ => rfl, ⟨none, 0, rfl, Nat.le_refl _, by decide, .inl rfl⟩⟩, trivial⟩⟩, ⟨fun h => Bool.noConfusion h, ⟨_, rfl, rfl, ⟨fun _ => rfl, rfl⟩, ⟨fun _ => rfl, ⟨none, 0, rfl, Nat.le_refl _, by decide, .inl rfl⟩⟩, trivial⟩⟩, trivial⟩⟩
theorem zr162 : (Tryz.prog.info? 162).bind (·.zero) = some (.agg #[.bool false, .slice none 0 0, .bool false, .slice none 0 0]) ∧ ∀ F w, (tS [⟨4, true, (tS [⟨2, true, (tS [⟨1, false, (tE (.bool false))⟩, ⟨1, false, (tLm [])⟩])⟩, ⟨2, true, (tS [⟨1, false, (tE (.bool false))⟩, ⟨1, false, (tLm [])⟩])⟩])⟩]).p F w (.agg #[.bool false, .slice none 0 0, .bool false, .slice none 0 0]) := ⟨by kernel_rfl, fun _ _ => ⟨_, rfl, rfl, ⟨fun h => Bool.noConfusion h, ⟨_, rfl, rfl, ⟨fun h => Bool.noConfusion h, ⟨_, rfl, rfl, ⟨fun _ => rfl, rfl⟩, ⟨fun _ => rfl, ⟨none, 0, rfl, Nat.le_refl _, by decide, .inl rfl⟩⟩, trivial⟩⟩, ⟨fun h => Bool.noConfusion h, ⟨_, rfl, rfl, ⟨fun _ => rfl, rfl⟩, ⟨fun _ => rfl, ⟨none, 0, rfl, Nat.le_refl _, by decide, .inl rfl⟩⟩, trivial⟩⟩, trivial⟩⟩, trivial⟩⟩
theorem bu49 : BuI Tryz.prog 49 (fun i => [(0, 2), (2, 2)][i]?) (.agg #[.bool false, .slice none 0 0, .bool false, .slice none 0 0]) := BuI.struct Tryz.underlying49 (by kernel_rfl) (by kernel_rfl)
theorem bu162 : BuI Tryz.prog 162 (fun i => [(0, 4)][i]?) (.agg #[.bool false, .slice none 0 0, .bool false, .slice none 0 0]) := BuI.struct Tryz.underlying162 (by kernel_rfl) (by kernel_rfl)
theorem isOne_iff {x : Wh} (hn : x.neg = false) (hl : x.l.length = 1) : decide (((x.l.getD 0 0 : Nat) : Int) = 1) = decide (x = ⟨false, [1]⟩) := by
  obtain ⟨n, l⟩ := x
  simp only at hn hl
  subst hn
  obtain ⟨a, rfl⟩ := List.length_eq_one_iff.1 hl
  simp
  omega
theorem neg_wh (z : Int) : wh (-z) = ⟨!(wh z).neg && decide (0 < (wh z).l.length), (wh z).l⟩ := by
  have h : (wh z).l.length = 0 ↔ z = 0 := by
    show (dig 65536 z.natAbs).length = 0 ↔ z = 0
    rw [List.length_eq_zero_iff, xi2 xb6]; omega
  have e1 : (wh (-z)).l = (wh z).l := by show dig 65536 (-z).natAbs = dig 65536 z.natAbs; rw [Int.natAbs_neg]
  have e2 : (wh (-z)).neg = (!(wh z).neg && decide (0 < (wh z).l.length)) := by
    show decide (-z < 0) = (!decide (z < 0) && decide (0 < (wh z).l.length))
    by_cases h0 : z = 0
    · subst h0; simp [wh_zero]
    · have : 0 < (wh z).l.length := by omega
      rw [decide_eq_true this, Bool.and_true, ← decide_not]
      exact decide_eq_decide.2 (by omega)
  have e3 : ∀ a : Wh, a = ⟨a.neg, a.l⟩ := fun _ => rfl
  rw [e3 (wh (-z)), e1, e2]
theorem c_isOne (x : Wh) :
  Ct Tryz.prog 175 [tWh x] (tB (decide (x = ⟨false, [1]⟩))) := by
 refine Ct.intro Tryz.func175 rfl Tryz.ntmps175 rfl ?_
 intro w F
 refine x6 ?_
 refine x8 ?_
 refine RE (xd2 (k := 1) ti47 rfl) ⟨rfl, trivial⟩ trivial ⟨rfl, trivial⟩ (R1 x5 rfl (x7 (by kernel_rfl) (x3 (x6 ?_))))
 refine x8 ?_
 refine R1 (x9 fo47_0 rfl) rfl (xa5 (0) ti4 rfl rfl rfl (At.g 0 rfl rfl) rfl (R1 xe7 rfl (R1 x4 rfl ?_)))
 refine RGcase (t := 6) rfl (fun h54 => ?_) (fun h54 => ?_)
 ·
  refine RGon h54 rfl (x9 fo47_1 rfl) rfl ⟨rfl, trivial⟩ trivial trivial (xb2 h54 rfl rfl (0) ti45 rfl rfl rfl (At.g 1 rfl rfl) rfl (RGon h54 rfl (xb9 Tryz.underlying45) rfl ⟨rfl, trivial⟩ trivial trivial (RGon h54 rfl xe5 rfl ⟨rfl, rfl, trivial⟩ trivial trivial (R2 (xa8 h54) rfl rfl (R1 x4 rfl ?_)))))
  refine RGcaseD (t := 12) rfl (fun h54_2 => ?_) (fun h54_2 => ?_)
  ·
   refine RGon (decide_eq_true h54_2) rfl (x9 fo47_1 rfl) rfl ⟨rfl, trivial⟩ trivial trivial (xb2 (decide_eq_true h54_2) rfl rfl (0) ti45 rfl rfl rfl (At.g 1 rfl rfl) rfl (RGon (decide_eq_true h54_2) rfl (xb8 sl45 (0) (by omega) (gN (by omega))) rfl ⟨rfl, rfl, trivial⟩ trivial trivial (RGon (decide_eq_true h54_2) rfl (xc1 ti166) rfl ⟨rfl, trivial⟩ trivial trivial (RGon (decide_eq_true h54_2) rfl xe5 rfl ⟨rfl, rfl, trivial⟩ trivial trivial (R2 (xa8 (decide_eq_true h54_2)) rfl rfl (R1 x5 rfl (x7 (by kernel_rfl) ?_)))))))
   refine x3 (xa2 ?_)
   exact xa3 Plain.mk' rfl rfl (Le.bool (isOne_iff (by simpa using h54) (by omega)))
  ·
   refine RGoff (decide_eq_false h54_2) rfl rfl (RGoff (decide_eq_false h54_2) rfl rfl (RGoff (decide_eq_false h54_2) rfl rfl (RGoff (decide_eq_false h54_2) rfl rfl (RGoff (decide_eq_false h54_2) rfl rfl (R2 (xa7 (decide_eq_false h54_2)) rfl rfl (R1 x5 rfl (x7 (by kernel_rfl) ?_)))))))
   refine x3 (xa2 ?_)
   exact xa3 Plain.mk' rfl rfl (Le.bool (decide_eq_false (fun h => h54_2 (by rw [h]; rfl))).symm)
 ·
  refine RGoff h54 rfl rfl (RGoff h54 rfl rfl (RGoff h54 rfl rfl (RGoff h54 rfl rfl (R2 (xa7 h54) rfl rfl (R1 x4 rfl (RGoff0 rfl rfl (RGoff0 rfl rfl ?_)))))))
  refine RGoff0 rfl rfl (RGoff0 rfl rfl (RGoff0 rfl rfl (R2 (xa7 rfl) rfl rfl (R1 x5 rfl (x7 (by kernel_rfl) (x3 (xa2 ?_)))))))
  exact xa3 Plain.mk' rfl rfl (Le.bool (decide_eq_false (fun h => by rw [h] at h54; simp at h54)).symm)
theorem c_Tlong (f : Fr) :
  Ct Tryz.prog 169 [tTm f] (tB (!f.sh)) := by
 refine Ct.intro Tryz.func169 rfl Tryz.ntmps169 rfl ?_
 intro w F
 refine x6 ?_
 refine x8 ?_
 refine RE (xd2 (k := 1) ti162 rfl) ⟨rfl, trivial⟩ trivial ⟨rfl, trivial⟩ (R1 x5 rfl (x7 (by kernel_rfl) (x3 (x6 ?_))))
 refine x8 ?_
 refine R1 (x9 fo162_0 rfl) rfl (R1 (x9 fo49_0 rfl) rfl (R1 (x9 fo47_1 rfl) rfl (xa5 (0) ti45 rfl rfl rfl (At.t (At.g 0 rfl rfl) (At.t (At.g 0 rfl rfl) (At.g 1 rfl rfl))) rfl (R1 (xb9 Tryz.underlying45) rfl (R2 d_gtr rfl rfl (R1 x4 rfl ?_))))))
 refine RGcaseD (t := 9) rfl (fun h33 => ?_) (fun h33 => ?_)
 ·
  refine RGoff (decide_eq_true h33) rfl rfl (RGoff (decide_eq_true h33) rfl rfl (RGoff (decide_eq_true h33) rfl rfl (RGoff (decide_eq_true h33) rfl rfl (RGoff (decide_eq_true h33) rfl rfl (RGoff (decide_eq_true h33) rfl rfl (R2 (xa8 (decide_eq_true h33)) rfl rfl (R1 x5 rfl ?_)))))))
  refine x7 (by kernel_rfl) (x3 (xa2 ?_))
  exact xa3 Plain.mk' rfl rfl (Le.bool (by rw [Fr.sh, decide_eq_false (show ¬ f.n.l.length ≤ 256 by omega)]; rfl))
 ·
  refine RGon (decide_eq_false h33) rfl (x9 fo162_0 rfl) rfl ⟨rfl, trivial⟩ trivial trivial (RGon (decide_eq_false h33) rfl (x9 fo49_1 rfl) rfl ⟨rfl, trivial⟩ trivial trivial (RGon (decide_eq_false h33) rfl (x9 fo47_1 rfl) rfl ⟨rfl, trivial⟩ trivial trivial (xb2 (decide_eq_false h33) rfl rfl (0) ti45 rfl rfl rfl (At.t (At.g 0 rfl rfl) (At.t (At.g 1 rfl rfl) (At.g 1 rfl rfl))) rfl (RGon (decide_eq_false h33) rfl (xb9 Tryz.underlying45) rfl ⟨rfl, trivial⟩ trivial trivial (RGon (decide_eq_false h33) rfl d_gtr rfl ⟨rfl, rfl, trivial⟩ trivial trivial (R2 (xa7 (decide_eq_false h33)) rfl rfl (R1 x5 rfl ?_)))))))
  refine x7 (by kernel_rfl) (x3 (xa2 ?_))
  exact xa3 Plain.mk' rfl rfl (Le.bool (by rw [Fr.sh, decide_eq_true (show f.n.l.length ≤ 256 by omega), Bool.true_and, ← decide_not]; exact decide_eq_decide.2 (by omega)))
theorem c_Tresult (f : Fr) :
  Ct Tryz.prog 121 [tTm f] (tT [tFr (if f.sh then f else fr0), tI (if f.sh then 0 else 3)]) := by
 refine Ct.intro Tryz.func121 rfl Tryz.ntmps121 rfl ?_
 intro w F
 refine x6 ?_
 refine x8 ?_
 refine RE (xd2 (k := 1) ti162 rfl) ⟨rfl, trivial⟩ trivial ⟨rfl, trivial⟩ (RE (xc9 (k := 2) (n := 4) (agg := true) zr49.1 zr49.2 rfl) trivial trivial ⟨rfl, trivial⟩ (R1 x5 rfl (x7 (by kernel_rfl) (x3 (x6 (x6 ?_))))))
 refine x8 ?_
 refine RE (xb3 (0) ti162 rfl rfl) ⟨rfl, trivial⟩ ⟨rfl, trivial⟩ trivial (R1 (xa0 (c_Tlong f) fi169 rfl) rfl (x7 (by kernel_rfl) (x3 ?_)))
 refine xg6 rfl (fun h46 => ?_) (fun h46 => ?_)
 ·
  have hs : f.sh = false := by simpa using h46
  refine x6 ?_
  refine x8 ?_
  refine R0 (xe0 (r := tS [⟨2, true, (tS [⟨1, false, (tE (.bool false))⟩, ⟨1, false, (tLm [])⟩])⟩, ⟨2, true, (tS [⟨1, false, (tE (.bool false))⟩, ⟨1, false, (tLm [])⟩])⟩]) (ts := []) bu49 zr49.2 ⟨_, rfl⟩ rfl Le.refl)  (RE (xb0 (es := 4) (agg := true) (0) ti49 rfl rfl rfl) ⟨rfl, rfl, trivial⟩ ⟨rfl, trivial⟩ trivial (R1 x5 rfl (x7 (by kernel_rfl) (x3 (xa2 (xa6 ?_))))))
  exact xg4 Plain.mk' (rs := [.cell 2 49, .tmp 3]) rfl rfl ⟨⟨_, _, _, _, _, rfl, rfl, ti49, (Le.of (by rw [hs]; rfl))⟩, ⟨_, rfl, (Le.int (by rw [hs]; rfl))⟩, trivial⟩
 ·
  have hs : f.sh = true := by simpa using h46
  refine xa4 (x3 (x6 ?_))
  refine x8 ?_
  refine R1 (x9 fo162_0 rfl) rfl (xa5 (0) ti49 rfl rfl rfl (At.g 0 rfl rfl) rfl (RE (xb0 (es := 4) (agg := true) (0) ti49 rfl rfl rfl) ⟨rfl, rfl, trivial⟩ ⟨rfl, trivial⟩ trivial (R1 x5 rfl (x7 (by kernel_rfl) (x3 (xa2 ?_))))))
  exact xg4 Plain.mk' (rs := [.cell 2 49, .tmp 3]) rfl rfl ⟨⟨_, _, _, _, _, rfl, rfl, ti49, (Le.of (by rw [hs]; rfl))⟩, ⟨_, rfl, (Le.int (by rw [hs]; rfl))⟩, trivial⟩
theorem c_Tintegral (f : Fr) :
  Ct Tryz.prog 174 [tTm f] (tB (decide (f.d = ⟨false, [1]⟩))) := by
 refine Ct.intro Tryz.func174 rfl Tryz.ntmps174 rfl ?_
 intro w F
 refine x6 ?_
 refine x8 ?_
 refine RE (xd2 (k := 1) ti162 rfl) ⟨rfl, trivial⟩ trivial ⟨rfl, trivial⟩ (R1 x5 rfl (x7 (by kernel_rfl) (x3 (x6 ?_))))
 refine x8 ?_
 refine R1 (x9 fo162_0 rfl) rfl (R1 (x9 fo49_1 rfl) rfl (xa5 (0) ti47 rfl rfl rfl (At.t (At.g 0 rfl rfl) (At.g 1 rfl rfl)) rfl (R1 (xa0 (c_isOne _) fi175 rfl) rfl (R1 x5 rfl (x7 (by kernel_rfl) (x3 (xa2 ?_)))))))
 exact xa3 Plain.mk' rfl rfl Le.refl
theorem c_divisor (x y : Int) (hx : len16 x ≤ 1024) (hy : len16 y ≤ 1024) :
  Ct Tryz.prog 167 [tWh (wh x), tWh (wh y)] (tWh (wh ((Int.gcd x y : Nat) : Int))) := by
 refine Ct.intro Tryz.func167 rfl Tryz.ntmps167 rfl ?_
 intro w F
 refine x6 ?_
 refine x8 ?_
 refine RE (xd2 (k := 2) ti47 rfl) ⟨rfl, trivial⟩ trivial ⟨rfl, trivial⟩ (RE (xd2 (k := 3) ti47 rfl) ⟨rfl, trivial⟩ trivial ⟨rfl, trivial⟩ (RE (xc9 (k := 4) (n := 2) (agg := true) zr47.1 zr47.2 rfl) trivial trivial ⟨rfl, trivial⟩ (x7 (by kernel_rfl) (x3 (x6 ?_)))))
 refine x8 ?_
 refine RE (xb3 (0) ti47 rfl rfl) ⟨rfl, trivial⟩ ⟨rfl, trivial⟩ trivial (RE (xb3 (0) ti47 rfl rfl) ⟨rfl, trivial⟩ ⟨rfl, trivial⟩ trivial (R2 (xa0 (c_Gcd x y hx hy) fi203 rfl) rfl rfl (R1 x4 rfl (R1 (xb7 rfl) rfl (R1 (xb7 rfl) rfl (RE (xc9 (k := 5) (n := 2) (agg := true) zr47.1 zr47.2 rfl) trivial trivial ⟨rfl, trivial⟩ (RE (xb0 (es := 2) (agg := true) (0) ti47 rfl rfl rfl) ⟨rfl, rfl, trivial⟩ ⟨rfl, trivial⟩ trivial ?_)))))))
 refine R1 x5 rfl (x7 (by kernel_rfl) (x3 (x6 ?_)))
 refine x8 ?_
 refine RE (xb3 (0) ti47 rfl rfl) ⟨rfl, trivial⟩ ⟨rfl, trivial⟩ trivial (RE (xb0 (es := 2) (agg := true) (0) ti47 rfl rfl rfl) ⟨rfl, rfl, trivial⟩ ⟨rfl, trivial⟩ trivial (x7 (by kernel_rfl) (x3 (xa2 ?_))))
 exact xg5 Plain.mk' rfl ⟨_, _, _, _, _, rfl, rfl, ti47, Le.refl⟩
theorem c_fplus (x y : Int) (hx : len16 x ≤ 1024) (hy : len16 y ≤ 1024) (hz : len16 (x + y) ≤ 1024) :
  Ct Tryz.prog 122 [tWh (wh x), tWh (wh y)] (tWh (wh (x + y))) := by
 refine Ct.intro Tryz.func122 rfl Tryz.ntmps122 rfl ?_
 intro w F
 refine x6 ?_
 refine x8 ?_
 refine RE (xd2 (k := 2) ti47 rfl) ⟨rfl, trivial⟩ trivial ⟨rfl, trivial⟩ (RE (xd2 (k := 3) ti47 rfl) ⟨rfl, trivial⟩ trivial ⟨rfl, trivial⟩ (RE (xc9 (k := 4) (n := 2) (agg := true) zr47.1 zr47.2 rfl) trivial trivial ⟨rfl, trivial⟩ (x7 (by kernel_rfl) (x3 (x6 ?_)))))
 refine x8 ?_
 refine RE (xb3 (0) ti47 rfl rfl) ⟨rfl, trivial⟩ ⟨rfl, trivial⟩ trivial (RE (xb3 (0) ti47 rfl rfl) ⟨rfl, trivial⟩ ⟨rfl, trivial⟩ trivial (R2 (xa0 (c_Add x y hx hy) fi170 rfl) rfl rfl (R1 x4 rfl (R1 (xb7 rfl) rfl (R1 (xb7 rfl) rfl (RE (xc9 (k := 5) (n := 2) (agg := true) zr47.1 zr47.2 rfl) trivial trivial ⟨rfl, trivial⟩ (RE (xb0 (es := 2) (agg := true) (0) ti47 rfl rfl rfl) ⟨rfl, rfl, trivial⟩ ⟨rfl, trivial⟩ trivial ?_)))))))
 refine R1 x5 rfl (x7 (by kernel_rfl) (x3 (x6 ?_)))
 refine x8 ?_
 refine RE (xb3 (0) ti47 rfl rfl) ⟨rfl, trivial⟩ ⟨rfl, trivial⟩ trivial (RE (xb0 (es := 2) (agg := true) (0) ti47 rfl rfl rfl) ⟨rfl, rfl, trivial⟩ ⟨rfl, trivial⟩ trivial (x7 (by kernel_rfl) (x3 (xa2 ?_))))
 exact xg5 Plain.mk' rfl ⟨_, _, _, _, _, rfl, rfl, ti47, (Le.of (by rw [resW, if_pos hz]))⟩
theorem c_ftimes (x y : Int) (hx : len16 x ≤ 1024) (hy : len16 y ≤ 1024) (hz : len16 (x * y) ≤ 1024) :
  Ct Tryz.prog 120 [tWh (wh x), tWh (wh y)] (tWh (wh (x * y))) := by
 refine Ct.intro Tryz.func120 rfl Tryz.ntmps120 rfl ?_
 intro w F
 refine x6 ?_
 refine x8 ?_
 refine RE (xd2 (k := 2) ti47 rfl) ⟨rfl, trivial⟩ trivial ⟨rfl, trivial⟩ (RE (xd2 (k := 3) ti47 rfl) ⟨rfl, trivial⟩ trivial ⟨rfl, trivial⟩ (RE (xc9 (k := 4) (n := 2) (agg := true) zr47.1 zr47.2 rfl) trivial trivial ⟨rfl, trivial⟩ (x7 (by kernel_rfl) (x3 (x6 ?_)))))
 refine x8 ?_
 refine RE (xb3 (0) ti47 rfl rfl) ⟨rfl, trivial⟩ ⟨rfl, trivial⟩ trivial (RE (xb3 (0) ti47 rfl rfl) ⟨rfl, trivial⟩ ⟨rfl, trivial⟩ trivial (R2 (xa0 (c_Mul x y hx hy) fi168 rfl) rfl rfl (R1 x4 rfl (R1 (xb7 rfl) rfl (R1 (xb7 rfl) rfl (RE (xc9 (k := 5) (n := 2) (agg := true) zr47.1 zr47.2 rfl) trivial trivial ⟨rfl, trivial⟩ (RE (xb0 (es := 2) (agg := true) (0) ti47 rfl rfl rfl) ⟨rfl, rfl, trivial⟩ ⟨rfl, trivial⟩ trivial ?_)))))))
 refine R1 x5 rfl (x7 (by kernel_rfl) (x3 (x6 ?_)))
 refine x8 ?_
 refine RE (xb3 (0) ti47 rfl rfl) ⟨rfl, trivial⟩ ⟨rfl, trivial⟩ trivial (RE (xb0 (es := 2) (agg := true) (0) ti47 rfl rfl rfl) ⟨rfl, rfl, trivial⟩ ⟨rfl, trivial⟩ trivial (x7 (by kernel_rfl) (x3 (xa2 ?_))))
 exact xg5 Plain.mk' rfl ⟨_, _, _, _, _, rfl, rfl, ti47, (Le.of (by rw [resW, if_pos hz]))⟩
theorem c_fdivide (x y : Int) (hx : len16 x ≤ 1024) (hy : len16 y ≤ 1024) (hy0 : 0 < y) :
  Ct Tryz.prog 139 [tWh (wh x), tWh (wh y)] (tT [tWh (wh (x / y)), tWh (wh (x % y))]) := by
 refine Ct.intro Tryz.func139 rfl Tryz.ntmps139 rfl ?_
 intro w F
 refine x6 ?_
 refine x8 ?_
 refine RE (xd2 (k := 2) ti47 rfl) ⟨rfl, trivial⟩ trivial ⟨rfl, trivial⟩ (RE (xd2 (k := 3) ti47 rfl) ⟨rfl, trivial⟩ trivial ⟨rfl, trivial⟩ (RE (xc9 (k := 4) (n := 2) (agg := true) zr47.1 zr47.2 rfl) trivial trivial ⟨rfl, trivial⟩ (RE (xc9 (k := 5) (n := 2) (agg := true) zr47.1 zr47.2 rfl) trivial trivial ⟨rfl, trivial⟩ (x7 (by kernel_rfl) (x3 (x6 ?_))))))
 refine x8 ?_
 refine RE (xb3 (0) ti47 rfl rfl) ⟨rfl, trivial⟩ ⟨rfl, trivial⟩ trivial (RE (xb3 (0) ti47 rfl rfl) ⟨rfl, trivial⟩ ⟨rfl, trivial⟩ trivial (R2 (xa0 (c_DivMod x y hx hy hy0) fi192 rfl) rfl rfl (R1 x4 rfl (R1 (xb7 rfl) rfl (R1 (xb7 rfl) rfl (R1 (xb7 rfl) rfl (RE (xb0 (es := 2) (agg := true) (0) ti47 rfl rfl rfl) ⟨rfl, rfl, trivial⟩ ⟨rfl, trivial⟩ trivial ?_)))))))
 refine RE (xb0 (es := 2) (agg := true) (0) ti47 rfl rfl rfl) ⟨rfl, rfl, trivial⟩ ⟨rfl, trivial⟩ trivial (x7 (by kernel_rfl) (x3 (x6 ?_)))
 refine xe1 mixed ?_
 refine RE (xb3 (0) ti47 rfl rfl) ⟨rfl, trivial⟩ ⟨rfl, trivial⟩ trivial (RE (xb3 (0) ti47 rfl rfl) ⟨rfl, trivial⟩ ⟨rfl, trivial⟩ trivial (RE (xb0 (es := 2) (agg := true) (0) ti47 rfl rfl rfl) ⟨rfl, rfl, trivial⟩ ⟨rfl, trivial⟩ trivial (RE (xb0 (es := 2) (agg := true) (0) ti47 rfl rfl rfl) ⟨rfl, rfl, trivial⟩ ⟨rfl, trivial⟩ trivial (xd9 (by kernel_rfl) (x3 (xa2 ?_))))))
 exact xg4 Plain.mk' (rs := [.cell 4 47, .cell 5 47]) rfl rfl ⟨⟨_, _, _, _, _, rfl, rfl, ti47, Le.refl⟩, ⟨_, _, _, _, _, rfl, rfl, ti47, Le.refl⟩, trivial⟩
theorem c_opposite (z : Int) (hz : len16 z ≤ 10000) :
  Ct Tryz.prog 123 [tWh (wh z)] (tWh (wh (-z))) := by
 have hzl : (wh z).l.length ≤ 10000 := hz
 refine Ct.intro Tryz.func123 rfl Tryz.ntmps123 rfl ?_
 intro w F
 refine x6 ?_
 refine x8 ?_
 refine RE (xd2 (k := 1) ti47 rfl) ⟨rfl, trivial⟩ trivial ⟨rfl, trivial⟩ (RE (xc9 (k := 2) (n := 2) (agg := true) zr47.1 zr47.2 rfl) trivial trivial ⟨rfl, trivial⟩ (x7 (by kernel_rfl) (x3 (x6 ?_))))
 refine xe1 mixed ?_
 refine R1 (x9 fo47_0 rfl) rfl (xa5 (0) ti4 rfl rfl rfl (At.g 0 rfl rfl) rfl (R1 xe7 rfl (R1 x4 rfl ?_)))
 refine RGcase (t := 6) rfl (fun h81 => ?_) (fun h81 => ?_)
 ·
  refine RGon h81 rfl (x9 fo47_1 rfl) rfl ⟨rfl, trivial⟩ trivial trivial (xb2 h81 rfl rfl (0) ti45 rfl rfl rfl (At.g 1 rfl rfl) rfl (RGon h81 rfl (xb9 Tryz.underlying45) rfl ⟨rfl, trivial⟩ trivial trivial (RGon h81 rfl d_gtr rfl ⟨rfl, rfl, trivial⟩ trivial trivial (R2 (xa8 h81) rfl rfl (R1 (x9 fo47_1 rfl) rfl (xa5 (0) ti45 rfl rfl rfl (At.g 1 rfl rfl) rfl (R1 (xa0 (c_clone16V _ (by omega)) fi143 rfl) rfl ?_)))))))
  refine R2 (xe0 (r := tS [⟨1, false, tB (decide ((0 : Int) < ((wh z).l.length : Nat)))⟩, ⟨1, false, tLm (wh z).l⟩]) (ts := [(0, tB (decide ((0 : Int) < ((wh z).l.length : Nat)))), (1, tLm (wh z).l)]) bu47 zr47.2 ⟨_, rfl⟩ rfl ⟨_, _, _, _, rfl, Up.f (fs := [⟨1, false, (tE (.bool false))⟩, ⟨1, false, (tLm [])⟩]) (f := ⟨1, false, (tE (.bool false))⟩) (fs' := [⟨1, false, tB (decide ((0 : Int) < ((wh z).l.length : Nat)))⟩, ⟨1, false, (tLm [])⟩]) 0 rfl rfl rfl, inferInstance, ⟨_, _, _, _, rfl, Up.f (fs := [⟨1, false, tB (decide ((0 : Int) < ((wh z).l.length : Nat)))⟩, ⟨1, false, (tLm [])⟩]) (f := ⟨1, false, (tLm [])⟩) (fs' := [⟨1, false, tB (decide ((0 : Int) < ((wh z).l.length : Nat)))⟩, ⟨1, false, tLm (wh z).l⟩]) 1 rfl rfl rfl, inferInstance, Le.refl⟩⟩) rfl rfl (RE (xb0 (es := 2) (agg := true) (0) ti47 rfl rfl rfl) ⟨rfl, rfl, trivial⟩ ⟨rfl, trivial⟩ trivial (xd9 (by kernel_rfl) (x3 (xa2 ?_))))
  exact xg5 Plain.mk' rfl ⟨_, _, _, _, _, rfl, rfl, ti47, (Le.of (by rw [neg_wh, h81, Bool.true_and, decide_eq_decide.2 (show (0 : Int) < ((wh z).l.length : Nat) ↔ 0 < (wh z).l.length by omega)]))⟩
 ·
  refine RGoff h81 rfl rfl (RGoff h81 rfl rfl (RGoff h81 rfl rfl (RGoff h81 rfl rfl (R2 (xa7 h81) rfl rfl (R1 (x9 fo47_1 rfl) rfl (xa5 (0) ti45 rfl rfl rfl (At.g 1 rfl rfl) rfl (R1 (xa0 (c_clone16V _ (by omega)) fi143 rfl) rfl ?_)))))))
  refine R2 (xe0 (r := tS [⟨1, false, tB false⟩, ⟨1, false, tLm (wh z).l⟩]) (ts := [(0, tB false), (1, tLm (wh z).l)]) bu47 zr47.2 ⟨_, rfl⟩ rfl ⟨_, _, _, _, rfl, Up.f (fs := [⟨1, false, (tE (.bool false))⟩, ⟨1, false, (tLm [])⟩]) (f := ⟨1, false, (tE (.bool false))⟩) (fs' := [⟨1, false, tB false⟩, ⟨1, false, (tLm [])⟩]) 0 rfl rfl rfl, inferInstance, ⟨_, _, _, _, rfl, Up.f (fs := [⟨1, false, tB false⟩, ⟨1, false, (tLm [])⟩]) (f := ⟨1, false, (tLm [])⟩) (fs' := [⟨1, false, tB false⟩, ⟨1, false, tLm (wh z).l⟩]) 1 rfl rfl rfl, inferInstance, Le.refl⟩⟩) rfl rfl (RE (xb0 (es := 2) (agg := true) (0) ti47 rfl rfl rfl) ⟨rfl, rfl, trivial⟩ ⟨rfl, trivial⟩ trivial (xd9 (by kernel_rfl) (x3 (xa2 ?_))))
  exact xg5 Plain.mk' rfl ⟨_, _, _, _, _, rfl, rfl, ti47, (Le.of (by rw [neg_wh, h81, Bool.false_and]))⟩
theorem c_lowest (n d : Int) (hn : len16 n ≤ 1024) (hd : len16 d ≤ 1024) (hd0 : d ≠ 0) :
  Ct Tryz.prog 119 [tWh (wh n), tWh (wh d)] (tTm (fr (Rat.divInt n d))) := by
 refine Ct.intro Tryz.func119 rfl Tryz.ntmps119 rfl ?_
 intro w F
 refine x6 ?_
 refine x8 ?_
 refine RE (xd2 (k := 2) ti47 rfl) ⟨rfl, trivial⟩ trivial ⟨rfl, trivial⟩ (RE (xd2 (k := 3) ti47 rfl) ⟨rfl, trivial⟩ trivial ⟨rfl, trivial⟩ (RE (xc9 (k := 4) (n := 4) (agg := true) zr162.1 zr162.2 rfl) trivial trivial ⟨rfl, trivial⟩ (x7 (by kernel_rfl) (x3 ?_))))
 refine xh2 (fun (fm : (Int) × (Int)) => (fun (m : Int) (e : Int) => (0 < e ∧ Rat.divInt m e = Rat.divInt n d) ∧ len16 m ≤ 1024 ∧ len16 e ≤ 1024) fm.1 fm.2) (fun (fm : (Int) × (Int)) => (fun (m : Int) (e : Int) => upd (upd (upd (fun _ => none) 2 (some (.own (.ptr 2 0)))) 3 (some (.own (.ptr 3 0)))) 4 (some (.own (.ptr 4 0)))) fm.1 fm.2) (fun (fm : (Int) × (Int)) => (fun (m : Int) (e : Int) => upd (upd (upd (fun _ => none) 2 (some (⟨47, 2, true, [.val (tWh (wh m))]⟩))) 3 (some (⟨47, 2, true, [.val (tWh (wh e))]⟩))) 4 (some (⟨162, 4, true, [.val (tTm fr0)]⟩))) fm.1 fm.2) (nm [2, 3, 4]) ?_ ?_
 ·
  refine x6 ?_
  refine x8 ?_
  refine R1 (x9 fo47_0 rfl) rfl (xa5 (0) ti4 rfl rfl rfl (At.g 0 rfl rfl) rfl (x7 (by kernel_rfl) (x3 ?_)))
  refine xg6 rfl (fun h86 => ?_) (fun h86 => ?_)
  ·
   refine xe1 mixed ?_
   refine RE (xb3 (0) ti47 rfl rfl) ⟨rfl, trivial⟩ ⟨rfl, trivial⟩ trivial (R1 (xa0 (c_opposite n (by omega)) fi123 rfl) rfl (RE (xb3 (0) ti47 rfl rfl) ⟨rfl, trivial⟩ ⟨rfl, trivial⟩ trivial (R1 (xa0 (c_opposite d (by omega)) fi123 rfl) rfl (RE (xb0 (es := 2) (agg := true) (0) ti47 rfl rfl rfl) ⟨rfl, rfl, trivial⟩ ⟨rfl, trivial⟩ trivial (RE (xb0 (es := 2) (agg := true) (0) ti47 rfl rfl rfl) ⟨rfl, rfl, trivial⟩ ⟨rfl, trivial⟩ trivial (xd9 (by kernel_rfl) ?_))))))
   exact xc7 ((-n, -d)) (by dsimp only; exact ⟨⟨by have := of_decide_eq_true h86; omega, Rat.neg_divInt_neg _ _⟩, by rw [len16_neg]; exact hn, by rw [len16_neg]; exact hd⟩) (Sub.cons rfl (Sub.cons rfl (Sub.cons rfl Sub.nil))) ((SubK.consI rfl ImpK.refl) ((SubK.consI rfl ImpK.refl) ((SubK.consI rfl ImpK.refl) SubK.nil))) (SupG.own rfl (SupG.own rfl (SupG.own rfl SupG.nil))) (SupH.cons rfl (supJL rfl) (SupH.cons rfl (supJL rfl) (SupH.cons rfl (supJL rfl) SupH.nil))) (lkOk rfl)
  ·
   refine xa4 ?_
   exact xc7 ((n, d)) (by dsimp only; exact ⟨⟨by have := of_decide_eq_false h86; omega, rfl⟩, hn, hd⟩) (Sub.cons rfl (Sub.cons rfl (Sub.cons rfl Sub.nil))) ((SubK.consI rfl ImpK.refl) ((SubK.consI rfl ImpK.refl) ((SubK.consI rfl ImpK.refl) SubK.nil))) (SupG.own rfl (SupG.own rfl (SupG.own rfl SupG.nil))) (SupH.cons rfl (supJL rfl) (SupH.cons rfl (supJL rfl) (SupH.cons rfl (supJL rfl) SupH.nil))) (lkOk rfl)
 ·
  intro fm hj
  obtain ⟨m, e⟩ := fm
  replace hj : (0 < e ∧ Rat.divInt m e = Rat.divInt n d) ∧ len16 m ≤ 1024 ∧ len16 e ≤ 1024 := hj
  show wc _ _ _ _ (upd (upd (upd (fun _ => none) 2 (some (.own (.ptr 2 0)))) 3 (some (.own (.ptr 3 0)))) 4 (some (.own (.ptr 4 0)))) (upd (upd (upd (fun _ => none) 2 (some (⟨47, 2, true, [.val (tWh (wh m))]⟩))) 3 (some (⟨47, 2, true, [.val (tWh (wh e))]⟩))) 4 (some (⟨162, 4, true, [.val (tTm fr0)]⟩))) _
  obtain ⟨⟨he, hq⟩, hm, hel⟩ := hj
  have hg0 : 0 < Int.gcd m e := Int.gcd_pos_of_ne_zero_right m (by omega)
  have hgl : len16 ((Int.gcd m e : Nat) : Int) ≤ 1024 := Nat.le_trans (len16_le (by simpa using Nat.le_of_dvd (by omega) (Int.gcd_dvd_natAbs_right m e))) hel
  refine x6 ?_
  refine x8 ?_
  refine RE (xb3 (0) ti47 rfl rfl) ⟨rfl, trivial⟩ ⟨rfl, trivial⟩ trivial (RE (xb3 (0) ti47 rfl rfl) ⟨rfl, trivial⟩ ⟨rfl, trivial⟩ trivial (R2 (xa0 (c_divisor m e hm hel) fi167 rfl) rfl rfl (RE (xc9 (k := 5) (n := 2) (agg := true) zr47.1 zr47.2 rfl) trivial trivial ⟨rfl, trivial⟩ (RE (xb0 (es := 2) (agg := true) (0) ti47 rfl rfl rfl) ⟨rfl, rfl, trivial⟩ ⟨rfl, trivial⟩ trivial (x7 (by kernel_rfl) (x3 (x6 ?_)))))))
  refine x8 ?_
  refine RE (xb3 (0) ti47 rfl rfl) ⟨rfl, trivial⟩ ⟨rfl, trivial⟩ trivial (RE (xb3 (0) ti47 rfl rfl) ⟨rfl, trivial⟩ ⟨rfl, trivial⟩ trivial (R2 (xa0 (c_fdivide m _ hm hgl (by omega)) fi139 rfl) rfl rfl (R1 x4 rfl (R1 (xb7 rfl) rfl (R1 (xb7 rfl) rfl (RE (xb0 (es := 2) (agg := true) (0) ti47 rfl rfl rfl) ⟨rfl, rfl, trivial⟩ ⟨rfl, trivial⟩ trivial (x7 (by kernel_rfl) ?_)))))))
  refine x3 (x6 ?_)
  refine x8 ?_
  refine RE (xb3 (0) ti47 rfl rfl) ⟨rfl, trivial⟩ ⟨rfl, trivial⟩ trivial (RE (xb3 (0) ti47 rfl rfl) ⟨rfl, trivial⟩ ⟨rfl, trivial⟩ trivial (R2 (xa0 (c_fdivide e _ hel hgl (by omega)) fi139 rfl) rfl rfl (R1 x4 rfl (R1 (xb7 rfl) rfl (R1 (xb7 rfl) rfl (RE (xb0 (es := 2) (agg := true) (0) ti47 rfl rfl rfl) ⟨rfl, rfl, trivial⟩ ⟨rfl, trivial⟩ trivial (x7 (by kernel_rfl) ?_)))))))
  refine x3 (x6 ?_)
  refine x8 ?_
  refine RE (xb3 (0) ti47 rfl rfl) ⟨rfl, trivial⟩ ⟨rfl, trivial⟩ trivial (RE (xb3 (0) ti47 rfl rfl) ⟨rfl, trivial⟩ ⟨rfl, trivial⟩ trivial (R2 (xe0 (r := tS [⟨2, true, tWh (wh (m / ((Int.gcd m e : Nat) : Int)))⟩, ⟨2, true, tWh (wh (e / ((Int.gcd m e : Nat) : Int)))⟩]) (ts := [(0, tWh (wh (m / ((Int.gcd m e : Nat) : Int)))), (1, tWh (wh (e / ((Int.gcd m e : Nat) : Int))))]) bu49 zr49.2 ⟨_, rfl⟩ rfl ⟨_, _, _, _, rfl, Up.f (fs := [⟨2, true, (tS [⟨1, false, (tE (.bool false))⟩, ⟨1, false, (tLm [])⟩])⟩, ⟨2, true, (tS [⟨1, false, (tE (.bool false))⟩, ⟨1, false, (tLm [])⟩])⟩]) (f := ⟨2, true, (tS [⟨1, false, (tE (.bool false))⟩, ⟨1, false, (tLm [])⟩])⟩) (fs' := [⟨2, true, tWh (wh (m / ((Int.gcd m e : Nat) : Int)))⟩, ⟨2, true, (tS [⟨1, false, (tE (.bool false))⟩, ⟨1, false, (tLm [])⟩])⟩]) 0 rfl rfl rfl, inferInstance, ⟨_, _, _, _, rfl, Up.f (fs := [⟨2, true, tWh (wh (m / ((Int.gcd m e : Nat) : Int)))⟩, ⟨2, true, (tS [⟨1, false, (tE (.bool false))⟩, ⟨1, false, (tLm [])⟩])⟩]) (f := ⟨2, true, (tS [⟨1, false, (tE (.bool false))⟩, ⟨1, false, (tLm [])⟩])⟩) (fs' := [⟨2, true, tWh (wh (m / ((Int.gcd m e : Nat) : Int)))⟩, ⟨2, true, tWh (wh (e / ((Int.gcd m e : Nat) : Int)))⟩]) 1 rfl rfl rfl, inferInstance, Le.refl⟩⟩) rfl rfl (R1 (xe0 (r := tS [⟨4, true, tFr ⟨wh (m / ((Int.gcd m e : Nat) : Int)), wh (e / ((Int.gcd m e : Nat) : Int))⟩⟩]) (ts := [(0, tFr ⟨wh (m / ((Int.gcd m e : Nat) : Int)), wh (e / ((Int.gcd m e : Nat) : Int))⟩)]) bu162 zr162.2 ⟨_, rfl⟩ rfl ⟨_, _, _, _, rfl, Up.f (fs := [⟨4, true, (tS [⟨2, true, (tS [⟨1, false, (tE (.bool false))⟩, ⟨1, false, (tLm [])⟩])⟩, ⟨2, true, (tS [⟨1, false, (tE (.bool false))⟩, ⟨1, false, (tLm [])⟩])⟩])⟩]) (f := ⟨4, true, (tS [⟨2, true, (tS [⟨1, false, (tE (.bool false))⟩, ⟨1, false, (tLm [])⟩])⟩, ⟨2, true, (tS [⟨1, false, (tE (.bool false))⟩, ⟨1, false, (tLm [])⟩])⟩])⟩) (fs' := [⟨4, true, tFr ⟨wh (m / ((Int.gcd m e : Nat) : Int)), wh (e / ((Int.gcd m e : Nat) : Int))⟩⟩]) 0 rfl rfl rfl, inferInstance, Le.refl⟩) rfl (RE (xb0 (es := 4) (agg := true) (0) ti162 rfl rfl rfl) ⟨rfl, rfl, trivial⟩ ⟨rfl, trivial⟩ trivial (x7 (by kernel_rfl) (x3 (xa2 ?_)))))))
  exact xg5 Plain.mk' rfl ⟨_, _, _, _, _, rfl, rfl, ti162, (Le.of (by rw [← hq, lowest_eq he]))⟩
end An.S

/- Package frac: validity, arithmetic. -/
namespace An.S
open Go Go.Proofs An
set_option maxHeartbeats 2000000
theorem sl57 : SlI Tryz.prog 57 49 4 true := ⟨Tryz.underlying57, ti49⟩
theorem fi78 : FnI Tryz.prog 78 := ⟨_, Tryz.func78, by kernel_rfl, rfl⟩
theorem fi91 : FnI Tryz.prog 91 := ⟨_, Tryz.func91, by kernel_rfl, rfl⟩
theorem fi118 : FnI Tryz.prog 118 := ⟨_, Tryz.func118, by kernel_rfl, rfl⟩
theorem fi119 : FnI Tryz.prog 119 := ⟨_, Tryz.func119, by kernel_rfl, rfl⟩
theorem fi120 : FnI Tryz.prog 120 := ⟨_, Tryz.func120, by kernel_rfl, rfl⟩
theorem fi121 : FnI Tryz.prog 121 := ⟨_, Tryz.func121, by kernel_rfl, rfl⟩
theorem fi122 : FnI Tryz.prog 122 := ⟨_, Tryz.func122, by kernel_rfl, rfl⟩
theorem fi128 : FnI Tryz.prog 128 := ⟨_, Tryz.func128, by kernel_rfl, rfl⟩
theorem fi163 : FnI Tryz.prog 163 := ⟨_, Tryz.func163, by kernel_rfl, rfl⟩
theorem fi165 : FnI Tryz.prog 165 := ⟨_, Tryz.func165, by kernel_rfl, rfl⟩
theorem fi166 : FnI Tryz.prog 166 := ⟨_, Tryz.func166, by kernel_rfl, rfl⟩
theorem fi174 : FnI Tryz.prog 174 := ⟨_, Tryz.func174, by kernel_rfl, rfl⟩
theorem fi202 : FnI Tryz.prog 202 := ⟨_, Tryz.func202, by kernel_rfl, rfl⟩
theorem el49 : ElI Tryz.prog 49 4 64 true (.agg #[.bool false, .slice none 0 0, .bool false, .slice none 0 0]) := ⟨ti49, by kernel_rfl, by kernel_rfl⟩
theorem zf49 : Flat 4 true (.agg #[.bool false, .slice none 0 0, .bool false, .slice none 0 0]) := flat_agg (by intro u hu; simp at hu; rcases hu with rfl | rfl | rfl | rfl <;> rfl)
theorem gcd_one_dec {x y : Int} : decide (wh ((Int.gcd x y : Nat) : Int) = ⟨false, [1]⟩) = decide (Int.gcd x y = 1) := by
  rw [← wh_one]
  refine decide_eq_decide.2 ⟨fun h' => ?_, fun h' => by rw [h']; rfl⟩
  have := wh_inj h'; omega
theorem pos_of_wh {y : Int} (h1 : (wh y).neg = false) (h2 : ¬ (wh y).l.length = 0) : 0 < y := by
  have h3 : ¬ y < 0 := of_decide_eq_false h1
  have h4 : y ≠ 0 := fun h => h2 (by rw [h, wh_zero]; rfl)
  omega
theorem c_Tvalid (f : Fr) (hn : Dig 65536 f.n.l) (hd : Dig 65536 f.d.l) :
  Ct Tryz.prog 128 [tTm f] (tB f.valid) := by
 obtain ⟨n, d⟩ := f
 replace hn : Dig 65536 n.l := hn
 replace hd : Dig 65536 d.l := hd
 refine Ct.intro Tryz.func128 rfl Tryz.ntmps128 rfl ?_
 intro w F
 refine x6 ?_
 refine x8 ?_
 refine RE (xd2 (k := 1) ti162 rfl) ⟨rfl, trivial⟩ trivial ⟨rfl, trivial⟩ (R1 x5 rfl (x7 (by kernel_rfl) (x3 (x6 (x6 ?_)))))
 refine x8 ?_
 refine RE (xb3 (0) ti162 rfl rfl) ⟨rfl, trivial⟩ ⟨rfl, trivial⟩ trivial (R1 (xa0 (c_Tlong _) fi169 rfl) rfl (R1 x4 rfl ?_))
 refine RGcase (t := 5) rfl (fun h38 => ?_) (fun h38 => ?_)
 ·
  have hs : (⟨n, d⟩ : Fr).sh = false := by simpa using h38
  refine RGoff h38 rfl rfl (RGoff h38 rfl rfl (RGoff h38 rfl rfl (RGoff h38 rfl rfl (RGoff h38 rfl rfl (R2 (xa8 h38) rfl rfl (R1 x4 rfl (RGoff1 rfl rfl ?_)))))))
  refine RGoff1 rfl rfl (RGoff1 rfl rfl (RGoff1 rfl rfl (RGoff1 rfl rfl (R2 (xa8 rfl) rfl rfl (R1 x4 rfl (RGoff1 rfl rfl (RGoff1 rfl rfl ?_)))))))
  refine RGoff1 rfl rfl (RGoff1 rfl rfl (R2 (xa8 rfl) rfl rfl (R1 x4 rfl (RGoff1 rfl rfl (RGoff1 rfl rfl (RGoff1 rfl rfl (RGoff1 rfl rfl ?_)))))))
  refine RGoff1 rfl rfl (RGoff1 rfl rfl (R2 (xa8 rfl) rfl rfl (x7 (by kernel_rfl) (x3 (C_bT rfl rfl (x6 ?_))))))
  refine x8 ?_
  refine R1 x5 rfl (x7 (by kernel_rfl) (x3 (xa2 (xa6 ?_))))
  exact xa3 Plain.mk' rfl rfl (Le.bool (by simp only [Fr.valid, hs, Bool.false_and]))
 ·
  have hs : (⟨n, d⟩ : Fr).sh = true := by simpa using h38
  refine RGon h38 rfl (x9 fo162_0 rfl) rfl ⟨rfl, trivial⟩ trivial trivial (RGon h38 rfl (x9 fo49_0 rfl) rfl ⟨rfl, trivial⟩ trivial trivial (xb2 h38 rfl rfl (0) ti47 rfl rfl rfl (At.t (At.g 0 rfl rfl) (At.g 0 rfl rfl)) rfl (RGon h38 rfl (xa0 (c_WValid n) fi144 rfl) rfl ⟨rfl, trivial⟩ trivial trivial (RGon h38 rfl xe7 rfl ⟨rfl, trivial⟩ trivial trivial (R2 (xa7 h38) rfl rfl (R1 x4 rfl ?_))))))
  refine RGcase (t := 12) rfl (fun h38_2 => ?_) (fun h38_2 => ?_)
  ·
   have hv1 : n.valid = false := by simpa using h38_2
   refine RGoff h38_2 rfl rfl (RGoff h38_2 rfl rfl (RGoff h38_2 rfl rfl (RGoff h38_2 rfl rfl (RGoff h38_2 rfl rfl (R2 (xa8 h38_2) rfl rfl (R1 x4 rfl (RGoff1 rfl rfl ?_)))))))
   refine RGoff1 rfl rfl (RGoff1 rfl rfl (RGoff1 rfl rfl (R2 (xa8 rfl) rfl rfl (R1 x4 rfl (RGoff1 rfl rfl (RGoff1 rfl rfl (RGoff1 rfl rfl ?_)))))))
   refine RGoff1 rfl rfl (RGoff1 rfl rfl (RGoff1 rfl rfl (R2 (xa8 rfl) rfl rfl (x7 (by kernel_rfl) (x3 (C_bT rfl rfl (x6 ?_)))))))
   refine x8 ?_
   refine R1 x5 rfl (x7 (by kernel_rfl) (x3 (xa2 (xa6 ?_))))
   exact xa3 Plain.mk' rfl rfl (Le.bool (by simp only [Fr.valid, hv1, Bool.and_false, Bool.false_and]))
  ·
   have hv1 : n.valid = true := by simpa using h38_2
   refine RGon h38_2 rfl (x9 fo162_0 rfl) rfl ⟨rfl, trivial⟩ trivial trivial (RGon h38_2 rfl (x9 fo49_1 rfl) rfl ⟨rfl, trivial⟩ trivial trivial (xb2 h38_2 rfl rfl (0) ti47 rfl rfl rfl (At.t (At.g 0 rfl rfl) (At.g 1 rfl rfl)) rfl (RGon h38_2 rfl (xa0 (c_WValid d) fi144 rfl) rfl ⟨rfl, trivial⟩ trivial trivial (RGon h38_2 rfl xe7 rfl ⟨rfl, trivial⟩ trivial trivial (R2 (xa7 h38_2) rfl rfl (R1 x4 rfl ?_))))))
   refine RGcase (t := 19) rfl (fun h38_3 => ?_) (fun h38_3 => ?_)
   ·
    have hv2 : d.valid = false := by simpa using h38_3
    refine RGoff h38_3 rfl rfl (RGoff h38_3 rfl rfl (RGoff h38_3 rfl rfl (RGoff h38_3 rfl rfl (R2 (xa8 h38_3) rfl rfl (R1 x4 rfl (RGoff1 rfl rfl (RGoff1 rfl rfl ?_)))))))
    refine RGoff1 rfl rfl (RGoff1 rfl rfl (RGoff1 rfl rfl (RGoff1 rfl rfl (R2 (xa8 rfl) rfl rfl (x7 (by kernel_rfl) (x3 (C_bT rfl rfl ?_)))))))
    refine x6 ?_
    refine x8 ?_
    refine R1 x5 rfl (x7 (by kernel_rfl) (x3 (xa2 (xa6 ?_))))
    exact xa3 Plain.mk' rfl rfl (Le.bool (by simp only [Fr.valid, hv2, Bool.and_false, Bool.false_and]))
   ·
    have hv2 : d.valid = true := by simpa using h38_3
    obtain ⟨x, rfl, hxl⟩ := Wh.of_valid hn hv1
    obtain ⟨y, rfl, hyl⟩ := Wh.of_valid hd hv2
    have ix := int_wh x
    have iy := int_wh y
    refine RGon h38_3 rfl (x9 fo162_0 rfl) rfl ⟨rfl, trivial⟩ trivial trivial (RGon h38_3 rfl (x9 fo49_1 rfl) rfl ⟨rfl, trivial⟩ trivial trivial (RGon h38_3 rfl (x9 fo47_0 rfl) rfl ⟨rfl, trivial⟩ trivial trivial (xb2 h38_3 rfl rfl (0) ti4 rfl rfl rfl (At.t (At.g 0 rfl rfl) (At.t (At.g 1 rfl rfl) (At.g 0 rfl rfl))) rfl (R2 (xa7 h38_3) rfl rfl (R1 x4 rfl ?_)))))
    refine RGcase (t := 25) rfl (fun h38_4 => ?_) (fun h38_4 => ?_)
    ·
     have hy0 : ¬ 0 < y := by have : y < 0 := of_decide_eq_true h38_4; omega
     refine RGoff h38_4 rfl rfl (RGoff h38_4 rfl rfl (RGoff h38_4 rfl rfl (RGoff h38_4 rfl rfl (RGoff h38_4 rfl rfl (RGoff h38_4 rfl rfl (R2 (xa8 h38_4) rfl rfl (x7 (by kernel_rfl) ?_)))))))
     refine x3 (C_bT rfl rfl (x6 ?_))
     refine x8 ?_
     refine R1 x5 rfl (x7 (by kernel_rfl) (x3 (xa2 (xa6 ?_))))
     exact xa3 Plain.mk' rfl rfl (Le.bool (by simp only [Fr.valid, ix, iy, decide_eq_false hy0, Bool.and_false, Bool.false_and]))
    ·
     refine RGon h38_4 rfl (x9 fo162_0 rfl) rfl ⟨rfl, trivial⟩ trivial trivial (RGon h38_4 rfl (x9 fo49_1 rfl) rfl ⟨rfl, trivial⟩ trivial trivial (RGon h38_4 rfl (x9 fo47_1 rfl) rfl ⟨rfl, trivial⟩ trivial trivial (xb2 h38_4 rfl rfl (0) ti45 rfl rfl rfl (At.t (At.g 0 rfl rfl) (At.t (At.g 1 rfl rfl) (At.g 1 rfl rfl))) rfl (RGon h38_4 rfl (xb9 Tryz.underlying45) rfl ⟨rfl, trivial⟩ trivial trivial (RGon h38_4 rfl xe5 rfl ⟨rfl, rfl, trivial⟩ trivial trivial (R2 (xa7 h38_4) rfl rfl (x7 (by kernel_rfl) ?_)))))))
     refine x3 ?_
     refine xc2 rfl (fun h38_5 => ?_) (fun h38_5 => ?_)
     ·
      have hy0 : ¬ 0 < y := fun h => by
       have h5 : (((wh y).l.length : Nat) : Int) = 0 := h38_5
       have h2 : (wh y).l.length = 0 := by omega
       have h3 : y.natAbs = 0 := (xi2 xb6).1 (List.length_eq_zero_iff.1 h2)
       omega
      refine x6 ?_
      refine x8 ?_
      refine R1 x5 rfl (x7 (by kernel_rfl) (x3 (xa2 (xa6 ?_))))
      exact xa3 Plain.mk' rfl rfl (Le.bool (by simp only [Fr.valid, ix, iy, decide_eq_false hy0, Bool.and_false, Bool.false_and]))
     ·
      have h5 : ¬ (((wh y).l.length : Nat) : Int) = 0 := h38_5
      have hy0 : 0 < y := pos_of_wh h38_4 (by omega)
      refine xa4 (x3 (x6 (C_key (k := 1) (e' := ⟨162, 4, true, [.val (tTm ⟨wh x, wh y⟩)]⟩) rfl rfl ?_)))
      refine x8 ?_
      refine RE (xb3 (0) ti162 rfl rfl) ⟨rfl, trivial⟩ ⟨rfl, trivial⟩ trivial (R1 (xa0 (c_Tintegral _) fi174 rfl) rfl (R1 x4 rfl ?_))
      refine RGcase (t := 35) rfl (fun h41 => ?_) (fun h41 => ?_)
      ·
       have hy1 : y = 1 := by have h := of_decide_eq_true h41; exact wh_inj (h.trans wh_one.symm)
       refine RGoff h41 rfl rfl (RGoff h41 rfl rfl (RGoff h41 rfl rfl (RGoff h41 rfl rfl (RGoff h41 rfl rfl (RGoff h41 rfl rfl (RGoff h41 rfl rfl (RGoff h41 rfl rfl ?_)))))))
       refine R2 (xa8 h41) rfl rfl (R1 x5 rfl (x7 (by kernel_rfl) (x3 (xa2 ?_))))
       exact xa3 Plain.mk' rfl rfl (Le.bool (by simp only [Fr.valid, ix, iy, hs, hv1, hv2, Bool.true_and]; rw [hy1]; simp))
      ·
       have hy1 : ¬ y = 1 := fun h => of_decide_eq_false h41 (by show wh y = _; rw [h, wh_one])
       refine RGon h41 rfl (x9 fo162_0 rfl) rfl ⟨rfl, trivial⟩ trivial trivial (RGon h41 rfl (x9 fo49_0 rfl) rfl ⟨rfl, trivial⟩ trivial trivial (xb2 h41 rfl rfl (0) ti47 rfl rfl rfl (At.t (At.g 0 rfl rfl) (At.g 0 rfl rfl)) rfl (RGon h41 rfl (x9 fo162_0 rfl) rfl ⟨rfl, trivial⟩ trivial trivial (RGon h41 rfl (x9 fo49_1 rfl) rfl ⟨rfl, trivial⟩ trivial trivial (xb2 h41 rfl rfl (0) ti47 rfl rfl rfl (At.t (At.g 0 rfl rfl) (At.g 1 rfl rfl)) rfl (RGon h41 rfl (xa0 (c_divisor x y hxl hyl) fi167 rfl) rfl ⟨rfl, rfl, trivial⟩ trivial trivial (RGon h41 rfl (xa0 (c_isOne _) fi175 rfl) rfl ⟨rfl, trivial⟩ trivial trivial ?_)))))))
       refine R2 (xa7 h41) rfl rfl (R1 x5 rfl (x7 (by kernel_rfl) (x3 (xa2 ?_))))
       exact xa3 Plain.mk' rfl rfl (Le.bool (by simp only [Fr.valid, ix, iy, hs, hv1, hv2, decide_eq_true hy0, Bool.true_and]; exact gcd_one_dec))
theorem c_FValid (f : Fr) (hn : Dig 65536 f.n.l) (hd : Dig 65536 f.d.l) :
  Ct Tryz.prog 78 [tFr f] (tB f.valid) := by
 refine Ct.intro Tryz.func78 rfl Tryz.ntmps78 rfl ?_
 intro w F
 refine x6 ?_
 refine x8 ?_
 refine RE (xd2 (k := 1) ti49 rfl) ⟨rfl, trivial⟩ trivial ⟨rfl, trivial⟩ (R1 x5 rfl (x7 (by kernel_rfl) (x3 (x6 ?_))))
 refine x8 ?_
 refine RE (xb3 (0) ti49 rfl rfl) ⟨rfl, trivial⟩ ⟨rfl, trivial⟩ trivial (R1 (xe0 (r := tS [⟨4, true, tFr f⟩]) (ts := [(0, tFr f)]) bu162 zr162.2 ⟨_, rfl⟩ rfl ⟨_, _, _, _, rfl, Up.f (fs := [⟨4, true, (tS [⟨2, true, (tS [⟨1, false, (tE (.bool false))⟩, ⟨1, false, (tLm [])⟩])⟩, ⟨2, true, (tS [⟨1, false, (tE (.bool false))⟩, ⟨1, false, (tLm [])⟩])⟩])⟩]) (f := ⟨4, true, (tS [⟨2, true, (tS [⟨1, false, (tE (.bool false))⟩, ⟨1, false, (tLm [])⟩])⟩, ⟨2, true, (tS [⟨1, false, (tE (.bool false))⟩, ⟨1, false, (tLm [])⟩])⟩])⟩) (fs' := [⟨4, true, tFr f⟩]) 0 rfl rfl rfl, inferInstance, Le.refl⟩) rfl (R1 (xa0 (c_Tvalid f hn hd) fi128 rfl) rfl (R1 x5 rfl (x7 (by kernel_rfl) (x3 (xa2 ?_))))))
 exact xa3 Plain.mk' rfl rfl Le.refl
theorem c_FValidQ (q : Rat) (h : short q) : Ct Tryz.prog 78 [tFr (fr q)] (tB true) := by
  have := c_FValid (fr q) (xe9 xb6 _) (xe9 xb6 _)
  rw [valid_fr h] at this; exact this
theorem c_FallValid1 (q : Rat) (h : short q) :
  Ct Tryz.prog 166 [tFr (fr q)] (tB false) := by
 refine Ct.intro Tryz.func166 rfl Tryz.ntmps166 rfl ?_
 intro w F
 refine x6 ?_
 refine x8 ?_
 refine RE (xd2 (k := 1) ti49 rfl) ⟨rfl, trivial⟩ trivial ⟨rfl, trivial⟩ (R1 x5 rfl (x7 (by kernel_rfl) (x3 (x6 ?_))))
 refine x8 ?_
 refine RE (xb3 (0) ti49 rfl rfl) ⟨rfl, trivial⟩ ⟨rfl, trivial⟩ trivial (R1 (xa0 (c_FValidQ q h) fi78 rfl) rfl (R1 xe7 rfl (R1 x5 rfl (x7 (by kernel_rfl) (x3 (xa2 ?_))))))
 exact xa3 Plain.mk' rfl rfl Le.refl
theorem getD_mem {α : Type} {l : List α} {i : Nat} {d : α} (h : i < l.length) : l.getD i d ∈ l := by
  rw [List.getD_eq_getElem?_getD, List.getElem?_eq_getElem h]; exact List.getElem_mem h
theorem c_FIndex (qs : List Rat) (h : ∀ q ∈ qs, short q) :
  Ct Tryz.prog 202 [tL 4 true (fun q : Rat => tFr (fr q)) qs, tE (.func (.func 166) #[] #[])] (tI (-1)) := by
 refine Ct.intro Tryz.func202 rfl Tryz.ntmps202 rfl ?_
 intro w F
 refine C_len (s := 0) rfl (fun hl0 => ?_)
 refine x6 ?_
 refine x8 ?_
 refine R1 x5 rfl (x7 (by kernel_rfl) (x3 (x6 (x6 ?_))))
 refine x8 ?_
 refine R1 x4 rfl (R1 (xb9 Tryz.underlying57) rfl (R1 x4 rfl (x7 (by kernel_rfl) (x3 (xa9 ?_)))))
 refine xd6 (fun (i : Nat) => i ≤ qs.length) (fun (i : Nat) => upd (upd (upd (upd (fun _ => none) 0 (some (.val (tL 4 true (fun q : Rat => tFr (fr q)) qs)))) 1 (some (.val (tE (.func (.func 166) #[] #[]))))) 7 (some (.val (tI qs.length)))) 8 (some (.val (tI i)))) (fun (i : Nat) => fun _ => none) (nm []) (fun (i : Nat) => qs.length - i) (0) (Nat.zero_le _) (Sub.int rfl (by first | omega | rfl | (dsimp only; omega)) (Sub.int rfl (by first | omega | rfl | (dsimp only; omega)) (Sub.cons rfl (Sub.cons rfl Sub.nil)))) SubK.nil (SupG.val (SupG.val (SupG.val (SupG.val SupG.nil)))) SupH.nil (lkOk rfl) ?_
 intro i hI
 refine x6 ?_
 refine x8 ?_
 refine R2 xd5 rfl rfl (x7 (by kernel_rfl) (x3 (x6 ?_)))
 refine xc2 rfl (fun h108 => ?_) (fun h108 => ?_)
 ·
  refine xa4 (x3 (x6 (xa9 (x6 ?_))))
  refine x8 ?_
  refine R1 x4 rfl (R1 x5 rfl (x7 (by kernel_rfl) (x3 (x6 ?_))))
  refine x8 ?_
  refine R1 x4 rfl (R1 x4 rfl (R1 x4 rfl (R2 (xb8 sl57 i (by omega) (gD (l := qs) (n := i) (d := 0) (by omega))) rfl rfl (R1 (xc1 ti49) rfl (R2 (d_callF (c_FallValid1 (qs.getD i 0) (h _ (getD_mem (by omega)))) fi166 rfl) rfl rfl (x7 (by kernel_rfl) (x3 ?_)))))))
  refine C_bF rfl rfl (xa4 (xc6 (x3 ?_)))
  refine x8 ?_
  refine R2 (xc4 (wr64 (by omega) (by omega))) rfl rfl (R1 x4 rfl (x7 (by kernel_rfl) ?_))
  exact xc7 (i + 1) ⟨(by omega), (by omega)⟩ (Sub.int rfl (by first | omega | rfl | (dsimp only; omega)) (Sub.int rfl (by first | omega | rfl | (dsimp only; omega)) (Sub.cons rfl (Sub.cons rfl Sub.nil)))) SubK.nil (SupG.val (SupG.val (SupG.val (SupG.val SupG.nil)))) SupH.nil (lkOk rfl)
 ·
  refine xd1 (xc0 (xc0 (xd8 (x3 (x6 ?_)))))
  refine x8 ?_
  refine R1 x5 rfl (x7 (by kernel_rfl) (x3 (xa2 ?_)))
  exact xa3 Plain.mk' rfl rfl Le.refl
theorem c_FContains (qs : List Rat) (h : ∀ q ∈ qs, short q) :
  Ct Tryz.prog 165 [tL 4 true (fun q : Rat => tFr (fr q)) qs, tE (.func (.func 166) #[] #[])] (tB false) := by
 refine Ct.intro Tryz.func165 rfl Tryz.ntmps165 rfl ?_
 intro w F
 refine x6 ?_
 refine x8 ?_
 refine R1 x5 rfl (x7 (by kernel_rfl) (x3 (x6 ?_)))
 refine x8 ?_
 refine R1 x4 rfl (R1 x4 rfl (R2 (xa0 (c_FIndex qs h) fi202 rfl) rfl rfl (R2 d_geq rfl rfl (R1 x5 rfl (x7 (by kernel_rfl) (x3 (xa2 ?_)))))))
 exact xa3 Plain.mk' rfl rfl (Le.bool rfl)
theorem c_FallValid (qs : List Rat) (h : ∀ q ∈ qs, short q) :
  Ct Tryz.prog 118 [tL 4 true (fun q : Rat => tFr (fr q)) qs] (tB true) := by
 refine Ct.intro Tryz.func118 rfl Tryz.ntmps118 rfl ?_
 intro w F
 refine x6 ?_
 refine x8 ?_
 refine R1 x5 rfl (x7 (by kernel_rfl) (x3 (x6 ?_)))
 refine x8 ?_
 refine R1 x4 rfl (R2 (xa0 (c_FContains qs h) fi165 rfl) rfl rfl (R1 xe7 rfl (R1 x5 rfl (x7 (by kernel_rfl) (x3 (xa2 ?_))))))
 exact xa3 Plain.mk' rfl rfl Le.refl
theorem mul_divInt (a b : Rat) : Rat.divInt (a.num * b.num) ((a.den : Int) * (b.den : Int)) = a * b := by
  rw [Rat.mul_def, ← Int.natCast_mul, Rat.divInt_ofNat, Rat.normalize_eq_mkRat]
theorem add_divInt (a b : Rat) : Rat.divInt (a.num * (b.den : Int) + b.num * (a.den : Int)) ((a.den : Int) * (b.den : Int)) = a + b := by
  rw [Rat.add_def, ← Int.natCast_mul, Rat.divInt_ofNat, Rat.normalize_eq_mkRat]
theorem den_mul_ne {a b : Rat} : ((a.den : Int) * (b.den : Int)) ≠ 0 := by
  have h1 := a.den_nz; have h2 := b.den_nz
  exact Int.mul_ne_zero (by omega) (by omega)
theorem c_FMul (a b : Rat) (ha : short a) (hb : short b) :
  Ct Tryz.prog 73 [tFr (fr a), tFr (fr b)] (tT [tFr (resF (a * b)), tI (resFE (a * b))]) := by
 obtain ⟨an, ad⟩ := ha
 obtain ⟨bn, bd⟩ := hb
 have hbd := b.den_nz
 have had := a.den_nz
 have m1 : len16 (a.num * b.num) ≤ 256 + 256 := len16_mul an bn
 have m2 : len16 ((a.den : Int) * (b.den : Int)) ≤ 256 + 256 := len16_mul ad bd
 have ha : short a := ⟨an, ad⟩
 have hb : short b := ⟨bn, bd⟩
 refine Ct.intro Tryz.func73 rfl Tryz.ntmps73 rfl ?_
 intro w F
 refine x6 ?_
 refine x8 ?_
 refine RE (xd2 (k := 2) ti49 rfl) ⟨rfl, trivial⟩ trivial ⟨rfl, trivial⟩ (RE (xd2 (k := 3) ti49 rfl) ⟨rfl, trivial⟩ trivial ⟨rfl, trivial⟩ (RE (xc9 (k := 4) (n := 4) (agg := true) zr49.1 zr49.2 rfl) trivial trivial ⟨rfl, trivial⟩ (R1 x5 rfl (x7 (by kernel_rfl) (x3 (x6 (x6 ?_)))))))
 refine x8 ?_
 refine RE (xb3 (0) ti49 rfl rfl) ⟨rfl, trivial⟩ ⟨rfl, trivial⟩ trivial (RE (xb3 (0) ti49 rfl rfl) ⟨rfl, trivial⟩ ⟨rfl, trivial⟩ trivial (R2 (xf4 (n := 2) (f := fun q : Rat => tFr (fr q)) [a, b] Tryz.underlying57 el49 zf49 rfl (fun _ => inferInstance) rfl rfl rfl) rfl rfl (R1 (xa0 (c_FallValid [a, b] (by simp; exact ⟨ha, hb⟩)) fi118 rfl) rfl (R1 xe7 rfl (x7 (by kernel_rfl) (x3 (C_bF rfl rfl ?_)))))))
 refine xa4 (x3 (x6 ?_))
 refine xe1 mixed ?_
 refine R1 (x9 fo49_0 rfl) rfl (xa5 (0) ti47 rfl rfl rfl (At.g 0 rfl rfl) rfl (R1 (x9 fo49_0 rfl) rfl (xa5 (0) ti47 rfl rfl rfl (At.g 0 rfl rfl) rfl (R2 (xa0 (c_ftimes (a.num) (b.num) (by omega) (by omega) (by omega)) fi120 rfl) rfl rfl (R1 (x9 fo49_1 rfl) rfl (xa5 (0) ti47 rfl rfl rfl (At.g 1 rfl rfl) rfl (R1 (x9 fo49_1 rfl) rfl ?_)))))))
 refine xa5 (0) ti47 rfl rfl rfl (At.g 1 rfl rfl) rfl (R2 (xa0 (c_ftimes ((a.den : Int)) ((b.den : Int)) (by omega) (by omega) (by omega)) fi120 rfl) rfl rfl (R2 (xa0 (c_lowest _ _ (by omega) (by omega) den_mul_ne) fi119 rfl) rfl rfl (R1 (xa0 (c_Tresult _) fi121 rfl) rfl (R1 (xb7 rfl) rfl (R1 (xb7 rfl) rfl (RE (xb0 (es := 4) (agg := true) (0) ti49 rfl rfl rfl) ⟨rfl, rfl, trivial⟩ ⟨rfl, trivial⟩ trivial (R1 x5 rfl ?_)))))))
 refine xd9 (by kernel_rfl) (x3 (xa2 ?_))
 exact xg4 Plain.mk' (rs := [.cell 4 49, .tmp 5]) rfl rfl ⟨⟨_, _, _, _, _, rfl, rfl, ti49, (Le.of (by rw [sh_fr, mul_divInt]; by_cases hs : short (a * b) <;> simp [resF, hs]))⟩, ⟨_, rfl, (Le.int (by rw [sh_fr, mul_divInt]; by_cases hs : short (a * b) <;> simp [resFE, hs]))⟩, trivial⟩
theorem c_FAdd (a b : Rat) (ha : short a) (hb : short b) :
  Ct Tryz.prog 98 [tFr (fr a), tFr (fr b)] (tT [tFr (resF (a + b)), tI (resFE (a + b))]) := by
 obtain ⟨an, ad⟩ := ha
 obtain ⟨bn, bd⟩ := hb
 have hbd := b.den_nz
 have had := a.den_nz
 have m1 : len16 (a.num * (b.den : Int)) ≤ 256 + 256 := len16_mul an bd
 have m2 : len16 (b.num * (a.den : Int)) ≤ 256 + 256 := len16_mul bn ad
 have m3 : len16 ((a.den : Int) * (b.den : Int)) ≤ 256 + 256 := len16_mul ad bd
 have m4 := len16_add m1 m2
 have ha : short a := ⟨an, ad⟩
 have hb : short b := ⟨bn, bd⟩
 refine Ct.intro Tryz.func98 rfl Tryz.ntmps98 rfl ?_
 intro w F
 refine x6 ?_
 refine x8 ?_
 refine RE (xd2 (k := 2) ti49 rfl) ⟨rfl, trivial⟩ trivial ⟨rfl, trivial⟩ (RE (xd2 (k := 3) ti49 rfl) ⟨rfl, trivial⟩ trivial ⟨rfl, trivial⟩ (RE (xc9 (k := 4) (n := 4) (agg := true) zr49.1 zr49.2 rfl) trivial trivial ⟨rfl, trivial⟩ (R1 x5 rfl (x7 (by kernel_rfl) (x3 (x6 (x6 ?_)))))))
 refine x8 ?_
 refine RE (xb3 (0) ti49 rfl rfl) ⟨rfl, trivial⟩ ⟨rfl, trivial⟩ trivial (RE (xb3 (0) ti49 rfl rfl) ⟨rfl, trivial⟩ ⟨rfl, trivial⟩ trivial (R2 (xf4 (n := 2) (f := fun q : Rat => tFr (fr q)) [a, b] Tryz.underlying57 el49 zf49 rfl (fun _ => inferInstance) rfl rfl rfl) rfl rfl (R1 (xa0 (c_FallValid [a, b] (by simp; exact ⟨ha, hb⟩)) fi118 rfl) rfl (R1 xe7 rfl (x7 (by kernel_rfl) (x3 (C_bF rfl rfl ?_)))))))
 refine xa4 (x3 (x6 ?_))
 refine xe1 mixed ?_
 refine R1 (x9 fo49_0 rfl) rfl (xa5 (0) ti47 rfl rfl rfl (At.g 0 rfl rfl) rfl (R1 (x9 fo49_1 rfl) rfl (xa5 (0) ti47 rfl rfl rfl (At.g 1 rfl rfl) rfl (R2 (xa0 (c_ftimes (a.num) ((b.den : Int)) (by omega) (by omega) (by omega)) fi120 rfl) rfl rfl (R1 (x9 fo49_0 rfl) rfl (xa5 (0) ti47 rfl rfl rfl (At.g 0 rfl rfl) rfl (R1 (x9 fo49_1 rfl) rfl ?_)))))))
 refine xa5 (0) ti47 rfl rfl rfl (At.g 1 rfl rfl) rfl (R2 (xa0 (c_ftimes (b.num) ((a.den : Int)) (by omega) (by omega) (by omega)) fi120 rfl) rfl rfl (R2 (xa0 (c_fplus (a.num * (b.den : Int)) (b.num * (a.den : Int)) (by omega) (by omega) (by omega)) fi122 rfl) rfl rfl (R1 (x9 fo49_1 rfl) rfl (xa5 (0) ti47 rfl rfl rfl (At.g 1 rfl rfl) rfl (R1 (x9 fo49_1 rfl) rfl (xa5 (0) ti47 rfl rfl rfl (At.g 1 rfl rfl) rfl (R2 (xa0 (c_ftimes ((a.den : Int)) ((b.den : Int)) (by omega) (by omega) (by omega)) fi120 rfl) rfl rfl ?_)))))))
 refine R2 (xa0 (c_lowest _ _ (by omega) (by omega) den_mul_ne) fi119 rfl) rfl rfl (R1 (xa0 (c_Tresult _) fi121 rfl) rfl (R1 (xb7 rfl) rfl (R1 (xb7 rfl) rfl (RE (xb0 (es := 4) (agg := true) (0) ti49 rfl rfl rfl) ⟨rfl, rfl, trivial⟩ ⟨rfl, trivial⟩ trivial (R1 x5 rfl (xd9 (by kernel_rfl) (x3 ?_)))))))
 refine xa2 ?_
 exact xg4 Plain.mk' (rs := [.cell 4 49, .tmp 5]) rfl rfl ⟨⟨_, _, _, _, _, rfl, rfl, ti49, (Le.of (by rw [sh_fr, add_divInt]; by_cases hs : short (a + b) <;> simp [resF, hs]))⟩, ⟨_, rfl, (Le.int (by rw [sh_fr, add_divInt]; by_cases hs : short (a + b) <;> simp [resFE, hs]))⟩, trivial⟩
theorem c_FSame (f g : Fr) :
  Ct Tryz.prog 114 [tFr f, tFr g] (tB (decide (f = g))) := by
 refine Ct.intro Tryz.func114 rfl Tryz.ntmps114 rfl ?_
 intro w F
 refine x6 ?_
 refine x8 ?_
 refine RE (xd2 (k := 2) ti49 rfl) ⟨rfl, trivial⟩ trivial ⟨rfl, trivial⟩ (RE (xd2 (k := 3) ti49 rfl) ⟨rfl, trivial⟩ trivial ⟨rfl, trivial⟩ (R1 x5 rfl (x7 (by kernel_rfl) (x3 (x6 ?_)))))
 refine x8 ?_
 refine R1 (x9 fo49_0 rfl) rfl (xa5 (0) ti47 rfl rfl rfl (At.g 0 rfl rfl) rfl (R1 (x9 fo49_0 rfl) rfl (xa5 (0) ti47 rfl rfl rfl (At.g 0 rfl rfl) rfl (R2 (xa0 (c_WSame _ _) fi163 rfl) rfl rfl (R1 x4 rfl ?_)))))
 refine RGcase (t := 10) rfl (fun h107 => ?_) (fun h107 => ?_)
 ·
  have hn : f.n = g.n := of_decide_eq_true h107
  refine RGon h107 rfl (x9 fo49_1 rfl) rfl ⟨rfl, trivial⟩ trivial trivial (xb2 h107 rfl rfl (0) ti47 rfl rfl rfl (At.g 1 rfl rfl) rfl (RGon h107 rfl (x9 fo49_1 rfl) rfl ⟨rfl, trivial⟩ trivial trivial (xb2 h107 rfl rfl (0) ti47 rfl rfl rfl (At.g 1 rfl rfl) rfl (RGon h107 rfl (xa0 (c_WSame _ _) fi163 rfl) rfl ⟨rfl, rfl, trivial⟩ trivial trivial (R2 (xa8 h107) rfl rfl (R1 x5 rfl (x7 (by kernel_rfl) ?_)))))))
  refine x3 (xa2 ?_)
  exact xa3 Plain.mk' rfl rfl (Le.bool (by obtain ⟨a, b⟩ := f; obtain ⟨c, d⟩ := g; simp only at hn; subst hn; simp))
 ·
  have hn : f.n ≠ g.n := of_decide_eq_false h107
  refine RGoff h107 rfl rfl (RGoff h107 rfl rfl (RGoff h107 rfl rfl (RGoff h107 rfl rfl (RGoff h107 rfl rfl (R2 (xa7 h107) rfl rfl (R1 x5 rfl (x7 (by kernel_rfl) ?_)))))))
  refine x3 (xa2 ?_)
  exact xa3 Plain.mk' rfl rfl (Le.bool (decide_eq_false (fun h => hn (by rw [h]))).symm)
theorem c_FFromInt (n : Int) (h1 : -9223372036854775808 ≤ n) (h2 : n ≤ 9223372036854775807) :
  Ct Tryz.prog 71 [tI n] (tFr (fr (n : Rat))) := by
 refine Ct.intro Tryz.func71 rfl Tryz.ntmps71 rfl ?_
 intro w F
 refine x6 ?_
 refine x8 ?_
 refine RE (xc9 (k := 2) (n := 4) (agg := true) zr49.1 zr49.2 rfl) trivial trivial ⟨rfl, trivial⟩ (x7 (by kernel_rfl) (x3 (x6 ?_)))
 refine x8 ?_
 refine R1 x4 rfl (R1 (xa0 (c_FromInt n h1 h2) fi91 rfl) rfl (R1 (xa0 (c_FromInt 1 (by decide) (by decide)) fi91 rfl) rfl (R2 (xe0 (r := tS [⟨2, true, tWh (wh n)⟩, ⟨2, true, tWh (wh 1)⟩]) (ts := [(0, tWh (wh n)), (1, tWh (wh 1))]) bu49 zr49.2 ⟨_, rfl⟩ rfl ⟨_, _, _, _, rfl, Up.f (fs := [⟨2, true, (tS [⟨1, false, (tE (.bool false))⟩, ⟨1, false, (tLm [])⟩])⟩, ⟨2, true, (tS [⟨1, false, (tE (.bool false))⟩, ⟨1, false, (tLm [])⟩])⟩]) (f := ⟨2, true, (tS [⟨1, false, (tE (.bool false))⟩, ⟨1, false, (tLm [])⟩])⟩) (fs' := [⟨2, true, tWh (wh n)⟩, ⟨2, true, (tS [⟨1, false, (tE (.bool false))⟩, ⟨1, false, (tLm [])⟩])⟩]) 0 rfl rfl rfl, inferInstance, ⟨_, _, _, _, rfl, Up.f (fs := [⟨2, true, tWh (wh n)⟩, ⟨2, true, (tS [⟨1, false, (tE (.bool false))⟩, ⟨1, false, (tLm [])⟩])⟩]) (f := ⟨2, true, (tS [⟨1, false, (tE (.bool false))⟩, ⟨1, false, (tLm [])⟩])⟩) (fs' := [⟨2, true, tWh (wh n)⟩, ⟨2, true, tWh (wh 1)⟩]) 1 rfl rfl rfl, inferInstance, Le.refl⟩⟩) rfl rfl (RE (xb0 (es := 4) (agg := true) (0) ti49 rfl rfl rfl) ⟨rfl, rfl, trivial⟩ ⟨rfl, trivial⟩ trivial (x7 (by kernel_rfl) (x3 (xa2 ?_)))))))
 exact xg5 Plain.mk' rfl ⟨_, _, _, _, _, rfl, rfl, ti49, (Le.of (by rw [fr, Rat.num_intCast, Rat.den_intCast]; rfl))⟩
end An.S

/- Layer 24: deals and states. Plain data. -/
namespace An
open Go
structure Deal where
  lo : Int
  hi : Int
  share : Fr
  acc : Int
def deal0 : Deal := ⟨0, 0, fr0, 0⟩
abbrev tDeal (d : Deal) : Ty := tS [⟨1, false, tI d.lo⟩, ⟨1, false, tI d.hi⟩, ⟨4, true, tFr d.share⟩, ⟨1, false, tI d.acc⟩]
abbrev tState (o : Int) (b p : List Int) : Ty := tS [⟨1, false, tI o⟩, ⟨1, false, tIs b⟩, ⟨1, false, tIs p⟩]
/-- The limbs are limbs. -/
def Fr.dig (f : Fr) : Prop := Dig 65536 f.n.l ∧ Dig 65536 f.d.l
def Fr.rat (f : Fr) : Rat := Rat.divInt f.n.int f.d.int
theorem rat_fr (q : Rat) : (fr q).rat = q := by
  have e1 : (fr q).n.int = q.num := int_wh _
  have e2 : (fr q).d.int = (q.den : Int) := int_wh _
  rw [Fr.rat, e1, e2, Rat.divInt_ofNat, Rat.mkRat_self]
theorem Fr.of_valid' {f : Fr} (hD : f.dig) (h : f.valid = true) : f = fr f.rat ∧ short f.rat := by
  obtain ⟨q, hq, hs⟩ := Fr.of_valid hD.1 hD.2 h
  subst hq
  rw [rat_fr]; exact ⟨rfl, hs⟩
def Deal.valid (d : Deal) : Bool := decide (0 ≤ d.lo) && decide (d.lo ≤ d.hi) && decide (d.hi ≤ 1048576) && d.share.valid && !d.share.n.neg && decide (d.share.rat ≤ 1) && decide (d.share.n.l.length ≤ 4) && decide (d.share.d.l.length ≤ 4) && decide (1 ≤ d.acc) && decide (d.acc ≤ 1099511627776)
def validL (l : List Deal) : Bool := decide (l.length ≤ 16) && l.all Deal.valid
def wIn (n : Int) : Bool := decide (-1099511627776 ≤ n) && decide (n ≤ 1099511627776)
/-- A share of a sum, rounded down. -/
def take (q : Rat) (n : Int) : Int := (q * (n : Rat)).floor
theorem short_int {n : Int} (h : len16 n ≤ 256) : short (n : Rat) := by
  refine ⟨by rw [Rat.num_intCast]; exact h, ?_⟩
  rw [Rat.den_intCast]
  show (wh 1).l.length ≤ 256
  rw [wh_one]; decide
theorem len16_64 {n : Int} (h1 : -9223372036854775808 ≤ n) (h2 : n ≤ 9223372036854775807) : len16 n ≤ 4 := wh_len _ (by omega)
def rightL (l : List Deal) (o : Int) (b p : List Int) : Bool :=
  validL l && decide (b.length = l.length) && decide (p.length = l.length) && wIn o && (List.range l.length).all fun i => wIn (b.getD i 0) && decide (p.getD i 0 = take (l.getD i deal0).share.rat (b.getD i 0))
end An

/- Layers 4, 5 and 8: spans, values, steps. Plain data. -/
namespace An
open Go
structure Va where
  kind : Nat
  f : Fr
  i : Int
deriving DecidableEq
structure Sn where
  lo : Int
  hi : Int
deriving DecidableEq
structure Tst where
  lo : Int
  hi : Int
  v : Va
deriving DecidableEq
instance : Inhabited Sn := ⟨⟨0, 0⟩⟩
def va0 : Va := ⟨0, fr0, 0⟩
def sn0 : Sn := ⟨0, 0⟩
def tst0 : Tst := ⟨0, 0, va0⟩
abbrev tVa (v : Va) : Ty := tS [⟨1, false, tE (.int .u8 (v.kind : Int))⟩, ⟨4, true, tFr v.f⟩, ⟨1, false, tI v.i⟩]
abbrev tSn (s : Sn) : Ty := tS [⟨1, false, tI s.lo⟩, ⟨1, false, tI s.hi⟩]
abbrev tTs (s : Tst) : Ty := tS [⟨1, false, tI s.lo⟩, ⟨1, false, tI s.hi⟩, ⟨6, true, tVa s.v⟩]
def Va.valid (v : Va) : Bool :=
  if v.kind = 2 ∨ v.kind = 3 then decide (v.i = 0) && v.f.valid
  else if v.kind = 1 then decide (v.f = fr0) && decide (0 ≤ v.i) && decide (v.i ≤ 1)
  else if v.kind = 4 then decide (v.f = fr0) && decide (0 ≤ v.i) && decide (v.i < 65536)
  else if v.kind = 5 ∨ v.kind = 6 then decide (v.f = fr0) && decide (-1048576 ≤ v.i) && decide (v.i ≤ 1048576)
  else false
/-- A step and the one before it. -/
def tOk (l : List Tst) (i : Nat) : Bool :=
  decide (0 ≤ (l.getD i tst0).lo) && decide ((l.getD i tst0).lo < (l.getD i tst0).hi) && decide ((l.getD i tst0).hi ≤ 65536) &&
    (decide (i = 0) || decide ((l.getD (i - 1) tst0).hi ≤ (l.getD i tst0).lo) && decide ((l.getD (i - 1) tst0).v.kind = (l.getD i tst0).v.kind) && !(decide ((l.getD (i - 1) tst0).hi = (l.getD i tst0).lo) && decide ((l.getD (i - 1) tst0).v = (l.getD i tst0).v)))
def tRight (l : List Tst) : Bool := (List.range l.length).all (tOk l) && l.all fun s => s.v.valid
/-- A service record. -/
def sOk (s : Tst) : Bool := decide (s.v.kind = 2) && !s.v.f.n.neg && decide (s.v.f.rat ≤ 1)
def sRight (l : List Tst) : Bool := tRight l && l.all sOk
def Sn.ok (s : Sn) : Bool := decide (0 ≤ s.lo) && decide (s.lo ≤ s.hi) && decide (s.hi ≤ 65536)
/-- One more span, behind a set. -/
def mrg1 (acc : List Sn) (s : Sn) : List Sn :=
  if 0 < acc.length ∧ s.lo ≤ (acc.getD (acc.length - 1) sn0).hi then acc.set (acc.length - 1) ⟨(acc.getD (acc.length - 1) sn0).lo, max (acc.getD (acc.length - 1) sn0).hi s.hi⟩ else acc ++ [s]
def mrg (xs : List Sn) : List Sn := xs.foldl mrg1 []
end An

/- Comparing structs of two numbers; a nil slice in a struct variable, as a slice of one's own. For any program. -/
namespace An
open Go
theorem run_equalI {P : Program} {T : TypeId} {k : IntKind} (hT : P.underlying T = some (.int k)) (d : Nat) (p q : Int) (w : World) : (Op.equalIn (d + 1) T (.int k p) (.int k q)).run P w = .ok (p == q) w := by
  simp only [Op.equalIn, Sem.run_bind, run_underlying hT, Result.andThen_ok, Sem.run_pure, if_true]
theorem run_equalS2 {P : Program} {T E : TypeId} {k : IntKind} {f0 f1 : Field} (hT : P.underlying T = some (.struct #[f0, f1])) (hE : P.underlying E = some (.int k)) (h0 : f0.type = E) (h1 : f1.type = E) (n0 : f0.name ≠ "_") (n1 : f1.name ≠ "_") (o0 : f0.offset = 0) (o1 : f1.offset = 1)
    (hA : ∀ w, (isAgg E).run P w = .ok false w) (hs : P.stoodInHeld T = false) (a b c d : Int) (w : World) : (Op.equal T (.agg #[.int k a, .int k b]) (.agg #[.int k c, .int k d])).run P w = .ok (a == c && b == d) w := by
  have key : ∀ n, (Op.equalIn (n + 2) T (.agg #[.int k a, .int k b]) (.agg #[.int k c, .int k d])).run P w = .ok (a == c && b == d) w := fun n => by
    have hp : ∀ w, (program).run P w = .ok P w := fun _ => rfl
    rw [Op.equalIn]
    simp only [Sem.run_bind, run_underlying hT, Result.andThen_ok, hp, hs, Bool.false_eq_true, if_false]
    simp [n0, n1, h0, h1, o0, o1, go_sem, hA, run_equalI hE]
    by_cases e1 : a = c <;> by_cases e2 : b = d <;> simp [e1, e2, go_sem]
  exact key 9998
/-- A struct of two numbers. -/
structure EqS2 (P : Program) (T : TypeId) : Prop where
  eq : ∀ (a b c d : Int) (w : World), (Op.equal T (.agg #[.int .i64 a, .int .i64 b]) (.agg #[.int .i64 c, .int .i64 d])).run P w = .ok (a == c && b == d) w
  guard : P.eqGuardType P.depth T = false
theorem tSn_val {F : Dom} {w : World} {s : Sn} {v : Value} (h : (tSn s).p F w v) : v = .agg #[.int .i64 s.lo, .int .i64 s.hi] := by
  obtain ⟨cs, rfl, h2, h3, h4, _⟩ := h
  have h2 : cs.size = 2 := h2
  obtain ⟨l⟩ := cs
  match l, h2 with
  | [x, y], _ =>
    have e1 : x = .int .i64 s.lo := h3.2
    have e2 : y = .int .i64 s.hi := h4.2
    subst e1; subst e2; rfl
theorem tSn_mk {F : Dom} {w : World} {s : Sn} : (tSn s).p F w (.agg #[.int .i64 s.lo, .int .i64 s.hi]) := ⟨_, rfl, rfl, ⟨fun _ => rfl, rfl⟩, ⟨fun _ => rfl, rfl⟩, trivial⟩
theorem d_neqSn {P : Program} {c : Base} {d ty : Nat} {pos : String} {af : Array Edge} {gd : Option (Nat × Bool)} {T yT : TypeId} {x y : Operand} {s t : Sn} (h : EqS2 P T) :
    Does P c ⟨some d, .binOp .neq T x y yT, ty, pos, af, gd⟩ ⟨[(x, .val (tSn s)), (y, .val (tSn t))], [], some (d, some (.val (tB (decide (s ≠ t))))), [], []⟩ :=
  Does.value rfl fun g hh al a w η hrd _ st => by
    have h1 := tSn_val (xc3 st hrd.1).1
    have h2 := tSn_val (xc3 st hrd.2.1).1
    have hp : ∀ w, (program).run P w = .ok P w := fun _ => rfl
    have hg : (eqGuard .neq T x y (.agg #[.int .i64 s.lo, .int .i64 s.hi]) (.agg #[.int .i64 t.lo, .int .i64 t.hi])).run P w = .ok () w := by
      simp [eqGuard, go_sem, h.guard]
    have hb : (binOp .neq T (.agg #[.int .i64 s.lo, .int .i64 s.hi]) (.agg #[.int .i64 t.lo, .int .i64 t.hi])).run P w = .ok (.bool (!(s.lo == t.lo && s.hi == t.hi))) w := by
      simp only [binOp, Sem.run_bind, h.eq, Result.andThen_ok, Sem.run_pure]
    refine ⟨.bool (!(s.lo == t.lo && s.hi == t.hi)), w, ?_, Ext.refl w, ?_, fun k hk => by cases hk⟩
    · simp only [execOp, h1, h2, Sem.run_bind, hg, hb, Result.andThen_ok, Sem.run_pure]
    · show _ = Value.bool (decide (s ≠ t))
      congr 1
      obtain ⟨a, b⟩ := s; obtain ⟨a', b'⟩ := t
      by_cases e1 : a = a' <;> by_cases e2 : b = b' <;> simp [e1, e2]
/-- A slot, seen as something else. -/
theorem St.recast {c : Base} {g : Slots} {h : Keys} {al : Names} {a : Act} {w : World} {t : Nat} {e e' : Ent} (hs : St c g h al a w) (hg : g t = some e) (hi : ∀ F η v, e.sat F w η v → e'.sat F w η v) (hsup : e'.supp = []) : St c (upd g t (some e')) h al a w := by
  obtain ⟨η, s⟩ := hs
  have s2 := s.put (s.slot t _ hg).1 (e := e') (hi _ _ _ (s.slot t _ hg).2.2) fun j hj => by rw [hsup] at hj; cases hj
  refine ⟨η, ?_⟩
  have ea : a.put (some t) (a.tmps.getD t undef) = a := by
    have hlt : t < a.tmps.size := by rw [s.tn]; exact (s.slot t _ hg).1
    have : a.tmps.setIfInBounds t (a.tmps.getD t undef) = a.tmps := by
      apply Array.ext_getElem?
      intro i
      rw [Array.getElem?_setIfInBounds]
      by_cases hi : t = i
      · subst hi; simp [hlt]
      · simp [hi]
    simp only [Act.put, this]
  rw [← ea]; exact s2
theorem fdOne_row {F : Dom} {w : World} {η : Env} {cs : Array Value} : ∀ (ts : List Ty) (o : Nat), Fd.all F w cs o (fdOne ts) → RowOk F w η cs o (ts.map Ent.val)
  | [], _, _ => fun i e hi => by simp at hi
  | t :: r, o, h => fun i e hi => by
    cases i with
    | zero =>
      simp only [List.map_cons, List.getElem?_cons_zero, Option.some.injEq] at hi
      subst hi
      exact h.1.2
    | succ i =>
      have := fdOne_row (η := η) r (o + 1) h.2 i e (by simpa using hi)
      rwa [show o + 1 + i = o + (i + 1) by omega] at this
/-- A struct, as a row of its cells. -/
theorem Does.rowV {P : Program} {c : Base} {o : Oper} {rd : List (Operand × Ent)} {kr : List (Nat × HEnt)} {d : Nat} {ts : List Ty} {kw : List (Nat × Option HEnt)} {nk : List Nat} {es : List Ent} (he : ts.map Ent.val = es) (hd : Does P c o ⟨rd, kr, some (d, some (.val (tS (fdOne ts)))), kw, nk⟩) :
    Does P c o ⟨rd, kr, some (d, some (.own (An.rowV es))), kw, nk⟩ := by
  subst he
  intro g h al a w hp hs
  refine Oper.wpIn_mono (fun a' w' hs' => ?_) (hd g h al a w ⟨hp.rd, hp.kr, hp.nk, fun x hx => by cases hx; exact hp.d (d, some (.own (An.rowV (ts.map Ent.val)))) rfl⟩ hs)
  have := hs'.recast (t := d) (e' := .own (An.rowV (ts.map Ent.val))) (xe2 _ _ _) (fun F η v hv => ?_) (by rw [rowV_supp]; simp [List.flatMap_map, Ent.supp])
  · simp only [Eff.g, upd_twice] at this ⊢
    exact this
  · obtain ⟨cs, h1, h2, h3⟩ := hv
    exact rowV_sat.2 ⟨cs, h1, by rw [h2, fdOne_sum]; simp, fdOne_row ts 0 h3⟩
/-- A nil slice in a struct variable becomes a slice of one's own. -/
theorem C_nilC {P : Program} {c : Base} {g : Slots} {h : Keys} {al : Names} {Q : Exit → Act → World → Prop} {x : Code} {q Tq : Nat} {us us' : List Ent} (k T es : Nat) (agg : Bool) (i : Nat) (hq : h q = some ⟨Tq, 1, false, us⟩) (hi : us[i]? = some (.val (tE (.slice none 0 0)))) (hk : al k = false) (hes : Nat.blt 0 es = true) (hagg : agg = false → es = 1) (hne : Nat.beq q k = false)
    (hus : us.set i (.own (.sl k es 0 0)) = us') (H : wc P c x Q g (upd (upd h k (some ⟨T, es, agg, []⟩)) q (some ⟨Tq, 1, false, us'⟩)) (fun j => Nat.beq j k || al j)) : wc P c x Q g h al := fun a w hs => by
  obtain ⟨η, s⟩ := hs
  subst hus
  obtain ⟨η', s', hc, hoth⟩ := s.ghost k hk T es agg (by simpa using hes) hagg
  have hqk : q ≠ k := fun e => by rw [e] at hne; simp at hne
  have hq' : upd h k (some ⟨T, es, agg, []⟩) q = some ⟨Tq, 1, false, us⟩ := by rw [xd0 _ _ _ hqk]; exact hq
  refine H a w ⟨η', s'.same hq' rfl ?_ ?_⟩
  · intro j hj
    simp only [HEnt.supp, List.mem_flatMap] at hj
    obtain ⟨e, he, hj⟩ := hj
    obtain ⟨n, hn⟩ := List.getElem?_of_mem he
    rcases List.getElem?_set_cases hn with ⟨_, rfl, _⟩ | ⟨_, hn'⟩
    · simp only [Ent.supp, VP.supp, List.mem_singleton] at hj
      subst hj; simp
    · exact (s'.key q _ hq').2.1 j (HEnt.mem_supp hn' hj)
  · obtain ⟨k1, k2, k3, k4, k5⟩ := (s'.key q _ hq').2.2.1
    refine ⟨by simpa using k1, k2, k3, k4, fun hc0 => ?_⟩
    obtain ⟨cs, c1, c2, c3⟩ := k5 hc0
    refine ⟨cs, c1, c2, fun n e hn => ?_⟩
    rcases List.getElem?_set_cases hn with ⟨rfl, rfl, _⟩ | ⟨_, hn'⟩
    · have h6 : _ = _ := c3 n _ hi
      refine ⟨none, ?_, by simp [hc], fun hlt => by rw [hc] at hlt; omega⟩
      rw [hc]
      exact h6
    · exact c3 n e hn'
end An

/- The kit of the laws: numbers compared and made. -/
namespace An.S
open Go Go.Proofs An
set_option maxHeartbeats 2000000
theorem ti5 : TyI Tryz.prog 5 1 false := ⟨by kernel_rfl, by kernel_rfl⟩
theorem ti53 : TyI Tryz.prog 53 6 true := ⟨by kernel_rfl, by kernel_rfl⟩
theorem ti99 : TyI Tryz.prog 99 2 true := ⟨by kernel_rfl, by kernel_rfl⟩
theorem sl93 : SlI Tryz.prog 93 99 2 true := ⟨Tryz.underlying93, ti99⟩
theorem fo53_0 : fieldO Tryz.prog 53 0 = some 0 := by kernel_rfl
theorem fo53_1 : fieldO Tryz.prog 53 1 = some 1 := by kernel_rfl
theorem fo53_2 : fieldO Tryz.prog 53 2 = some 5 := by kernel_rfl
theorem fi46 : FnI Tryz.prog 46 := ⟨_, Tryz.func46, by kernel_rfl, rfl⟩
theorem fi100 : FnI Tryz.prog 100 := ⟨_, Tryz.func100, by kernel_rfl, rfl⟩
theorem fi149 : FnI Tryz.prog 149 := ⟨_, Tryz.func149, by kernel_rfl, rfl⟩
theorem zr99 : (Tryz.prog.info? 99).bind (·.zero) = some (.agg #[.int .i64 0, .int .i64 0]) ∧ ∀ F w, (tS [⟨1, false, (tE (.int .i64 0))⟩, ⟨1, false, (tE (.int .i64 0))⟩]).p F w (.agg #[.int .i64 0, .int .i64 0]) := ⟨by kernel_rfl, fun _ _ => ⟨_, rfl, rfl, ⟨fun _ => rfl, rfl⟩, ⟨fun _ => rfl, rfl⟩, trivial⟩⟩
theorem bu99 : BuI Tryz.prog 99 (fun i => [(0, 1), (1, 1)][i]?) (.agg #[.int .i64 0, .int .i64 0]) := BuI.struct Tryz.underlying99 (by kernel_rfl) (by kernel_rfl)
theorem take_succ_getN (l : List Nat) (k : Nat) (hk : k < l.length) : l.take (k + 1) = l.take k ++ [l.getD k 0] := by
  rw [List.take_succ_eq_append_getElem hk, List.getD_eq_getElem?_getD, List.getElem?_eq_getElem hk]; rfl
theorem take_succ_getS (l : List Sn) (k : Nat) (hk : k < l.length) : l.take (k + 1) = l.take k ++ [l.getD k sn0] := by
  rw [List.take_succ_eq_append_getElem hk, List.getD_eq_getElem?_getD, List.getElem?_eq_getElem hk]; rfl
theorem eq_Sn : EqS2 Tryz.prog 99 := ⟨run_equalS2 Tryz.underlying99 Tryz.underlying3 rfl rfl (by decide) (by decide) rfl rfl (fun w => by kernel_rfl) (by kernel_rfl), by kernel_rfl⟩
theorem c_SameLimbs (xs ys : List Nat) :
  Ct Tryz.prog 149 [tLm xs, tLm ys] (tB (decide (xs = ys))) := by
 refine Ct.intro Tryz.func149 rfl Tryz.ntmps149 rfl ?_
 intro w F
 refine C_len (s := 0) rfl (fun hl0 => ?_)
 refine x6 ?_
 refine x8 ?_
 refine R1 x5 rfl (x7 (by kernel_rfl) (x3 (x6 (x6 ?_))))
 refine x8 ?_
 refine R1 x4 rfl (R1 (xb9 Tryz.underlying45) rfl (R1 x4 rfl (R1 (xb9 Tryz.underlying45) rfl (R2 d_neq rfl rfl (x7 (by kernel_rfl) (x3 ?_))))))
 refine xc2 rfl (fun h9 => ?_) (fun h9 => ?_)
 ·
  refine x6 ?_
  refine x8 ?_
  refine R1 x5 rfl (x7 (by kernel_rfl) (x3 (xa2 (xa6 ?_))))
  exact xa3 Plain.mk' rfl rfl (Le.bool (decide_eq_false (fun h => by rw [h] at h9; omega)).symm)
 ·
  have hll : xs.length = ys.length := by omega
  refine xa4 (x3 (x6 (x6 ?_)))
  refine x8 ?_
  refine R1 x5 rfl (x7 (by kernel_rfl) (x3 (xa9 ?_)))
  refine xd6 (fun (i : Nat) => i ≤ xs.length ∧ xs.take i = ys.take i) (fun (i : Nat) => upd (upd (upd (fun _ => none) 0 (some (.val (tLm xs)))) 1 (some (.val (tLm ys)))) 5 (some (.val (tI i)))) (fun (i : Nat) => fun _ => none) (nm []) (fun (i : Nat) => xs.length - i) (0) ⟨Nat.zero_le _, rfl⟩ (Sub.int rfl (by first | omega | rfl | (dsimp only; omega)) (Sub.cons rfl (Sub.cons rfl Sub.nil))) SubK.nil (SupG.val (SupG.val (SupG.val SupG.nil))) SupH.nil (lkOk rfl) ?_
  intro i hI
  obtain ⟨hi, ht⟩ := hI
  refine x6 (x6 ?_)
  refine x8 ?_
  refine R1 x4 rfl (R1 x4 rfl (R1 (xb9 Tryz.underlying45) rfl (R2 xd5 rfl rfl (x7 (by kernel_rfl) (x3 ?_)))))
  refine xc2 rfl (fun h12 => ?_) (fun h12 => ?_)
  ·
   refine xa4 (x3 (x6 (xa9 (x6 ?_))))
   refine xe1 mixed ?_
   refine R1 x4 rfl (R1 x4 rfl (R2 (xb8 sl45 (i) (by omega) (gN (by omega))) rfl rfl (R1 (xc1 ti166) rfl (R1 x4 rfl (R1 x4 rfl (R2 (xb8 sl45 (i) (by omega) (gN (by omega))) rfl rfl (R1 (xc1 ti166) rfl ?_)))))))
   refine R2 d_neq rfl rfl (xd9 (by kernel_rfl) (x3 ?_))
   refine xc2 rfl (fun h13 => ?_) (fun h13 => ?_)
   ·
    refine x6 ?_
    refine x8 ?_
    refine R1 x5 rfl (x7 (by kernel_rfl) (x3 (xa2 (xc8 (xa6 (xa6 (xc8 ?_)))))))
    refine xa6 ?_
    exact xa3 Plain.mk' rfl rfl (Le.bool (decide_eq_false (fun h => by rw [h] at h13; exact (h13 rfl))).symm)
   ·
    refine xa4 (xc6 (x3 ?_))
    refine x8 ?_
    refine R1 x4 rfl (R2 (xc4 (wr64 (by omega) (by omega))) rfl rfl (R1 x5 rfl (x7 (by kernel_rfl) ?_)))
    exact xc7 (i + 1) ⟨⟨by omega, by rw [take_succ_getN xs i (by omega), take_succ_getN ys i (by omega), ht, show xs.getD i 0 = ys.getD i 0 from (by omega)]⟩, (by omega)⟩ (Sub.int rfl (by first | omega | rfl | (dsimp only; omega)) (Sub.cons rfl (Sub.cons rfl Sub.nil))) SubK.nil (SupG.val (SupG.val (SupG.val SupG.nil))) SupH.nil (lkOk rfl)
  ·
   refine xd1 (xc0 (xc0 (xd8 (x3 (x6 ?_)))))
   refine x8 ?_
   refine R1 x5 rfl (x7 (by kernel_rfl) (x3 (xa2 ?_)))
   exact xa3 Plain.mk' rfl rfl (Le.bool (decide_eq_true (by rw [show i = xs.length by omega, List.take_length, hll, List.take_length] at ht; exact ht)).symm)
theorem c_SameSpans (xs ys : List Sn) :
  Ct Tryz.prog 50 [tL 2 true tSn xs, tL 2 true tSn ys] (tB (decide (xs = ys))) := by
 refine Ct.intro Tryz.func50 rfl Tryz.ntmps50 rfl ?_
 intro w F
 refine C_len (s := 0) rfl (fun hl0 => ?_)
 refine x6 ?_
 refine x8 ?_
 refine R1 x5 rfl (x7 (by kernel_rfl) (x3 (x6 (x6 ?_))))
 refine x8 ?_
 refine R1 x4 rfl (R1 (xb9 Tryz.underlying93) rfl (R1 x4 rfl (R1 (xb9 Tryz.underlying93) rfl (R2 d_neq rfl rfl (x7 (by kernel_rfl) (x3 ?_))))))
 refine xc2 rfl (fun h178 => ?_) (fun h178 => ?_)
 ·
  refine x6 ?_
  refine x8 ?_
  refine R1 x5 rfl (x7 (by kernel_rfl) (x3 (xa2 (xa6 ?_))))
  exact xa3 Plain.mk' rfl rfl (Le.bool (decide_eq_false (fun h => by rw [h] at h178; omega)).symm)
 ·
  have hll : xs.length = ys.length := by omega
  refine xa4 (x3 (x6 (x6 ?_)))
  refine x8 ?_
  refine R1 x5 rfl (x7 (by kernel_rfl) (x3 (xa9 ?_)))
  refine xd6 (fun (i : Nat) => i ≤ xs.length ∧ xs.take i = ys.take i) (fun (i : Nat) => upd (upd (upd (fun _ => none) 0 (some (.val (tL 2 true tSn xs)))) 1 (some (.val (tL 2 true tSn ys)))) 5 (some (.val (tI i)))) (fun (i : Nat) => fun _ => none) (nm []) (fun (i : Nat) => xs.length - i) (0) ⟨Nat.zero_le _, rfl⟩ (Sub.int rfl (by first | omega | rfl | (dsimp only; omega)) (Sub.cons rfl (Sub.cons rfl Sub.nil))) SubK.nil (SupG.val (SupG.val (SupG.val SupG.nil))) SupH.nil (lkOk rfl) ?_
  intro i hI
  obtain ⟨hi, ht⟩ := hI
  refine x6 (x6 ?_)
  refine x8 ?_
  refine R1 x4 rfl (R1 x4 rfl (R1 (xb9 Tryz.underlying93) rfl (R2 xd5 rfl rfl (x7 (by kernel_rfl) (x3 ?_)))))
  refine xc2 rfl (fun h181 => ?_) (fun h181 => ?_)
  ·
   refine xa4 (x3 (x6 (xa9 (x6 ?_))))
   refine xe1 mixed ?_
   refine R1 x4 rfl (R1 x4 rfl (R2 (xb8 sl93 i (by omega) (gD (d := sn0) (by omega))) rfl rfl (R1 (xc1 ti99) rfl (R1 x4 rfl (R1 x4 rfl (R2 (xb8 sl93 i (by omega) (gD (d := sn0) (by omega))) rfl rfl (R1 (xc1 ti99) rfl ?_)))))))
   refine R2 (d_neqSn eq_Sn) rfl rfl (xd9 (by kernel_rfl) (x3 ?_))
   refine xc2 rfl (fun h182 => ?_) (fun h182 => ?_)
   ·
    refine x6 ?_
    refine x8 ?_
    refine R1 x5 rfl (x7 (by kernel_rfl) (x3 (xa2 (xc8 (xa6 (xa6 (xc8 ?_)))))))
    refine xa6 ?_
    exact xa3 Plain.mk' rfl rfl (Le.bool (decide_eq_false (fun h => by rw [h] at h182; exact (h182 rfl))).symm)
   ·
    refine xa4 (xc6 (x3 ?_))
    refine x8 ?_
    refine R1 x4 rfl (R2 (xc4 (wr64 (by omega) (by omega))) rfl rfl (R1 x5 rfl (x7 (by kernel_rfl) ?_)))
    exact xc7 (i + 1) ⟨⟨by omega, by rw [take_succ_getS xs i (by omega), take_succ_getS ys i (by omega), ht, show xs.getD i sn0 = ys.getD i sn0 from (Decidable.of_not_not h182)]⟩, (by omega)⟩ (Sub.int rfl (by first | omega | rfl | (dsimp only; omega)) (Sub.cons rfl (Sub.cons rfl Sub.nil))) SubK.nil (SupG.val (SupG.val (SupG.val SupG.nil))) SupH.nil (lkOk rfl)
  ·
   refine xd1 (xc0 (xc0 (xd8 (x3 (x6 ?_)))))
   refine x8 ?_
   refine R1 x5 rfl (x7 (by kernel_rfl) (x3 (xa2 ?_)))
   exact xa3 Plain.mk' rfl rfl (Le.bool (decide_eq_true (by rw [show i = xs.length by omega, List.take_length, hll, List.take_length] at ht; exact ht)).symm)
theorem c_SameWhole (x y : Wh) :
  Ct Tryz.prog 100 [tWh x, tWh y] (tB (decide (x = y))) := by
 refine Ct.intro Tryz.func100 rfl Tryz.ntmps100 rfl ?_
 intro w F
 refine x6 ?_
 refine x8 ?_
 refine RE (xd2 (k := 2) ti47 rfl) ⟨rfl, trivial⟩ trivial ⟨rfl, trivial⟩ (RE (xd2 (k := 3) ti47 rfl) ⟨rfl, trivial⟩ trivial ⟨rfl, trivial⟩ (R1 x5 rfl (x7 (by kernel_rfl) (x3 (x6 ?_)))))
 refine x8 ?_
 refine R1 (x9 fo47_0 rfl) rfl (xa5 (0) ti4 rfl rfl rfl (At.g 0 rfl rfl) rfl (R1 (x9 fo47_0 rfl) rfl (xa5 (0) ti4 rfl rfl rfl (At.g 0 rfl rfl) rfl (R2 (d_eqlB Tryz.underlying4) rfl rfl (R1 x4 rfl ?_)))))
 refine RGcase (t := 10) rfl (fun h81 => ?_) (fun h81 => ?_)
 ·
  refine RGon h81 rfl (x9 fo47_1 rfl) rfl ⟨rfl, trivial⟩ trivial trivial (xb2 h81 rfl rfl (0) ti45 rfl rfl rfl (At.g 1 rfl rfl) rfl (RGon h81 rfl (x9 fo47_1 rfl) rfl ⟨rfl, trivial⟩ trivial trivial (xb2 h81 rfl rfl (0) ti45 rfl rfl rfl (At.g 1 rfl rfl) rfl (RGon h81 rfl (xa0 (c_SameLimbs _ _) fi149 rfl) rfl ⟨rfl, rfl, trivial⟩ trivial trivial (R2 (xa8 h81) rfl rfl (R1 x5 rfl (x7 (by kernel_rfl) ?_)))))))
  refine x3 (xa2 ?_)
  exact xa3 Plain.mk' rfl rfl (Le.bool (by obtain ⟨a, b⟩ := x; obtain ⟨c, d⟩ := y; simp_all))
 ·
  refine RGoff h81 rfl rfl (RGoff h81 rfl rfl (RGoff h81 rfl rfl (RGoff h81 rfl rfl (RGoff h81 rfl rfl (R2 (xa7 h81) rfl rfl (R1 x5 rfl (x7 (by kernel_rfl) ?_)))))))
  refine x3 (xa2 ?_)
  exact xa3 Plain.mk' rfl rfl (Le.bool (by obtain ⟨a, b⟩ := x; obtain ⟨c, d⟩ := y; simp_all))
theorem c_SameFrac (x y : Fr) :
  Ct Tryz.prog 46 [tFr x, tFr y] (tB (decide (x = y))) := by
 refine Ct.intro Tryz.func46 rfl Tryz.ntmps46 rfl ?_
 intro w F
 refine x6 ?_
 refine x8 ?_
 refine RE (xd2 (k := 2) ti49 rfl) ⟨rfl, trivial⟩ trivial ⟨rfl, trivial⟩ (RE (xd2 (k := 3) ti49 rfl) ⟨rfl, trivial⟩ trivial ⟨rfl, trivial⟩ (R1 x5 rfl (x7 (by kernel_rfl) (x3 (x6 ?_)))))
 refine x8 ?_
 refine R1 (x9 fo49_0 rfl) rfl (xa5 (0) ti47 rfl rfl rfl (At.g 0 rfl rfl) rfl (R1 (x9 fo49_0 rfl) rfl (xa5 (0) ti47 rfl rfl rfl (At.g 0 rfl rfl) rfl (R2 (xa0 (c_SameWhole _ _) fi100 rfl) rfl rfl (R1 x4 rfl ?_)))))
 refine RGcaseD (t := 10) rfl (fun h113 => ?_) (fun h113 => ?_)
 ·
  refine RGon (decide_eq_true h113) rfl (x9 fo49_1 rfl) rfl ⟨rfl, trivial⟩ trivial trivial (xb2 (decide_eq_true h113) rfl rfl (0) ti47 rfl rfl rfl (At.g 1 rfl rfl) rfl (RGon (decide_eq_true h113) rfl (x9 fo49_1 rfl) rfl ⟨rfl, trivial⟩ trivial trivial (xb2 (decide_eq_true h113) rfl rfl (0) ti47 rfl rfl rfl (At.g 1 rfl rfl) rfl (RGon (decide_eq_true h113) rfl (xa0 (c_SameWhole _ _) fi100 rfl) rfl ⟨rfl, rfl, trivial⟩ trivial trivial (R2 (xa8 (decide_eq_true h113)) rfl rfl (R1 x5 rfl (x7 (by kernel_rfl) ?_)))))))
  refine x3 (xa2 ?_)
  exact xa3 Plain.mk' rfl rfl (Le.bool (by obtain ⟨a, b⟩ := x; obtain ⟨c, d⟩ := y; simp_all))
 ·
  refine RGoff (decide_eq_false h113) rfl rfl (RGoff (decide_eq_false h113) rfl rfl (RGoff (decide_eq_false h113) rfl rfl (RGoff (decide_eq_false h113) rfl rfl (RGoff (decide_eq_false h113) rfl rfl (R2 (xa7 (decide_eq_false h113)) rfl rfl (R1 x5 rfl (x7 (by kernel_rfl) ?_)))))))
  refine x3 (xa2 ?_)
  exact xa3 Plain.mk' rfl rfl (Le.bool (by obtain ⟨a, b⟩ := x; obtain ⟨c, d⟩ := y; simp_all))
theorem c_SameValue (x y : Va) :
  Ct Tryz.prog 60 [tVa x, tVa y] (tB (decide (x = y))) := by
 refine Ct.intro Tryz.func60 rfl Tryz.ntmps60 rfl ?_
 intro w F
 refine x6 ?_
 refine x8 ?_
 refine RE (xd2 (k := 2) ti53 rfl) ⟨rfl, trivial⟩ trivial ⟨rfl, trivial⟩ (RE (xd2 (k := 3) ti53 rfl) ⟨rfl, trivial⟩ trivial ⟨rfl, trivial⟩ (R1 x5 rfl (x7 (by kernel_rfl) (x3 (x6 ?_)))))
 refine x8 ?_
 refine R1 (x9 fo53_0 rfl) rfl (xa5 (0) ti5 rfl rfl rfl (At.g 0 rfl rfl) rfl (R1 (x9 fo53_0 rfl) rfl (xa5 (0) ti5 rfl rfl rfl (At.g 0 rfl rfl) rfl (R2 xe5 rfl rfl (R1 x4 rfl ?_)))))
 refine RGcaseD (t := 10) rfl (fun h146 => ?_) (fun h146 => ?_)
 ·
  refine RGon (decide_eq_true h146) rfl (x9 fo53_1 rfl) rfl ⟨rfl, trivial⟩ trivial trivial (xb2 (decide_eq_true h146) rfl rfl (0) ti49 rfl rfl rfl (At.g 1 rfl rfl) rfl (RGon (decide_eq_true h146) rfl (x9 fo53_1 rfl) rfl ⟨rfl, trivial⟩ trivial trivial (xb2 (decide_eq_true h146) rfl rfl (0) ti49 rfl rfl rfl (At.g 1 rfl rfl) rfl (RGon (decide_eq_true h146) rfl (xa0 (c_SameFrac _ _) fi46 rfl) rfl ⟨rfl, rfl, trivial⟩ trivial trivial (R2 (xa8 (decide_eq_true h146)) rfl rfl (R1 x4 rfl ?_))))))
  refine RGcaseD (t := 17) rfl (fun h146_2 => ?_) (fun h146_2 => ?_)
  ·
   refine RGon (decide_eq_true h146_2) rfl (x9 fo53_2 rfl) rfl ⟨rfl, trivial⟩ trivial trivial (xb2 (decide_eq_true h146_2) rfl rfl (0) ti3 rfl rfl rfl (At.g 2 rfl rfl) rfl (RGon (decide_eq_true h146_2) rfl (x9 fo53_2 rfl) rfl ⟨rfl, trivial⟩ trivial trivial (xb2 (decide_eq_true h146_2) rfl rfl (0) ti3 rfl rfl rfl (At.g 2 rfl rfl) rfl (RGon (decide_eq_true h146_2) rfl xe5 rfl ⟨rfl, rfl, trivial⟩ trivial trivial (R2 (xa8 (decide_eq_true h146_2)) rfl rfl (R1 x5 rfl (x7 (by kernel_rfl) ?_)))))))
   refine x3 (xa2 ?_)
   exact xa3 Plain.mk' rfl rfl (Le.bool (by obtain ⟨a, b, e⟩ := x; obtain ⟨c, d, f⟩ := y; simp only [Va.mk.injEq] at *; simp_all <;> omega))
  ·
   refine RGoff (decide_eq_false h146_2) rfl rfl (RGoff (decide_eq_false h146_2) rfl rfl (RGoff (decide_eq_false h146_2) rfl rfl (RGoff (decide_eq_false h146_2) rfl rfl (RGoff (decide_eq_false h146_2) rfl rfl (R2 (xa7 (decide_eq_false h146_2)) rfl rfl (R1 x5 rfl (x7 (by kernel_rfl) ?_)))))))
   refine x3 (xa2 ?_)
   exact xa3 Plain.mk' rfl rfl (Le.bool (by obtain ⟨a, b, e⟩ := x; obtain ⟨c, d, f⟩ := y; simp only [Va.mk.injEq] at *; simp_all <;> omega))
 ·
  refine RGoff (decide_eq_false h146) rfl rfl (RGoff (decide_eq_false h146) rfl rfl (RGoff (decide_eq_false h146) rfl rfl (RGoff (decide_eq_false h146) rfl rfl (RGoff (decide_eq_false h146) rfl rfl (R2 (xa7 (decide_eq_false h146)) rfl rfl (R1 x4 rfl (RGoff0 rfl rfl ?_)))))))
  refine RGoff0 rfl rfl (RGoff0 rfl rfl (RGoff0 rfl rfl (RGoff0 rfl rfl (R2 (xa7 rfl) rfl rfl (R1 x5 rfl (x7 (by kernel_rfl) (x3 ?_)))))))
  refine xa2 ?_
  exact xa3 Plain.mk' rfl rfl (Le.bool (by obtain ⟨a, b, e⟩ := x; obtain ⟨c, d, f⟩ := y; simp only [Va.mk.injEq] at *; simp_all <;> omega))
theorem c_Limbs (x : Fr) (h1 : x.n.l.length ≤ 4611686018427387903) (h2 : x.d.l.length ≤ 4611686018427387903) :
  Ct Tryz.prog 17 [tFr x] (tI ((x.n.l.length : Int) + (x.d.l.length : Int))) := by
 refine Ct.intro Tryz.func17 rfl Tryz.ntmps17 rfl ?_
 intro w F
 refine x6 ?_
 refine x8 ?_
 refine RE (xd2 (k := 1) ti49 rfl) ⟨rfl, trivial⟩ trivial ⟨rfl, trivial⟩ (R1 x5 rfl (x7 (by kernel_rfl) (x3 (x6 ?_))))
 refine x8 ?_
 refine R1 (x9 fo49_0 rfl) rfl (R1 (x9 fo47_1 rfl) rfl (xa5 (0) ti45 rfl rfl rfl (At.t (At.g 0 rfl rfl) (At.g 1 rfl rfl)) rfl (R1 (xb9 Tryz.underlying45) rfl (R1 (x9 fo49_1 rfl) rfl (R1 (x9 fo47_1 rfl) rfl (xa5 (0) ti45 rfl rfl rfl (At.t (At.g 1 rfl rfl) (At.g 1 rfl rfl)) rfl (R1 (xb9 Tryz.underlying45) rfl ?_)))))))
 refine R2 (xc4 (wr64 (by omega) (by omega))) rfl rfl (R1 x5 rfl (x7 (by kernel_rfl) (x3 (xa2 ?_))))
 exact xa3 Plain.mk' rfl rfl Le.refl
end An.S

/- The reference's arithmetic on limbs: plain numbers. -/
namespace An
open Go
abbrev tM (v : Nat) : Ty := tLm (dig 65536 v)
theorem trim_step' {a : List Nat} {k : Nat} (hk : k ≤ a.length) (h0 : 0 < k) (hz : a.getD (k - 1) 0 = 0) : trimL (a.take (k - 1)) = trimL (a.take k) := by
  have h1 := xg3 a (k - 1) (by omega)
  rw [show k - 1 + 1 = k from by omega] at h1
  rw [h1, hz, trimL_snoc_zero]
theorem trim_stop' {a : List Nat} {k : Nat} (hk : k ≤ a.length) (h0 : 0 < k) (hz : ¬ a.getD (k - 1) 0 = 0) : trimL (a.take k) = a.take k := by
  refine trimL_Top fun x hx => ?_
  have h1 := xg3 a (k - 1) (by omega)
  rw [show k - 1 + 1 = k from by omega] at h1
  rw [h1, List.getLast?_append] at hx
  simp at hx
  rw [← hx]
  simpa [List.getD_eq_getElem?_getD] using hz
/-- Dividing by a limb. -/
theorem short_in {a d r k q n : Nat} {qs : List Nat} (hk : k < n) (hl : qs.length = n) (hD : Dig 65536 qs) (hd : 0 < d) (hr : r = a / 65536 ^ (k + 1) % d) (hv : val 65536 (qs.drop (k + 1)) = a / 65536 ^ (k + 1) / d) (hq : (r * 65536 + a / 65536 ^ k % 65536) / d = q) :
    (qs.set k q).length = n ∧ Dig 65536 (qs.set k q) ∧ (r * 65536 + a / 65536 ^ k % 65536) % d = a / 65536 ^ k % d ∧ val 65536 ((qs.set k q).drop k) = a / 65536 ^ k / d ∧ q < 65536 := by
  have e0 : a / 65536 ^ k = 65536 * (a / 65536 ^ (k + 1)) + a / 65536 ^ k % 65536 := div_succ 65536 a k (by decide)
  have hrd : r < d := by rw [hr]; exact Nat.mod_lt _ hd
  have e1 : a / 65536 ^ k = (r * 65536 + a / 65536 ^ k % 65536) + d * (65536 * (a / 65536 ^ (k + 1) / d)) := by
    have h1 := Nat.div_add_mod (a / 65536 ^ (k + 1)) d
    rw [← hr] at h1
    have h2 : 65536 * (a / 65536 ^ (k + 1)) = d * (65536 * (a / 65536 ^ (k + 1) / d)) + 65536 * r := by
      conv => lhs; rw [← h1]
      rw [Nat.mul_add, Nat.mul_left_comm]
    omega
  have hqW : q < 65536 := by
    rw [← hq]; refine Nat.div_lt_of_lt_mul ?_
    have h4 : a / 65536 ^ k % 65536 < 65536 := Nat.mod_lt _ (by decide)
    have h5 : (r + 1) * 65536 ≤ d * 65536 := Nat.mul_le_mul_right _ hrd
    omega
  refine ⟨by simpa using hl, hD.set hqW, ?_, ?_, hqW⟩
  · conv => rhs; rw [e1, Nat.add_mul_mod_self_left]
  · rw [val_drop_succ _ _ _ (by simpa using (by omega : k < qs.length)), getD_set_self (by omega), xg7, hv]
    conv => rhs; rw [e1, Nat.add_mul_div_left _ _ hd, hq]
theorem one_limb {b : Nat} (h : (dig 65536 b).length = 1) : (dig 65536 b).getD 0 0 = b := by
  rw [xe6 xb6, Nat.pow_zero, Nat.div_one]
  have := (xd3 xb6 b 1).1 (Nat.le_of_eq h)
  rw [Nat.pow_one] at this
  exact Nat.mod_eq_of_lt this
theorem trim1L {x : Nat} (hx : x < 65536) : trimL [x] = dig 65536 x := by
  rw [xf9 xb6 (Dig.cons hx (Dig.nil _)), val_cons, val_nil]; simp
theorem dig_lt_of {B a b k : Nat} (hB : 2 ≤ B) (h : a / B ^ (k + 1) = b / B ^ (k + 1)) (hd : (dig B a).getD k 0 < (dig B b).getD k 0) : a < b := cmp_lt (by omega) h (by rw [← xe6 hB, ← xe6 hB]; exact hd)
end An

/- The reference's arithmetic on limbs: sums, differences, halves. Plain numbers. -/
namespace An
open Go
theorem pow_le_of_lt_len {a i : Nat} (h : i < (dig 65536 a).length) : 65536 ^ i ≤ a := by
  rcases Nat.lt_or_ge a (65536 ^ i) with h' | h'
  · have := (xd3 xb6 a i).2 h'; omega
  · exact h'
theorem rplus_in {a b i n s : Nat} (hn : n = (a % 65536 ^ i + b % 65536 ^ i) / 65536 ^ i) (hs : s = n + a / 65536 ^ i % 65536 + b / 65536 ^ i % 65536) :
    dgs 65536 i (a + b) ++ [s % 65536] = dgs 65536 (i + 1) (a + b) ∧ s / 65536 = (a % 65536 ^ (i + 1) + b % 65536 ^ (i + 1)) / 65536 ^ (i + 1) := by
  have hp : 0 < 65536 ^ i := Nat.pow_pos (by decide)
  have ea := Nat.div_add_mod a (65536 ^ i)
  have eb := Nat.div_add_mod b (65536 ^ i)
  have e1 : (a + b) / 65536 ^ i = n + a / 65536 ^ i + b / 65536 ^ i := by
    have : a + b = (a % 65536 ^ i + b % 65536 ^ i) + 65536 ^ i * (a / 65536 ^ i + b / 65536 ^ i) := by rw [Nat.mul_add]; omega
    rw [this, Nat.add_mul_div_left _ _ hp, ← hn]; omega
  refine ⟨?_, ?_⟩
  · rw [dgs_succ, e1, hs]
    congr 2
    omega
  · rw [Nat.pow_succ, ← Nat.div_div_eq_div_mul, ← Nat.pow_succ, xi0, xi0]
    have e2 : a % 65536 ^ i + 65536 ^ i * (a / 65536 ^ i % 65536) + (b % 65536 ^ i + 65536 ^ i * (b / 65536 ^ i % 65536)) = (a % 65536 ^ i + b % 65536 ^ i) + 65536 ^ i * (a / 65536 ^ i % 65536 + b / 65536 ^ i % 65536) := by rw [Nat.mul_add]; omega
    rw [e2, Nat.add_mul_div_left _ _ hp, ← hn, hs]
    congr 1; omega
theorem rplus_more {a b i n : Nat} (hn : n = (a % 65536 ^ i + b % 65536 ^ i) / 65536 ^ i) (h : i < (dig 65536 a).length ∨ i < (dig 65536 b).length ∨ 0 < n) : i + 1 ≤ (dig 65536 (a + b)).length := by
  have hp : 0 < 65536 ^ i := Nat.pow_pos (by decide)
  have h1 : 65536 ^ i ≤ a + b := by
    rcases h with h | h | h
    · have := pow_le_of_lt_len h; omega
    · have := pow_le_of_lt_len h; omega
    · have h2 : 65536 ^ i ≤ a % 65536 ^ i + b % 65536 ^ i := by
        rcases Nat.lt_or_ge (a % 65536 ^ i + b % 65536 ^ i) (65536 ^ i) with h' | h'
        · rw [Nat.div_eq_of_lt h'] at hn; omega
        · exact h'
      have := Nat.mod_le a (65536 ^ i); have := Nat.mod_le b (65536 ^ i)
      omega
  rcases Nat.lt_or_ge i (dig 65536 (a + b)).length with h' | h'
  · exact h'
  · have := (xd3 xb6 (a + b) i).1 h'; omega
theorem rplus_end {a b i n : Nat} (hn : n = (a % 65536 ^ i + b % 65536 ^ i) / 65536 ^ i) (h0 : n = 0) (ha : (dig 65536 a).length ≤ i) (hb : (dig 65536 b).length ≤ i) (hi : i ≤ (dig 65536 (a + b)).length) : dgs 65536 i (a + b) = dig 65536 (a + b) := by
  have hp : 0 < 65536 ^ i := Nat.pow_pos (by decide)
  rw [mod_all xb6 ha, mod_all xb6 hb, h0] at hn
  have h1 : a + b < 65536 ^ i := (Nat.div_eq_zero_iff_lt hp).1 hn.symm
  have h2 := (xd3 xb6 (a + b) i).2 h1
  rw [show i = (dig 65536 (a + b)).length by omega, dig_eq_dgs xb6]
theorem rplus_small {a b i n : Nat} (hn : n = (a % 65536 ^ i + b % 65536 ^ i) / 65536 ^ i) : n ≤ 1 := by
  have hp : 0 < 65536 ^ i := Nat.pow_pos (by decide)
  have h1 := Nat.mod_lt a hp; have h2 := Nat.mod_lt b hp
  rw [hn]
  exact Nat.le_of_lt_succ (Nat.div_lt_of_lt_mul (by omega))
theorem rminus_in {a b i br n : Nat} {cs : List Nat} (hl : cs.length = i) (hv : val 65536 cs + b % 65536 ^ i = a % 65536 ^ i + br * 65536 ^ i) (hbr : br ≤ 1) (hn : n + br + b / 65536 ^ i % 65536 = 65536 + a / 65536 ^ i % 65536) :
    val 65536 (cs ++ [n % 65536]) + b % 65536 ^ (i + 1) = a % 65536 ^ (i + 1) + (1 - n / 65536) * 65536 ^ (i + 1) ∧ n / 65536 ≤ 1 ∧ 1 - n / 65536 ≤ 1 := by
  have h1 : a / 65536 ^ i % 65536 < 65536 := Nat.mod_lt _ (by decide)
  have h2 : b / 65536 ^ i % 65536 < 65536 := Nat.mod_lt _ (by decide)
  refine ⟨?_, by omega, by omega⟩
  rw [val_snoc, hl]
  exact sub_step hv rfl rfl (by omega)
theorem rminus_end {n a b br : Nat} {ws : List Nat} (hl : ws.length = n) (hD : Dig 65536 ws) (ha : a < 65536 ^ n) (hba : b ≤ a) (h : val 65536 ws + b % 65536 ^ n = a % 65536 ^ n + br * 65536 ^ n) : trimL ws = dig 65536 (a - b) := by
  rw [Nat.mod_eq_of_lt ha, Nat.mod_eq_of_lt (by omega)] at h
  have h1 := val_lt hD
  rw [hl] at h1
  rw [xf9 xb6 hD]
  congr 1
  rcases Nat.eq_zero_or_pos br with h0 | h0
  · subst h0; omega
  · have : 65536 ^ n ≤ br * 65536 ^ n := Nat.le_mul_of_pos_left _ h0
    omega
theorem len_dbl {a b k : Nat} (ha : (dig 65536 a).length ≤ k) (hb : (dig 65536 b).length ≤ k) : (dig 65536 (a + b)).length ≤ k + 1 := by
  rw [xd3 xb6] at *
  rw [Nat.pow_succ]; generalize 65536 ^ k = P at *; omega
end An

/- The reference's division: bit by bit. Plain numbers. -/
namespace An
open Go
theorem half_in {a k n q m : Nat} {qs : List Nat} (hk : k < m) (hl : qs.length = m) (hD : Dig 65536 qs) (hn : n % 2 = a / 65536 ^ (k + 1) % 2) (hv : val 65536 (qs.drop (k + 1)) = a / 65536 ^ (k + 1) / 2) (hq : (n % 2 * 65536 + a / 65536 ^ k % 65536) / 2 = q) :
    (qs.set k q).length = m ∧ Dig 65536 (qs.set k q) ∧ (n % 2 * 65536 + a / 65536 ^ k % 65536) % 2 = a / 65536 ^ k % 2 ∧ val 65536 ((qs.set k q).drop k) = a / 65536 ^ k / 2 ∧ q < 65536 := short_in hk hl hD (by decide) hn hv hq
theorem from_more {v i u : Nat} (hu : u = v / 65536 ^ i) (h0 : 0 < u) : i + 1 ≤ (dig 65536 v).length ∧ u / 65536 = v / 65536 ^ (i + 1) ∧ dgs 65536 i v ++ [u % 65536] = dgs 65536 (i + 1) v := by
  refine ⟨?_, by rw [hu, Nat.div_div_eq_div_mul, ← Nat.pow_succ], by rw [dgs_succ, hu]⟩
  rcases Nat.lt_or_ge i (dig 65536 v).length with h' | h'
  · exact h'
  · have := (xd3 xb6 v i).1 h'
    rw [Nat.div_eq_of_lt this] at hu; omega
theorem from_end {v i : Nat} (h : v / 65536 ^ i = 0) (hi : i ≤ (dig 65536 v).length) : dgs 65536 i v = dig 65536 v := by
  have h1 : v < 65536 ^ i := (Nat.div_eq_zero_iff_lt (Nat.pow_pos (by decide))).1 h
  have h2 := (xd3 xb6 v i).2 h1
  rw [show i = (dig 65536 v).length by omega, dig_eq_dgs xb6]
theorem bits_le {a n k : Nat} (h : 2 ^ n ≤ a) (hk : (dig 65536 a).length ≤ k) : n < 16 * k := by
  have h1 := (xd3 xb6 a k).1 hk
  have e : 65536 ^ k = 2 ^ (16 * k) := by rw [Nat.pow_mul]
  rw [e] at h1
  exact (Nat.pow_lt_pow_iff_right (by decide)).1 (Nat.lt_of_le_of_lt h h1)
theorem div_bit {a b n i q r d : Nat} (hi : i < n) (hd : d = b * 2 ^ (n - i)) (ha : a = q * d + r) (hr : r < d) :
    d / 2 = b * 2 ^ (n - (i + 1)) ∧ (r < d / 2 → a = (q + q) * (d / 2) + r) ∧ (¬ r < d / 2 → a = (q + q + 1) * (d / 2) + (r - d / 2) ∧ r - d / 2 < d / 2 ∧ d / 2 ≤ r) := by
  have e : d = 2 * (b * 2 ^ (n - (i + 1))) := by rw [hd, show n - i = n - (i + 1) + 1 by omega, Nat.pow_succ]; grind
  have h1 : d / 2 = b * 2 ^ (n - (i + 1)) := by omega
  refine ⟨h1, fun h => ?_, fun h => ⟨?_, by omega, by omega⟩⟩
  · rw [h1, ha, e]; grind
  · rw [h1] at h ⊢
    generalize b * 2 ^ (n - (i + 1)) = c at *
    rw [ha, e]
    have : (q + q + 1) * c = q * (2 * c) + c := by grind
    rw [this]; omega
theorem div_done {a b q r : Nat} (ha : a = q * b + r) (hr : r < b) : q = a / b ∧ r = a % b := by
  have hb : 0 < b := by omega
  constructor
  · rw [ha, Nat.mul_comm, Nat.mul_add_div hb, Nat.div_eq_of_lt hr, Nat.add_zero]
  · rw [ha, Nat.mul_comm, Nat.mul_add_mod, Nat.mod_eq_of_lt hr]
end An

/- The kit of the laws: whole numbers and fractions made from ints. -/
namespace An.S
open Go Go.Proofs An
set_option maxHeartbeats 2000000
theorem shr16 {u : Nat} (_h : u < 18446744073709551616) : ((u : Int)).fdiv (2 ^ (min (16 : Int).toNat (IntKind.bits .u64))) = ((u / 65536 : Nat) : Int) := by
  show ((u : Int)).fdiv 65536 = _
  rw [Int.fdiv_eq_ediv_of_nonneg _ (by decide)]; omega
theorem wh_of {n : Int} : (⟨decide (n < 0), dig 65536 n.natAbs⟩ : Wh) = wh n := rfl
theorem c_KWhole (n : Int) (h1 : -9223372036854775808 ≤ n) (h2 : n ≤ 9223372036854775807) :
  Ct Tryz.prog 99 [tI n] (tWh (wh n)) := by
 refine Ct.intro Tryz.func99 rfl Tryz.ntmps99 rfl ?_
 intro w F
 refine x6 ?_
 refine x8 ?_
 refine RE (xc9 (k := 2) (n := 2) (agg := true) zr47.1 zr47.2 rfl) trivial trivial ⟨rfl, trivial⟩ (x7 (by kernel_rfl) (x3 (x6 ?_)))
 refine x8 ?_
 refine R1 x4 rfl (R2 xd5 rfl rfl (R1 (Does.rowV (ts := [tB (decide (n < 0)), tE (.slice none 0 0)]) (es := [.val (tB (decide (n < 0))), .val (tE (.slice none 0 0))]) rfl (xe0 (r := tS [⟨1, false, tB (decide (n < 0))⟩, ⟨1, false, tE (.slice none 0 0)⟩]) (ts := [(0, tB (decide (n < 0)))]) bu47 (z := .agg #[.bool false, .slice none 0 0]) (t := tS [⟨1, false, tE (.bool false)⟩, ⟨1, false, tE (.slice none 0 0)⟩]) (fun _ _ => ⟨_, rfl, rfl, ⟨fun _ => rfl, rfl⟩, ⟨fun _ => rfl, rfl⟩, trivial⟩) ⟨_, rfl⟩ rfl ⟨_, _, _, _, rfl, Up.f (fs := [⟨1, false, tE (.bool false)⟩, ⟨1, false, tE (.slice none 0 0)⟩]) (f := ⟨1, false, tE (.bool false)⟩) (fs' := [⟨1, false, tB (decide (n < 0))⟩, ⟨1, false, tE (.slice none 0 0)⟩]) 0 rfl rfl rfl, inferInstance, Le.refl⟩)) rfl (RE (d_allocC (k := 3) (n := 2) [.bool false, .slice none 0 0] zr47.1 rfl rfl rfl rfl) trivial trivial ⟨rfl, trivial⟩ (RE (d_storeM ti47 rfl rfl rfl) ⟨rfl, rfl, trivial⟩ ⟨rfl, trivial⟩ trivial (x7 (by kernel_rfl) (x3 (x6 ?_)))))))
 refine C_nilC (q := 3) 103 166 1 false 1 rfl rfl rfl rfl (fun _ => rfl) rfl rfl ?_
 refine x8 ?_
 refine R1 x4 rfl (R1 (xb4 Tryz.underlying142 (isS Tryz.underlying3) toU64) rfl (R1 x5 rfl (x7 (by kernel_rfl) (x3 ?_))))
 refine xh2 (fun (v : Nat) => v = n.natAbs) (fun (v : Nat) => upd (upd (upd (fun _ => none) 2 (some (.own (.ptr 2 0)))) 3 (some (.own (.ptr 3 0)))) 4 (some (.val (tE (.int .u64 ((v : Nat) : Int)))))) (fun (v : Nat) => upd (upd (upd (fun _ => none) 2 (some (⟨47, 2, true, [.val (tWh ⟨false, []⟩)]⟩))) 3 (some (⟨47, 1, false, [.val (tB (decide (n < 0))), .own (.sl 103 1 0 0)]⟩))) 103 (some (⟨166, 1, false, rW .u16 []⟩))) (nm [2, 3, 103]) ?_ ?_
 ·
  refine x6 ?_
  refine x8 ?_
  refine R1 x4 rfl (R2 xd5 rfl rfl (x7 (by kernel_rfl) (x3 ?_)))
  refine xc2 rfl (fun h11 => ?_) (fun h11 => ?_)
  ·
   refine x8 ?_
   refine R1 x4 rfl (R1 (d_neg (negU64 (by omega))) rfl (R1 x5 rfl (x7 (by kernel_rfl) ?_)))
   exact xc7 ((18446744073709551616 - (n % 18446744073709551616).toNat) % 18446744073709551616) (by omega) (Sub.int rfl (by first | omega | rfl | (dsimp only; omega)) (Sub.cons rfl (Sub.cons rfl Sub.nil))) ((SubK.consI rfl ImpK.refl) ((SubK.consI rfl ImpK.refl) ((SubK.consI rfl ImpK.refl) SubK.nil))) (SupG.val (SupG.own rfl (SupG.own rfl SupG.nil))) (SupH.cons rfl (supJ xc5) (SupH.cons rfl (supJL rfl) (SupH.cons rfl (supJL rfl) SupH.nil))) (lkOk rfl)
  ·
   refine xa4 ?_
   exact xc7 ((n % 18446744073709551616).toNat) (by omega) (Sub.int rfl (by first | omega | rfl | (dsimp only; omega)) (Sub.cons rfl (Sub.cons rfl Sub.nil))) ((SubK.consI rfl ImpK.refl) ((SubK.consI rfl ImpK.refl) ((SubK.consI rfl ImpK.refl) SubK.nil))) (SupG.val (SupG.own rfl (SupG.own rfl SupG.nil))) (SupH.cons rfl (supJ xc5) (SupH.cons rfl (supJL rfl) (SupH.cons rfl (supJL rfl) SupH.nil))) (lkOk rfl)
 ·
  intro v hv
  have hvl := wh_len v (by omega)
  refine x6 (xa9 ?_)
  refine xd6 (fun (fm : (Nat) × (Nat) × (List Nat)) => (fun (i : Nat) (u : Nat) (cs : List Nat) => i ≤ (dig 65536 v).length ∧ u = v / 65536 ^ i ∧ cs = dgs 65536 i v ∧ u < 18446744073709551616) fm.1 fm.2.1 fm.2.2) (fun (fm : (Nat) × (Nat) × (List Nat)) => (fun (i : Nat) (u : Nat) (cs : List Nat) => upd (upd (upd (fun _ => none) 2 (some (.own (.ptr 2 0)))) 3 (some (.own (.ptr 3 0)))) 4 (some (.val (tE (.int .u64 ((u : Nat) : Int)))))) fm.1 fm.2.1 fm.2.2) (fun (fm : (Nat) × (Nat) × (List Nat)) => (fun (i : Nat) (u : Nat) (cs : List Nat) => upd (upd (upd (fun _ => none) 2 (some (⟨47, 2, true, [.val (tWh ⟨false, []⟩)]⟩))) 3 (some (⟨47, 1, false, [.val (tB (decide (n < 0))), .own (.sl 103 1 0 cs.length)]⟩))) 103 (some (⟨166, 1, false, rW .u16 cs⟩))) fm.1 fm.2.1 fm.2.2) (nm [2, 3, 103]) (fun (fm : (Nat) × (Nat) × (List Nat)) => (fun (i : Nat) (u : Nat) (cs : List Nat) => u) fm.1 fm.2.1 fm.2.2) ((0, v, [])) (by dsimp only; exact ⟨Nat.zero_le _, by simp, rfl, by omega⟩) (Sub.int rfl (by first | omega | rfl | (dsimp only; omega)) (Sub.cons rfl (Sub.cons rfl Sub.nil))) ((SubK.consI rfl ImpK.refl) ((SubK.consI rfl ImpK.refl) ((SubK.consI rfl ImpK.refl) SubK.nil))) (SupG.val (SupG.own rfl (SupG.own rfl SupG.nil))) (SupH.cons rfl (supJ xc5) (SupH.cons rfl (supJL rfl) (SupH.cons rfl (supJL rfl) SupH.nil))) (lkOk rfl) ?_
  intro fm hI
  obtain ⟨i, u, cs⟩ := fm
  replace hI : i ≤ (dig 65536 v).length ∧ u = v / 65536 ^ i ∧ cs = dgs 65536 i v ∧ u < 18446744073709551616 := hI
  show wc _ _ _ _ (upd (upd (upd (fun _ => none) 2 (some (.own (.ptr 2 0)))) 3 (some (.own (.ptr 3 0)))) 4 (some (.val (tE (.int .u64 ((u : Nat) : Int)))))) (upd (upd (upd (fun _ => none) 2 (some (⟨47, 2, true, [.val (tWh ⟨false, []⟩)]⟩))) 3 (some (⟨47, 1, false, [.val (tB (decide (n < 0))), .own (.sl 103 1 0 cs.length)]⟩))) 103 (some (⟨166, 1, false, rW .u16 cs⟩))) _
  obtain ⟨hi, hu, hcs, hu64⟩ := hI
  have hcl : cs.length = i := by rw [hcs, xg8]
  refine x6 (x6 ?_)
  refine x8 ?_
  refine R1 x4 rfl (R2 d_gtr rfl rfl (x7 (by kernel_rfl) (x3 ?_)))
  refine xc2 rfl (fun h14 => ?_) (fun h14 => ?_)
  ·
   refine xa4 (x3 (x6 (xa9 ?_)))
   refine x8 ?_
   refine R1 (x9 fo47_1 rfl) rfl (RE (xb3 (1) ti45 rfl rfl) ⟨rfl, trivial⟩ ⟨rfl, trivial⟩ trivial (R1 x4 rfl (R1 (xb4 (r := ((u % 65536 : Nat) : Int)) Tryz.underlying166 (isS Tryz.underlying142) (by rw [mu16]; omega)) rfl (R1 (d_nums (n := 1) [u % 65536] Tryz.underlying45 el166 zf166 rfl rfl rfl) rfl (RE (xf1 (k := 103) (k' := 23) (ts' := rW .u16 (cs ++ [u % 65536])) Tryz.underlying45 el166 zf166 rfl rfl (fun _ => inferInstance) rW_len (by simp; omega) (by simp; omega) (by simp [rW]) (n' := cs.length + 1) rfl) ⟨rfl, rfl, trivial⟩ ⟨rfl, trivial⟩ ⟨rfl, trivial⟩ (R1 (x9 fo47_1 rfl) rfl (RE (xb0 (es := 1) (agg := false) (1) ti45 rfl rfl rfl) ⟨rfl, rfl, trivial⟩ ⟨rfl, trivial⟩ trivial ?_)))))))
   refine x7 (by kernel_rfl) (xc6 (x3 ?_))
   refine x8 ?_
   refine R1 x4 rfl (R2 (d_shr (by decide) (shr16 hu64)) rfl rfl (R1 x5 rfl (x7 (by kernel_rfl) ?_)))
   obtain ⟨n1, n2, n3⟩ := from_more hu (by omega)
   exact K_famR (l := [2, 3, 103]) (fun j => cond (Nat.beq j 103) 23 (j)) ((i + 1, u / 65536, cs ++ [u % 65536])) ⟨(by dsimp only; exact ⟨n1, n2, by rw [hcs]; exact n3, by omega⟩), (by dsimp only; omega)⟩ (SubR.int rfl (by first | omega | rfl | (dsimp only; omega)) (SubR.cons rfl (SubR.cons rfl SubR.nil))) ((SubKR.consI rfl (ImpK.of xh5.symm)) ((SubKR.consI rfl (ImpK.of (by dsimp only; rw [List.length_append]; rfl))) ((SubKR.consI rfl ImpK.refl) SubKR.nil))) (SupG.val (SupG.own rfl (SupG.own rfl SupG.nil))) (SupH.cons rfl (supJ xc5) (SupH.cons rfl (supJL rfl) (SupH.cons rfl (supJL rfl) SupH.nil))) (lkOk rfl) rfl rfl (fun _ h => by cases h)
  ·
   refine xd1 (xc0 (xc0 (xd8 (x3 (x6 (C_giveC (q := 3) (j := 103) (f := fun n : Nat => tE (.int .u16 n)) (xs := cs) 1 rfl rfl rfl rfl (NoLbK.of fun _ h => h) (rW_all rfl) rfl rfl ?_))))))
   refine x8 ?_
   refine RE (d_loadM (us := [tB (decide (n < 0)), tLm cs]) (t := tWh ⟨(decide (n < 0)), cs⟩) ti47 rfl rfl rfl rfl) ⟨rfl, trivial⟩ ⟨rfl, trivial⟩ trivial (RE (xb0 (es := 2) (agg := true) (0) ti47 rfl rfl rfl) ⟨rfl, rfl, trivial⟩ ⟨rfl, trivial⟩ trivial (x7 (by kernel_rfl) (x3 (xa2 ?_))))
   exact xg5 Plain.mk' rfl ⟨_, _, _, _, _, rfl, rfl, ti47, (Le.of (by rw [← wh_of, hcs, from_end (by rw [← hu]; omega) hi, hv]))⟩
end An.S

/- The kit of the laws: fractions made from ints; steps. -/
namespace An.S
open Go Go.Proofs An
set_option maxHeartbeats 2000000
theorem fi99 : FnI Tryz.prog 99 := ⟨_, Tryz.func99, by kernel_rfl, rfl⟩
/-- What the kit makes of two numbers. -/
def kfr (n d : Int) : Rat := if d < 1 then 0 else Rat.divInt n d
theorem kfr_small {n d : Int} (h : d < 1 ∨ n = 0) : kfr n d = 0 := by
  rw [kfr]
  rcases h with h | h
  · rw [if_pos h]
  · subst h; split
    · rfl
    · exact Rat.zero_divInt d
theorem kfr_big {n d : Int} (h : ¬ d < 1) : kfr n d = Rat.divInt n d := if_neg h
theorem fr_zero : fr 0 = ⟨⟨false, []⟩, wh 1⟩ := by
  have e1 : (0 : Rat).num = 0 := rfl
  have e2 : (((0 : Rat).den : Nat) : Int) = 1 := rfl
  rw [fr, e1, e2, wh_zero]
theorem gcd_facts {n d : Int} {a : Nat} (hd : ¬ d < 1) (ha : a = Nat.gcd n.natAbs d.natAbs) : 0 < a ∧ (a : Int) ≤ d ∧ n.tdiv a = n / (a : Int) ∧ d.tdiv a = d / (a : Int) ∧ fr (Rat.divInt n d) = ⟨wh (n / (a : Int)), wh (d / (a : Int))⟩ ∧ (n / (a : Int)).natAbs ≤ n.natAbs ∧ (d / (a : Int)).natAbs ≤ d.natAbs ∧ (n ≤ 0 → n / (a : Int) ≤ 0) ∧ (0 ≤ n → 0 ≤ n / (a : Int)) ∧ 0 ≤ d / (a : Int) := by
  have h0 : 0 < a := by rw [ha]; exact Nat.gcd_pos_of_pos_right _ (by omega)
  have h1 : a ≤ d.natAbs := by rw [ha]; exact Nat.le_of_dvd (by omega) (Nat.gcd_dvd_right _ _)
  have h2 : (a : Int) ∣ n := Int.dvd_natAbs.1 (Int.natCast_dvd_natCast.2 (ha ▸ Nat.gcd_dvd_left _ _))
  have h3 : (a : Int) ∣ d := Int.dvd_natAbs.1 (Int.natCast_dvd_natCast.2 (ha ▸ Nat.gcd_dvd_right _ _))
  refine ⟨h0, by omega, Int.tdiv_eq_ediv_of_dvd h2, Int.tdiv_eq_ediv_of_dvd h3, ?_, Int.natAbs_ediv_le_natAbs _ _, Int.natAbs_ediv_le_natAbs _ _, fun h => ?_, fun h => Int.ediv_nonneg h (by omega), Int.ediv_nonneg (by omega) (by omega)⟩
  · have h4 := lowest_eq (n := n) (d := d) (by omega)
    have h5 : (Int.gcd n d) = a := by rw [ha]; rfl
    rw [h5] at h4; exact h4
  · have := Int.ediv_le_ediv (show 0 < (a : Int) by omega) h
    simpa using this
theorem c_KFrac (n d : Int) (h1 : -9223372036854775808 ≤ n) (h2 : n ≤ 9223372036854775807) (h3 : -9223372036854775808 ≤ d) (h4 : d ≤ 9223372036854775807) :
  Ct Tryz.prog 45 [tI n, tI d] (tFr (fr (kfr n d))) := by
 refine Ct.intro Tryz.func45 rfl Tryz.ntmps45 rfl ?_
 intro w F
 refine x6 ?_
 refine x8 ?_
 refine RE (xc9 (k := 4) (n := 4) (agg := true) zr49.1 zr49.2 rfl) trivial trivial ⟨rfl, trivial⟩ (x7 (by kernel_rfl) (x3 (x6 (x6 ?_))))
 refine x8 ?_
 refine R1 x4 rfl (R2 xd5 rfl rfl (R1 x4 rfl ?_))
 refine RGcaseD (t := 9) rfl (fun h22 => ?_) (fun h22 => ?_)
 ·
  have hK := kfr_small (n := n) (d := d) (.inl h22)
  refine RGoff (decide_eq_true h22) rfl rfl (RGoff (decide_eq_true h22) rfl rfl (R2 (xa8 (decide_eq_true h22)) rfl rfl (x7 (by kernel_rfl) (x3 (C_bT rfl rfl (x6 ?_))))))
  refine x8 ?_
  refine R1 (xa0 (c_KWhole 1 (by decide) (by decide)) fi99 rfl) rfl (R1 (xe0 (r := tS [⟨2, true, (tS [⟨1, false, (tE (.bool false))⟩, ⟨1, false, (tLm [])⟩])⟩, ⟨2, true, tWh (wh 1)⟩]) (ts := [(1, tWh (wh 1))]) bu49 zr49.2 ⟨_, rfl⟩ rfl ⟨_, _, _, _, rfl, Up.f (fs := [⟨2, true, (tS [⟨1, false, (tE (.bool false))⟩, ⟨1, false, (tLm [])⟩])⟩, ⟨2, true, (tS [⟨1, false, (tE (.bool false))⟩, ⟨1, false, (tLm [])⟩])⟩]) (f := ⟨2, true, (tS [⟨1, false, (tE (.bool false))⟩, ⟨1, false, (tLm [])⟩])⟩) (fs' := [⟨2, true, (tS [⟨1, false, (tE (.bool false))⟩, ⟨1, false, (tLm [])⟩])⟩, ⟨2, true, tWh (wh 1)⟩]) 1 rfl rfl rfl, inferInstance, Le.refl⟩) rfl (RE (xb0 (es := 4) (agg := true) (0) ti49 rfl rfl rfl) ⟨rfl, rfl, trivial⟩ ⟨rfl, trivial⟩ trivial (x7 (by kernel_rfl) (x3 (xa2 (xa6 ?_))))))
  exact xg5 Plain.mk' rfl ⟨_, _, _, _, _, rfl, rfl, ti49, (Le.of (by rw [hK, fr_zero]))⟩
 ·
  have hd : ¬ d < 1 := h22
  refine RGon (decide_eq_false h22) rfl x4 rfl ⟨rfl, trivial⟩ trivial trivial (RGon (decide_eq_false h22) rfl xe5 rfl ⟨rfl, rfl, trivial⟩ trivial trivial (R2 (xa7 (decide_eq_false h22)) rfl rfl (x7 (by kernel_rfl) (x3 ?_))))
  refine xc2 rfl (fun h22_2 => ?_) (fun h22_2 => ?_)
  ·
   have hK := kfr_small (n := n) (d := d) (.inr h22_2)
   refine x6 ?_
   refine x8 ?_
   refine R1 (xa0 (c_KWhole 1 (by decide) (by decide)) fi99 rfl) rfl (R1 (xe0 (r := tS [⟨2, true, (tS [⟨1, false, (tE (.bool false))⟩, ⟨1, false, (tLm [])⟩])⟩, ⟨2, true, tWh (wh 1)⟩]) (ts := [(1, tWh (wh 1))]) bu49 zr49.2 ⟨_, rfl⟩ rfl ⟨_, _, _, _, rfl, Up.f (fs := [⟨2, true, (tS [⟨1, false, (tE (.bool false))⟩, ⟨1, false, (tLm [])⟩])⟩, ⟨2, true, (tS [⟨1, false, (tE (.bool false))⟩, ⟨1, false, (tLm [])⟩])⟩]) (f := ⟨2, true, (tS [⟨1, false, (tE (.bool false))⟩, ⟨1, false, (tLm [])⟩])⟩) (fs' := [⟨2, true, (tS [⟨1, false, (tE (.bool false))⟩, ⟨1, false, (tLm [])⟩])⟩, ⟨2, true, tWh (wh 1)⟩]) 1 rfl rfl rfl, inferInstance, Le.refl⟩) rfl (RE (xb0 (es := 4) (agg := true) (0) ti49 rfl rfl rfl) ⟨rfl, rfl, trivial⟩ ⟨rfl, trivial⟩ trivial (x7 (by kernel_rfl) (x3 (xa2 (xa6 ?_))))))
   exact xg5 Plain.mk' rfl ⟨_, _, _, _, _, rfl, rfl, ti49, (Le.of (by rw [hK, fr_zero]))⟩
  ·
   refine xa4 (x3 (x6 ?_))
   refine x8 ?_
   refine R1 x4 rfl (R1 (xb4 Tryz.underlying142 (isS Tryz.underlying3) toU64) rfl (R1 x4 rfl (R1 (xb4 (r := ((d.natAbs : Nat) : Int)) Tryz.underlying142 (isS Tryz.underlying3) (by rw [mu64]; omega)) rfl (R1 x5 rfl (R1 x5 rfl (x7 (by kernel_rfl) (x3 ?_)))))))
   refine xh2 (fun (v : Nat) => v = n.natAbs) (fun (v : Nat) => upd (upd (upd (upd (upd (fun _ => none) 0 (some (.val (tI n)))) 1 (some (.val (tI d)))) 4 (some (.own (.ptr 4 0)))) 5 (some (.val (tE (.int .u64 ((v : Nat) : Int)))))) 6 (some (.val (tE (.int .u64 ((d.natAbs : Nat) : Int)))))) (fun (v : Nat) => upd (fun _ => none) 4 (some (⟨49, 4, true, [.val (tFr fr0)]⟩))) (nm [4]) ?_ ?_
   ·
    refine x6 ?_
    refine x8 ?_
    refine R1 x4 rfl (R2 xd5 rfl rfl (x7 (by kernel_rfl) (x3 ?_)))
    refine xc2 rfl (fun h26 => ?_) (fun h26 => ?_)
    ·
     refine x8 ?_
     refine R1 x4 rfl (R1 (d_neg (negU64 (by omega))) rfl (R1 x5 rfl (x7 (by kernel_rfl) ?_)))
     exact xc7 ((18446744073709551616 - (n % 18446744073709551616).toNat) % 18446744073709551616) (by omega) (Sub.int rfl (by first | omega | rfl | (dsimp only; omega)) (Sub.int rfl (by first | omega | rfl | (dsimp only; omega)) (Sub.cons rfl (Sub.int rfl (by first | omega | rfl | (dsimp only; omega)) (Sub.int rfl (by first | omega | rfl | (dsimp only; omega)) Sub.nil))))) ((SubK.consI rfl ImpK.refl) SubK.nil) (SupG.val (SupG.val (SupG.own rfl (SupG.val (SupG.val SupG.nil))))) (SupH.cons rfl (supJL rfl) SupH.nil) (lkOk rfl)
    ·
     refine xa4 ?_
     exact xc7 ((n % 18446744073709551616).toNat) (by omega) (Sub.int rfl (by first | omega | rfl | (dsimp only; omega)) (Sub.int rfl (by first | omega | rfl | (dsimp only; omega)) (Sub.cons rfl (Sub.int rfl (by first | omega | rfl | (dsimp only; omega)) (Sub.int rfl (by first | omega | rfl | (dsimp only; omega)) Sub.nil))))) ((SubK.consI rfl ImpK.refl) SubK.nil) (SupG.val (SupG.val (SupG.own rfl (SupG.val (SupG.val SupG.nil))))) (SupH.cons rfl (supJL rfl) SupH.nil) (lkOk rfl)
   ·
    intro v hv
    refine x6 (xa9 ?_)
    refine xd6 (fun (fm : (Nat) × (Nat)) => (fun (a : Nat) (b : Nat) => Nat.gcd a b = Nat.gcd v d.natAbs ∧ a < 18446744073709551616 ∧ b < 18446744073709551616) fm.1 fm.2) (fun (fm : (Nat) × (Nat)) => (fun (a : Nat) (b : Nat) => upd (upd (upd (upd (upd (fun _ => none) 0 (some (.val (tI n)))) 1 (some (.val (tI d)))) 4 (some (.own (.ptr 4 0)))) 5 (some (.val (tE (.int .u64 ((a : Nat) : Int)))))) 6 (some (.val (tE (.int .u64 ((b : Nat) : Int)))))) fm.1 fm.2) (fun (fm : (Nat) × (Nat)) => (fun (a : Nat) (b : Nat) => upd (fun _ => none) 4 (some (⟨49, 4, true, [.val (tFr fr0)]⟩))) fm.1 fm.2) (nm [4]) (fun (fm : (Nat) × (Nat)) => (fun (a : Nat) (b : Nat) => b) fm.1 fm.2) ((v, d.natAbs)) (by dsimp only; exact ⟨rfl, by omega, by omega⟩) (Sub.int rfl (by first | omega | rfl | (dsimp only; omega)) (Sub.int rfl (by first | omega | rfl | (dsimp only; omega)) (Sub.cons rfl (Sub.int rfl (by first | omega | rfl | (dsimp only; omega)) (Sub.int rfl (by first | omega | rfl | (dsimp only; omega)) Sub.nil))))) ((SubK.consI rfl ImpK.refl) SubK.nil) (SupG.val (SupG.val (SupG.own rfl (SupG.val (SupG.val SupG.nil))))) (SupH.cons rfl (supJL rfl) SupH.nil) (lkOk rfl) ?_
    intro fm hI
    obtain ⟨a, b⟩ := fm
    replace hI : Nat.gcd a b = Nat.gcd v d.natAbs ∧ a < 18446744073709551616 ∧ b < 18446744073709551616 := hI
    show wc _ _ _ _ (upd (upd (upd (upd (upd (fun _ => none) 0 (some (.val (tI n)))) 1 (some (.val (tI d)))) 4 (some (.own (.ptr 4 0)))) 5 (some (.val (tE (.int .u64 ((a : Nat) : Int)))))) 6 (some (.val (tE (.int .u64 ((b : Nat) : Int)))))) (upd (fun _ => none) 4 (some (⟨49, 4, true, [.val (tFr fr0)]⟩))) _
    obtain ⟨hg, ha64, hb64⟩ := hI
    refine x6 (x6 ?_)
    refine x8 ?_
    refine R1 x4 rfl (R2 d_gtr rfl rfl (x7 (by kernel_rfl) (x3 ?_)))
    refine xc2 rfl (fun h29 => ?_) (fun h29 => ?_)
    ·
     refine xa4 (x3 (xa9 ?_))
     refine xe1 mixed ?_
     refine R1 x4 rfl (R1 x4 rfl (R1 x4 rfl (R2 (d_rem (r := ((a % b : Nat) : Int)) (by omega) wrem64) rfl rfl (R1 x5 rfl (R1 x5 rfl (xd9 (by kernel_rfl) (xc6 ?_)))))))
     have hbp : 0 < b := by omega
     have hlt := Nat.mod_lt a hbp
     exact xc7 ((b, a % b)) ⟨(by dsimp only; exact ⟨by rw [Nat.gcd_comm b, ← Nat.gcd_rec, Nat.gcd_comm]; exact hg, hb64, by omega⟩), (by dsimp only; omega)⟩ (Sub.int rfl (by first | omega | rfl | (dsimp only; omega)) (Sub.int rfl (by first | omega | rfl | (dsimp only; omega)) (Sub.cons rfl (Sub.int rfl (by first | omega | rfl | (dsimp only; omega)) (Sub.int rfl (by first | omega | rfl | (dsimp only; omega)) Sub.nil))))) ((SubK.consI rfl ImpK.refl) SubK.nil) (SupG.val (SupG.val (SupG.own rfl (SupG.val (SupG.val SupG.nil))))) (SupH.cons rfl (supJL rfl) SupH.nil) (lkOk rfl)
    ·
     refine xd1 (xc0 (xc0 (xd8 (x3 (x6 ?_)))))
     have hb0 : b = 0 := by omega
     subst hb0
     rw [Nat.gcd_zero_right, hv] at hg
     obtain ⟨g1, g2, g3, g4, g5, g6, g7, g8, g9, g10⟩ := gcd_facts (n := n) hd hg
     refine xe1 mixed ?_
     refine R1 x4 rfl (R1 x4 rfl (R1 (xb4 (r := (a : Int)) Tryz.underlying3 (isS Tryz.underlying142) (wr64 (by omega) (by omega))) rfl (R2 (d_quo (r := n / (a : Int)) (by omega) (by rw [g3]; exact wr64 (by omega) (by omega))) rfl rfl (R1 (xa0 (c_KWhole _ (by omega) (by omega)) fi99 rfl) rfl (R1 x4 rfl (R1 x4 rfl (R1 (xb4 (r := (a : Int)) Tryz.underlying3 (isS Tryz.underlying142) (wr64 (by omega) (by omega))) rfl ?_)))))))
     refine R2 (d_quo (r := d / (a : Int)) (by omega) (by rw [g4]; exact wr64 (by omega) (by omega))) rfl rfl (R1 (xa0 (c_KWhole _ (by omega) (by omega)) fi99 rfl) rfl (R2 (xe0 (r := tS [⟨2, true, tWh (wh (n / (a : Int)))⟩, ⟨2, true, tWh (wh (d / (a : Int)))⟩]) (ts := [(0, tWh (wh (n / (a : Int)))), (1, tWh (wh (d / (a : Int))))]) bu49 zr49.2 ⟨_, rfl⟩ rfl ⟨_, _, _, _, rfl, Up.f (fs := [⟨2, true, (tS [⟨1, false, (tE (.bool false))⟩, ⟨1, false, (tLm [])⟩])⟩, ⟨2, true, (tS [⟨1, false, (tE (.bool false))⟩, ⟨1, false, (tLm [])⟩])⟩]) (f := ⟨2, true, (tS [⟨1, false, (tE (.bool false))⟩, ⟨1, false, (tLm [])⟩])⟩) (fs' := [⟨2, true, tWh (wh (n / (a : Int)))⟩, ⟨2, true, (tS [⟨1, false, (tE (.bool false))⟩, ⟨1, false, (tLm [])⟩])⟩]) 0 rfl rfl rfl, inferInstance, ⟨_, _, _, _, rfl, Up.f (fs := [⟨2, true, tWh (wh (n / (a : Int)))⟩, ⟨2, true, (tS [⟨1, false, (tE (.bool false))⟩, ⟨1, false, (tLm [])⟩])⟩]) (f := ⟨2, true, (tS [⟨1, false, (tE (.bool false))⟩, ⟨1, false, (tLm [])⟩])⟩) (fs' := [⟨2, true, tWh (wh (n / (a : Int)))⟩, ⟨2, true, tWh (wh (d / (a : Int)))⟩]) 1 rfl rfl rfl, inferInstance, Le.refl⟩⟩) rfl rfl (RE (xb0 (es := 4) (agg := true) (0) ti49 rfl rfl rfl) ⟨rfl, rfl, trivial⟩ ⟨rfl, trivial⟩ trivial (xd9 (by kernel_rfl) (x3 (xa2 ?_))))))
     exact xg5 Plain.mk' rfl ⟨_, _, _, _, _, rfl, rfl, ti49, (Le.of (by rw [kfr_big hd, g5]))⟩
end An.S

/- Layer 5: values and timelines. -/
namespace An.S
open Go Go.Proofs An
set_option maxHeartbeats 2000000
theorem ti103 : TyI Tryz.prog 103 8 true := ⟨by kernel_rfl, by kernel_rfl⟩
theorem fi45 : FnI Tryz.prog 45 := ⟨_, Tryz.func45, by kernel_rfl, rfl⟩
theorem fi61 : FnI Tryz.prog 61 := ⟨_, Tryz.func61, by kernel_rfl, rfl⟩
theorem fi114 : FnI Tryz.prog 114 := ⟨_, Tryz.func114, by kernel_rfl, rfl⟩
theorem zr53 : (Tryz.prog.info? 53).bind (·.zero) = some (.agg #[.int .u8 0, .bool false, .slice none 0 0, .bool false, .slice none 0 0, .int .i64 0]) ∧ ∀ F w, (tS [⟨1, false, (tE (.int .u8 0))⟩, ⟨4, true, (tS [⟨2, true, (tS [⟨1, false, (tE (.bool false))⟩, ⟨1, false, (tLm [])⟩])⟩, ⟨2, true, (tS [⟨1, false, (tE (.bool false))⟩, ⟨1, false, (tLm [])⟩])⟩])⟩, ⟨1, false, (tE (.int .i64 0))⟩]).p F w (.agg #[.int .u8 0, .bool false, .slice none 0 0, .bool false, .slice none 0 0, .int .i64 0]) := ⟨by kernel_rfl, fun _ _ => ⟨_, rfl, rfl, ⟨fun _ => rfl, rfl⟩, ⟨fun h => Bool.noConfusion h, ⟨_, rfl, rfl, ⟨fun h => Bool.noConfusion h, ⟨_, rfl, rfl, ⟨fun _ => rfl, rfl⟩, ⟨fun _ => rfl, ⟨none, 0, rfl, Nat.le_refl _, by decide, .inl rfl⟩⟩, trivial⟩⟩, ⟨fun h => Bool.noConfusion h, ⟨_, rfl, rfl, ⟨fun _ => rfl, rfl⟩, ⟨fun _ => rfl, ⟨none, 0, rfl, Nat.le_refl _, by decide, .inl rfl⟩⟩, trivial⟩⟩, trivial⟩⟩, ⟨fun _ => rfl, rfl⟩, trivial⟩⟩
theorem zr103 : (Tryz.prog.info? 103).bind (·.zero) = some (.agg #[.int .i64 0, .int .i64 0, .int .u8 0, .bool false, .slice none 0 0, .bool false, .slice none 0 0, .int .i64 0]) ∧ ∀ F w, (tS [⟨1, false, (tE (.int .i64 0))⟩, ⟨1, false, (tE (.int .i64 0))⟩, ⟨6, true, (tS [⟨1, false, (tE (.int .u8 0))⟩, ⟨4, true, (tS [⟨2, true, (tS [⟨1, false, (tE (.bool false))⟩, ⟨1, false, (tLm [])⟩])⟩, ⟨2, true, (tS [⟨1, false, (tE (.bool false))⟩, ⟨1, false, (tLm [])⟩])⟩])⟩, ⟨1, false, (tE (.int .i64 0))⟩])⟩]).p F w (.agg #[.int .i64 0, .int .i64 0, .int .u8 0, .bool false, .slice none 0 0, .bool false, .slice none 0 0, .int .i64 0]) := ⟨by kernel_rfl, fun _ _ => ⟨_, rfl, rfl, ⟨fun _ => rfl, rfl⟩, ⟨fun _ => rfl, rfl⟩, ⟨fun h => Bool.noConfusion h, ⟨_, rfl, rfl, ⟨fun _ => rfl, rfl⟩, ⟨fun h => Bool.noConfusion h, ⟨_, rfl, rfl, ⟨fun h => Bool.noConfusion h, ⟨_, rfl, rfl, ⟨fun _ => rfl, rfl⟩, ⟨fun _ => rfl, ⟨none, 0, rfl, Nat.le_refl _, by decide, .inl rfl⟩⟩, trivial⟩⟩, ⟨fun h => Bool.noConfusion h, ⟨_, rfl, rfl, ⟨fun _ => rfl, rfl⟩, ⟨fun _ => rfl, ⟨none, 0, rfl, Nat.le_refl _, by decide, .inl rfl⟩⟩, trivial⟩⟩, trivial⟩⟩, ⟨fun _ => rfl, rfl⟩, trivial⟩⟩, trivial⟩⟩
theorem bu53 : BuI Tryz.prog 53 (fun i => [(0, 1), (1, 4), (5, 1)][i]?) (.agg #[.int .u8 0, .bool false, .slice none 0 0, .bool false, .slice none 0 0, .int .i64 0]) := BuI.struct Tryz.underlying53 (by kernel_rfl) (by kernel_rfl)
theorem bu103 : BuI Tryz.prog 103 (fun i => [(0, 1), (1, 1), (2, 6)][i]?) (.agg #[.int .i64 0, .int .i64 0, .int .u8 0, .bool false, .slice none 0 0, .bool false, .slice none 0 0, .int .i64 0]) := BuI.struct Tryz.underlying103 (by kernel_rfl) (by kernel_rfl)
theorem c_Num (n d : Int) (h1 : -9223372036854775808 ≤ n) (h2 : n ≤ 9223372036854775807) (h3 : -9223372036854775808 ≤ d) (h4 : d ≤ 9223372036854775807) :
  Ct Tryz.prog 61 [tI n, tI d] (tVa ⟨2, fr (kfr n d), 0⟩) := by
 refine Ct.intro Tryz.func61 rfl Tryz.ntmps61 rfl ?_
 intro w F
 refine x6 ?_
 refine x8 ?_
 refine RE (xc9 (k := 4) (n := 6) (agg := true) zr53.1 zr53.2 rfl) trivial trivial ⟨rfl, trivial⟩ (x7 (by kernel_rfl) (x3 (x6 ?_)))
 refine x8 ?_
 refine R1 x4 rfl (R1 x4 rfl (R2 (xa0 (c_KFrac n d h1 h2 h3 h4) fi45 rfl) rfl rfl (R2 (xe0 (r := tS [⟨1, false, tE (.int .u8 2)⟩, ⟨4, true, tFr (fr (kfr n d))⟩, ⟨1, false, (tE (.int .i64 0))⟩]) (ts := [(0, tE (.int .u8 2)), (1, tFr (fr (kfr n d)))]) bu53 zr53.2 ⟨_, rfl⟩ rfl ⟨_, _, _, _, rfl, Up.f (fs := [⟨1, false, (tE (.int .u8 0))⟩, ⟨4, true, (tS [⟨2, true, (tS [⟨1, false, (tE (.bool false))⟩, ⟨1, false, (tLm [])⟩])⟩, ⟨2, true, (tS [⟨1, false, (tE (.bool false))⟩, ⟨1, false, (tLm [])⟩])⟩])⟩, ⟨1, false, (tE (.int .i64 0))⟩]) (f := ⟨1, false, (tE (.int .u8 0))⟩) (fs' := [⟨1, false, tE (.int .u8 2)⟩, ⟨4, true, (tS [⟨2, true, (tS [⟨1, false, (tE (.bool false))⟩, ⟨1, false, (tLm [])⟩])⟩, ⟨2, true, (tS [⟨1, false, (tE (.bool false))⟩, ⟨1, false, (tLm [])⟩])⟩])⟩, ⟨1, false, (tE (.int .i64 0))⟩]) 0 rfl rfl rfl, inferInstance, ⟨_, _, _, _, rfl, Up.f (fs := [⟨1, false, tE (.int .u8 2)⟩, ⟨4, true, (tS [⟨2, true, (tS [⟨1, false, (tE (.bool false))⟩, ⟨1, false, (tLm [])⟩])⟩, ⟨2, true, (tS [⟨1, false, (tE (.bool false))⟩, ⟨1, false, (tLm [])⟩])⟩])⟩, ⟨1, false, (tE (.int .i64 0))⟩]) (f := ⟨4, true, (tS [⟨2, true, (tS [⟨1, false, (tE (.bool false))⟩, ⟨1, false, (tLm [])⟩])⟩, ⟨2, true, (tS [⟨1, false, (tE (.bool false))⟩, ⟨1, false, (tLm [])⟩])⟩])⟩) (fs' := [⟨1, false, tE (.int .u8 2)⟩, ⟨4, true, tFr (fr (kfr n d))⟩, ⟨1, false, (tE (.int .i64 0))⟩]) 1 rfl rfl rfl, inferInstance, Le.refl⟩⟩) rfl rfl (RE (xb0 (es := 6) (agg := true) (0) ti53 rfl rfl rfl) ⟨rfl, rfl, trivial⟩ ⟨rfl, trivial⟩ trivial (x7 (by kernel_rfl) (x3 (xa2 ?_)))))))
 exact xg5 Plain.mk' rfl ⟨_, _, _, _, _, rfl, rfl, ti53, (Le.of rfl)⟩
theorem c_TSame (x y : Va) :
  Ct Tryz.prog 68 [tVa x, tVa y] (tB (decide (x = y))) := by
 refine Ct.intro Tryz.func68 rfl Tryz.ntmps68 rfl ?_
 intro w F
 refine x6 ?_
 refine x8 ?_
 refine RE (xd2 (k := 2) ti53 rfl) ⟨rfl, trivial⟩ trivial ⟨rfl, trivial⟩ (RE (xd2 (k := 3) ti53 rfl) ⟨rfl, trivial⟩ trivial ⟨rfl, trivial⟩ (R1 x5 rfl (x7 (by kernel_rfl) (x3 (x6 ?_)))))
 refine x8 ?_
 refine R1 (x9 fo53_0 rfl) rfl (xa5 (0) ti5 rfl rfl rfl (At.g 0 rfl rfl) rfl (R1 (x9 fo53_0 rfl) rfl (xa5 (0) ti5 rfl rfl rfl (At.g 0 rfl rfl) rfl (R2 xe5 rfl rfl (R1 x4 rfl ?_)))))
 refine RGcaseD (t := 10) rfl (fun h34 => ?_) (fun h34 => ?_)
 ·
  refine RGon (decide_eq_true h34) rfl (x9 fo53_2 rfl) rfl ⟨rfl, trivial⟩ trivial trivial (xb2 (decide_eq_true h34) rfl rfl (0) ti3 rfl rfl rfl (At.g 2 rfl rfl) rfl (RGon (decide_eq_true h34) rfl (x9 fo53_2 rfl) rfl ⟨rfl, trivial⟩ trivial trivial (xb2 (decide_eq_true h34) rfl rfl (0) ti3 rfl rfl rfl (At.g 2 rfl rfl) rfl (RGon (decide_eq_true h34) rfl xe5 rfl ⟨rfl, rfl, trivial⟩ trivial trivial (R2 (xa8 (decide_eq_true h34)) rfl rfl (R1 x4 rfl ?_))))))
  refine RGcaseD (t := 17) rfl (fun h34_2 => ?_) (fun h34_2 => ?_)
  ·
   refine RGon (decide_eq_true h34_2) rfl (x9 fo53_1 rfl) rfl ⟨rfl, trivial⟩ trivial trivial (xb2 (decide_eq_true h34_2) rfl rfl (0) ti49 rfl rfl rfl (At.g 1 rfl rfl) rfl (RGon (decide_eq_true h34_2) rfl (x9 fo53_1 rfl) rfl ⟨rfl, trivial⟩ trivial trivial (xb2 (decide_eq_true h34_2) rfl rfl (0) ti49 rfl rfl rfl (At.g 1 rfl rfl) rfl (RGon (decide_eq_true h34_2) rfl (xa0 (c_FSame _ _) fi114 rfl) rfl ⟨rfl, rfl, trivial⟩ trivial trivial (R2 (xa8 (decide_eq_true h34_2)) rfl rfl (R1 x5 rfl (x7 (by kernel_rfl) ?_)))))))
   refine x3 (xa2 ?_)
   exact xa3 Plain.mk' rfl rfl (Le.bool (by obtain ⟨a, b, e⟩ := x; obtain ⟨c, d, f⟩ := y; simp only [Va.mk.injEq] at *; simp_all <;> omega))
  ·
   refine RGoff (decide_eq_false h34_2) rfl rfl (RGoff (decide_eq_false h34_2) rfl rfl (RGoff (decide_eq_false h34_2) rfl rfl (RGoff (decide_eq_false h34_2) rfl rfl (RGoff (decide_eq_false h34_2) rfl rfl (R2 (xa7 (decide_eq_false h34_2)) rfl rfl (R1 x5 rfl (x7 (by kernel_rfl) ?_)))))))
   refine x3 (xa2 ?_)
   exact xa3 Plain.mk' rfl rfl (Le.bool (by obtain ⟨a, b, e⟩ := x; obtain ⟨c, d, f⟩ := y; simp only [Va.mk.injEq] at *; simp_all <;> omega))
 ·
  refine RGoff (decide_eq_false h34) rfl rfl (RGoff (decide_eq_false h34) rfl rfl (RGoff (decide_eq_false h34) rfl rfl (RGoff (decide_eq_false h34) rfl rfl (RGoff (decide_eq_false h34) rfl rfl (R2 (xa7 (decide_eq_false h34)) rfl rfl (R1 x4 rfl (RGoff0 rfl rfl ?_)))))))
  refine RGoff0 rfl rfl (RGoff0 rfl rfl (RGoff0 rfl rfl (RGoff0 rfl rfl (R2 (xa7 rfl) rfl rfl (R1 x5 rfl (x7 (by kernel_rfl) (x3 ?_)))))))
  refine xa2 ?_
  exact xa3 Plain.mk' rfl rfl (Le.bool (by obtain ⟨a, b, e⟩ := x; obtain ⟨c, d, f⟩ := y; simp only [Va.mk.injEq] at *; simp_all <;> omega))
theorem c_isPart (a b : Int) :
  Ct Tryz.prog 107 [tI a, tI b] (tB (Sn.ok ⟨a, b⟩)) := by
 refine Ct.intro Tryz.func107 rfl Tryz.ntmps107 rfl ?_
 intro w F
 refine x6 ?_
 refine x8 ?_
 refine R1 x5 rfl (x7 (by kernel_rfl) (x3 (x6 ?_)))
 refine x8 ?_
 refine R1 x4 rfl (R2 xg2 rfl rfl (R1 x4 rfl ?_))
 refine RGcaseD (t := 7) rfl (fun h56 => ?_) (fun h56 => ?_)
 ·
  refine RGon (decide_eq_true h56) rfl x4 rfl ⟨rfl, trivial⟩ trivial trivial (RGon (decide_eq_true h56) rfl x4 rfl ⟨rfl, trivial⟩ trivial trivial (RGon (decide_eq_true h56) rfl xg2 rfl ⟨rfl, rfl, trivial⟩ trivial trivial (R2 (xa8 (decide_eq_true h56)) rfl rfl (R1 x4 rfl ?_))))
  refine RGcaseD (t := 12) rfl (fun h56_2 => ?_) (fun h56_2 => ?_)
  ·
   refine RGon (decide_eq_true h56_2) rfl x4 rfl ⟨rfl, trivial⟩ trivial trivial (RGon (decide_eq_true h56_2) rfl xg2 rfl ⟨rfl, rfl, trivial⟩ trivial trivial (R2 (xa8 (decide_eq_true h56_2)) rfl rfl (R1 x5 rfl (x7 (by kernel_rfl) (x3 (xa2 ?_))))))
   exact xa3 Plain.mk' rfl rfl (Le.bool (by simp [Sn.ok, *]))
  ·
   refine RGoff (decide_eq_false h56_2) rfl rfl (RGoff (decide_eq_false h56_2) rfl rfl (R2 (xa7 (decide_eq_false h56_2)) rfl rfl (R1 x5 rfl (x7 (by kernel_rfl) (x3 (xa2 ?_))))))
   exact xa3 Plain.mk' rfl rfl (Le.bool (by simp [Sn.ok, *]))
 ·
  refine RGoff (decide_eq_false h56) rfl rfl (RGoff (decide_eq_false h56) rfl rfl (RGoff (decide_eq_false h56) rfl rfl (R2 (xa7 (decide_eq_false h56)) rfl rfl (R1 x4 rfl (RGoff0 rfl rfl (RGoff0 rfl rfl (R2 (xa7 rfl) rfl rfl ?_)))))))
  refine R1 x5 rfl (x7 (by kernel_rfl) (x3 (xa2 ?_)))
  exact xa3 Plain.mk' rfl rfl (Le.bool (by simp [Sn.ok, *]))
theorem upN (v : Va) : Up (tVa v) (1 + (0 + 1)) 1 false (tLm v.f.n.l) (tVa v) :=
  Up.t (t1 := tFr v.f) (t1' := tFr v.f) (At.g 1 rfl rfl) (Up.f (f := ⟨4, true, tFr v.f⟩) 1 rfl rfl rfl) (Up.t (t1 := tWh v.f.n) (t1' := tWh v.f.n) (At.g 0 rfl rfl) (Up.f (f := ⟨2, true, tWh v.f.n⟩) 0 rfl rfl rfl) (Up.f (f := ⟨1, false, tLm v.f.n.l⟩) 1 rfl rfl rfl))
theorem upD (v : Va) : Up (tVa v) (1 + (2 + 1)) 1 false (tLm v.f.d.l) (tVa v) :=
  Up.t (t1 := tFr v.f) (t1' := tFr v.f) (At.g 1 rfl rfl) (Up.f (f := ⟨4, true, tFr v.f⟩) 1 rfl rfl rfl) (Up.t (t1 := tWh v.f.d) (t1' := tWh v.f.d) (At.g 1 rfl rfl) (Up.f (f := ⟨2, true, tWh v.f.d⟩) 1 rfl rfl rfl) (Up.f (f := ⟨1, false, tLm v.f.d.l⟩) 1 rfl rfl rfl))
theorem c_copied (v : Va) (h1 : v.f.n.l.length ≤ 1000000) (h2 : v.f.d.l.length ≤ 1000000) :
  Ct Tryz.prog 106 [tVa v] (tVa v) := by
 refine Ct.intro Tryz.func106 rfl Tryz.ntmps106 rfl ?_
 intro w F
 refine x6 ?_
 refine x8 ?_
 refine RE (xd2 (k := 1) ti53 rfl) ⟨rfl, trivial⟩ trivial ⟨rfl, trivial⟩ (RE (xc9 (k := 2) (n := 6) (agg := true) zr53.1 zr53.2 rfl) trivial trivial ⟨rfl, trivial⟩ (x7 (by kernel_rfl) (x3 (x6 ?_))))
 refine x8 ?_
 refine R1 (x9 fo53_1 rfl) rfl (R1 (x9 fo49_0 rfl) rfl (R1 (x9 fo47_1 rfl) rfl (xa5 (0) ti45 rfl rfl rfl (At.t (At.g 1 rfl rfl) (At.t (At.g 0 rfl rfl) (At.g 1 rfl rfl))) rfl (R1 (xa0 (c_clone16V _ h1) fi143 rfl) rfl (R1 (x9 fo53_1 rfl) rfl (R1 (x9 fo49_0 rfl) rfl (R1 (x9 fo47_1 rfl) rfl ?_)))))))
 refine RE (d_storeF (k := 1) (T0 := 53) (es := 6) (ts := [.val (tVa v)]) (0) ti45 rfl (upN v) rfl rfl) ⟨rfl, rfl, trivial⟩ ⟨rfl, trivial⟩ trivial (x7 (by kernel_rfl) (x3 (x6 ?_)))
 refine x8 ?_
 refine R1 (x9 fo53_1 rfl) rfl (R1 (x9 fo49_1 rfl) rfl (R1 (x9 fo47_1 rfl) rfl (xa5 (0) ti45 rfl rfl rfl (At.t (At.g 1 rfl rfl) (At.t (At.g 1 rfl rfl) (At.g 1 rfl rfl))) rfl (R1 (xa0 (c_clone16V _ h2) fi143 rfl) rfl (R1 (x9 fo53_1 rfl) rfl (R1 (x9 fo49_1 rfl) rfl (R1 (x9 fo47_1 rfl) rfl ?_)))))))
 refine RE (d_storeF (k := 1) (T0 := 53) (es := 6) (ts := [.val (tVa v)]) (0) ti45 rfl (upD v) rfl rfl) ⟨rfl, rfl, trivial⟩ ⟨rfl, trivial⟩ trivial (x7 (by kernel_rfl) (x3 (x6 ?_)))
 refine x8 ?_
 refine RE (xb3 (0) ti53 rfl rfl) ⟨rfl, trivial⟩ ⟨rfl, trivial⟩ trivial (RE (xb0 (es := 6) (agg := true) (0) ti53 rfl rfl rfl) ⟨rfl, rfl, trivial⟩ ⟨rfl, trivial⟩ trivial (x7 (by kernel_rfl) (x3 (xa2 ?_))))
 exact xg5 Plain.mk' rfl ⟨_, _, _, _, _, rfl, rfl, ti53, Le.refl⟩
theorem va23 {v : Va} {b : Bool} (h : (v.kind : Int) = 2 ∨ (v.kind : Int) = 3) (hb : b = (decide (v.i = 0) && v.f.valid)) : b = v.valid := by
  rw [Va.valid, if_pos (by omega)]; exact hb
theorem va1 {v : Va} {b : Bool} (h : (v.kind : Int) = 1) (hb : b = (decide (v.f = fr0) && decide (0 ≤ v.i) && decide (v.i ≤ 1))) : b = v.valid := by
  rw [Va.valid, if_neg (by omega), if_pos (by omega)]; exact hb
theorem va4 {v : Va} {b : Bool} (h : (v.kind : Int) = 4) (hb : b = (decide (v.f = fr0) && decide (0 ≤ v.i) && decide (v.i < 65536))) : b = v.valid := by
  rw [Va.valid, if_neg (by omega), if_neg (by omega), if_pos (by omega)]; exact hb
theorem va56 {v : Va} {b : Bool} (h : (v.kind : Int) = 5 ∨ (v.kind : Int) = 6) (hb : b = (decide (v.f = fr0) && decide (-1048576 ≤ v.i) && decide (v.i ≤ 1048576))) : b = v.valid := by
  rw [Va.valid, if_neg (by omega), if_neg (by omega), if_neg (by omega), if_pos (by omega)]; exact hb
theorem va0 {v : Va} (h1 : ¬ ((v.kind : Int) = 2 ∨ (v.kind : Int) = 3)) (h2 : ¬ (v.kind : Int) = 1) (h3 : ¬ (v.kind : Int) = 4) (h4 : ¬ ((v.kind : Int) = 5 ∨ (v.kind : Int) = 6)) : false = v.valid := by
  rw [Va.valid, if_neg (by omega), if_neg (by omega), if_neg (by omega), if_neg (by omega)]
theorem c_TValid (v : Va) (hD : v.f.dig) :
  Ct Tryz.prog 66 [tVa v] (tB v.valid) := by
 refine Ct.intro Tryz.func66 rfl Tryz.ntmps66 rfl ?_
 intro w F
 refine x6 ?_
 refine x8 ?_
 refine RE (xd2 (k := 1) ti53 rfl) ⟨rfl, trivial⟩ trivial ⟨rfl, trivial⟩ (R1 x5 rfl (x7 (by kernel_rfl) (x3 (x6 (x6 ?_)))))
 refine x8 ?_
 refine R1 (x9 fo53_0 rfl) rfl (xa5 (0) ti5 rfl rfl rfl (At.g 0 rfl rfl) rfl (x7 (by kernel_rfl) (x3 (xa9 (x6 (x6 ?_))))))
 refine x8 ?_
 refine R2 xe5 rfl rfl (R1 x5 rfl (x7 (by kernel_rfl) (x3 ?_)))
 refine xc2 rfl (fun h20 => ?_) (fun h20 => ?_)
 ·
  refine xa4 (x3 ?_)
  refine xc2 rfl (fun h20_2 => ?_) (fun h20_2 => ?_)
  ·
   refine x6 ?_
   refine x8 ?_
   refine R1 (x9 fo53_2 rfl) rfl (xa5 (0) ti3 rfl rfl rfl (At.g 2 rfl rfl) rfl (R2 xe5 rfl rfl (R1 x4 rfl ?_)))
   refine RGcaseD (t := 11) rfl (fun h21 => ?_) (fun h21 => ?_)
   ·
    refine RGon (decide_eq_true h21) rfl (x9 fo53_1 rfl) rfl ⟨rfl, trivial⟩ trivial trivial (xb2 (decide_eq_true h21) rfl rfl (0) ti49 rfl rfl rfl (At.g 1 rfl rfl) rfl (RGon (decide_eq_true h21) rfl (xa0 (c_FValid _ hD.1 hD.2) fi78 rfl) rfl ⟨rfl, trivial⟩ trivial trivial (R2 (xa8 (decide_eq_true h21)) rfl rfl (R1 x5 rfl (x7 (by kernel_rfl) (x3 (xa2 ?_)))))))
    refine xc8 (xa6 ?_)
    exact xa3 Plain.mk' rfl rfl (Le.bool (va23 (by omega) (by first | (simp [*]; done) | simp [*])))
   ·
    refine RGoff (decide_eq_false h21) rfl rfl (RGoff (decide_eq_false h21) rfl rfl (RGoff (decide_eq_false h21) rfl rfl (R2 (xa7 (decide_eq_false h21)) rfl rfl (R1 x5 rfl (x7 (by kernel_rfl) (x3 (xa2 ?_)))))))
    refine xc8 (xa6 ?_)
    exact xa3 Plain.mk' rfl rfl (Le.bool (va23 (by omega) (by first | (simp [*]; done) | simp [*])))
  ·
   refine x6 ?_
   refine x8 ?_
   refine R2 xe5 rfl rfl (R1 x5 rfl (x7 (by kernel_rfl) (x3 ?_)))
   refine xc2 rfl (fun h22 => ?_) (fun h22 => ?_)
   ·
    refine x6 ?_
    refine x8 ?_
    refine R1 (x9 fo53_1 rfl) rfl (xa5 (0) ti49 rfl rfl rfl (At.g 1 rfl rfl) rfl (R0 (xe0 (r := tS [⟨2, true, (tS [⟨1, false, (tE (.bool false))⟩, ⟨1, false, (tLm [])⟩])⟩, ⟨2, true, (tS [⟨1, false, (tE (.bool false))⟩, ⟨1, false, (tLm [])⟩])⟩]) (ts := []) bu49 zr49.2 ⟨_, rfl⟩ rfl Le.refl)  (R2 (xa0 (c_FSame _ fr0) fi114 rfl) rfl rfl (R1 x4 rfl ?_))))
    refine RGcaseD (t := 22) rfl (fun h23 => ?_) (fun h23 => ?_)
    ·
     refine RGon (decide_eq_true h23) rfl (x9 fo53_2 rfl) rfl ⟨rfl, trivial⟩ trivial trivial (xb2 (decide_eq_true h23) rfl rfl (0) ti3 rfl rfl rfl (At.g 2 rfl rfl) rfl (RGon (decide_eq_true h23) rfl xg2 rfl ⟨rfl, rfl, trivial⟩ trivial trivial (R2 (xa8 (decide_eq_true h23)) rfl rfl (R1 x4 rfl ?_))))
     refine RGcaseD (t := 27) rfl (fun h23_2 => ?_) (fun h23_2 => ?_)
     ·
      refine RGon (decide_eq_true h23_2) rfl (x9 fo53_2 rfl) rfl ⟨rfl, trivial⟩ trivial trivial (xb2 (decide_eq_true h23_2) rfl rfl (0) ti3 rfl rfl rfl (At.g 2 rfl rfl) rfl (RGon (decide_eq_true h23_2) rfl xg2 rfl ⟨rfl, rfl, trivial⟩ trivial trivial (R2 (xa8 (decide_eq_true h23_2)) rfl rfl (R1 x5 rfl (x7 (by kernel_rfl) (x3 (xa2 ?_)))))))
      refine xc8 (xa6 ?_)
      exact xa3 Plain.mk' rfl rfl (Le.bool (va1 (by omega) (by simp [*])))
     ·
      refine RGoff (decide_eq_false h23_2) rfl rfl (RGoff (decide_eq_false h23_2) rfl rfl (RGoff (decide_eq_false h23_2) rfl rfl (R2 (xa7 (decide_eq_false h23_2)) rfl rfl (R1 x5 rfl (x7 (by kernel_rfl) (x3 (xa2 ?_)))))))
      refine xc8 (xa6 ?_)
      exact xa3 Plain.mk' rfl rfl (Le.bool (va1 (by omega) (by simp [*])))
    ·
     refine RGoff (decide_eq_false h23) rfl rfl (RGoff (decide_eq_false h23) rfl rfl (RGoff (decide_eq_false h23) rfl rfl (R2 (xa7 (decide_eq_false h23)) rfl rfl (R1 x4 rfl (RGoff0 rfl rfl (RGoff0 rfl rfl (RGoff0 rfl rfl ?_)))))))
     refine R2 (xa7 rfl) rfl rfl (R1 x5 rfl (x7 (by kernel_rfl) (x3 (xa2 (xc8 (xa6 ?_))))))
     exact xa3 Plain.mk' rfl rfl (Le.bool (va1 (by omega) (by simp [*])))
   ·
    refine x6 ?_
    refine x8 ?_
    refine R2 xe5 rfl rfl (R1 x5 rfl (x7 (by kernel_rfl) (x3 ?_)))
    refine xc2 rfl (fun h24 => ?_) (fun h24 => ?_)
    ·
     refine x6 ?_
     refine x8 ?_
     refine R1 (x9 fo53_1 rfl) rfl (xa5 (0) ti49 rfl rfl rfl (At.g 1 rfl rfl) rfl (R0 (xe0 (r := tS [⟨2, true, (tS [⟨1, false, (tE (.bool false))⟩, ⟨1, false, (tLm [])⟩])⟩, ⟨2, true, (tS [⟨1, false, (tE (.bool false))⟩, ⟨1, false, (tLm [])⟩])⟩]) (ts := []) bu49 zr49.2 ⟨_, rfl⟩ rfl Le.refl)  (R2 (xa0 (c_FSame _ fr0) fi114 rfl) rfl rfl (R1 x4 rfl ?_))))
     refine RGcaseD (t := 38) rfl (fun h25 => ?_) (fun h25 => ?_)
     ·
      refine RGon (decide_eq_true h25) rfl (x9 fo53_2 rfl) rfl ⟨rfl, trivial⟩ trivial trivial (xb2 (decide_eq_true h25) rfl rfl (0) ti3 rfl rfl rfl (At.g 2 rfl rfl) rfl (RGon (decide_eq_true h25) rfl xg2 rfl ⟨rfl, rfl, trivial⟩ trivial trivial (R2 (xa8 (decide_eq_true h25)) rfl rfl (R1 x4 rfl ?_))))
      refine RGcaseD (t := 43) rfl (fun h25_2 => ?_) (fun h25_2 => ?_)
      ·
       refine RGon (decide_eq_true h25_2) rfl (x9 fo53_2 rfl) rfl ⟨rfl, trivial⟩ trivial trivial (xb2 (decide_eq_true h25_2) rfl rfl (0) ti3 rfl rfl rfl (At.g 2 rfl rfl) rfl (RGon (decide_eq_true h25_2) rfl xd5 rfl ⟨rfl, rfl, trivial⟩ trivial trivial (R2 (xa8 (decide_eq_true h25_2)) rfl rfl (R1 x5 rfl (x7 (by kernel_rfl) (x3 (xa2 ?_)))))))
       refine xc8 (xa6 ?_)
       exact xa3 Plain.mk' rfl rfl (Le.bool (va4 (by omega) (by simp [*])))
      ·
       refine RGoff (decide_eq_false h25_2) rfl rfl (RGoff (decide_eq_false h25_2) rfl rfl (RGoff (decide_eq_false h25_2) rfl rfl (R2 (xa7 (decide_eq_false h25_2)) rfl rfl (R1 x5 rfl (x7 (by kernel_rfl) (x3 (xa2 ?_)))))))
       refine xc8 (xa6 ?_)
       exact xa3 Plain.mk' rfl rfl (Le.bool (va4 (by omega) (by simp [*])))
     ·
      refine RGoff (decide_eq_false h25) rfl rfl (RGoff (decide_eq_false h25) rfl rfl (RGoff (decide_eq_false h25) rfl rfl (R2 (xa7 (decide_eq_false h25)) rfl rfl (R1 x4 rfl (RGoff0 rfl rfl (RGoff0 rfl rfl (RGoff0 rfl rfl ?_)))))))
      refine R2 (xa7 rfl) rfl rfl (R1 x5 rfl (x7 (by kernel_rfl) (x3 (xa2 (xc8 (xa6 ?_))))))
      exact xa3 Plain.mk' rfl rfl (Le.bool (va4 (by omega) (by simp [*])))
    ·
     refine x6 (x6 ?_)
     refine x8 ?_
     refine R2 xe5 rfl rfl (R1 x5 rfl (x7 (by kernel_rfl) (x3 ?_)))
     refine xc2 rfl (fun h26 => ?_) (fun h26 => ?_)
     ·
      refine xa4 (x3 ?_)
      refine xc2 rfl (fun h26_2 => ?_) (fun h26_2 => ?_)
      ·
       refine x6 ?_
       refine x8 ?_
       refine R1 (x9 fo53_1 rfl) rfl (xa5 (0) ti49 rfl rfl rfl (At.g 1 rfl rfl) rfl (R0 (xe0 (r := tS [⟨2, true, (tS [⟨1, false, (tE (.bool false))⟩, ⟨1, false, (tLm [])⟩])⟩, ⟨2, true, (tS [⟨1, false, (tE (.bool false))⟩, ⟨1, false, (tLm [])⟩])⟩]) (ts := []) bu49 zr49.2 ⟨_, rfl⟩ rfl Le.refl)  (R2 (xa0 (c_FSame _ fr0) fi114 rfl) rfl rfl (R1 x4 rfl ?_))))
       refine RGcaseD (t := 55) rfl (fun h27 => ?_) (fun h27 => ?_)
       ·
        refine RGon (decide_eq_true h27) rfl (x9 fo53_2 rfl) rfl ⟨rfl, trivial⟩ trivial trivial (xb2 (decide_eq_true h27) rfl rfl (0) ti3 rfl rfl rfl (At.g 2 rfl rfl) rfl (RGon (decide_eq_true h27) rfl xg2 rfl ⟨rfl, rfl, trivial⟩ trivial trivial (R2 (xa8 (decide_eq_true h27)) rfl rfl (R1 x4 rfl ?_))))
        refine RGcaseD (t := 60) rfl (fun h27_2 => ?_) (fun h27_2 => ?_)
        ·
         refine RGon (decide_eq_true h27_2) rfl (x9 fo53_2 rfl) rfl ⟨rfl, trivial⟩ trivial trivial (xb2 (decide_eq_true h27_2) rfl rfl (0) ti3 rfl rfl rfl (At.g 2 rfl rfl) rfl (RGon (decide_eq_true h27_2) rfl xg2 rfl ⟨rfl, rfl, trivial⟩ trivial trivial (R2 (xa8 (decide_eq_true h27_2)) rfl rfl (R1 x5 rfl (x7 (by kernel_rfl) (x3 (xa2 ?_)))))))
         refine xc8 (xa6 ?_)
         exact xa3 Plain.mk' rfl rfl (Le.bool (va56 (by omega) (by simp [*])))
        ·
         refine RGoff (decide_eq_false h27_2) rfl rfl (RGoff (decide_eq_false h27_2) rfl rfl (RGoff (decide_eq_false h27_2) rfl rfl (R2 (xa7 (decide_eq_false h27_2)) rfl rfl (R1 x5 rfl (x7 (by kernel_rfl) (x3 (xa2 ?_)))))))
         refine xc8 (xa6 ?_)
         exact xa3 Plain.mk' rfl rfl (Le.bool (va56 (by omega) (by simp [*])))
       ·
        refine RGoff (decide_eq_false h27) rfl rfl (RGoff (decide_eq_false h27) rfl rfl (RGoff (decide_eq_false h27) rfl rfl (R2 (xa7 (decide_eq_false h27)) rfl rfl (R1 x4 rfl (RGoff0 rfl rfl (RGoff0 rfl rfl (RGoff0 rfl rfl ?_)))))))
        refine R2 (xa7 rfl) rfl rfl (R1 x5 rfl (x7 (by kernel_rfl) (x3 (xa2 (xc8 (xa6 ?_))))))
        exact xa3 Plain.mk' rfl rfl (Le.bool (va56 (by omega) (by simp [*])))
      ·
       refine xa4 (xc6 (x3 (x6 ?_)))
       refine x8 ?_
       refine R1 x5 rfl (x7 (by kernel_rfl) (x3 (xa2 ?_)))
       exact xa3 Plain.mk' rfl rfl (Le.bool (va0 (by omega) (by omega) (by omega) (by omega)))
     ·
      refine x8 ?_
      refine R2 xe5 rfl rfl (R1 x5 rfl (x7 (by kernel_rfl) (x3 ?_)))
      refine xc2 rfl (fun h26_2 => ?_) (fun h26_2 => ?_)
      ·
       refine x6 ?_
       refine x8 ?_
       refine R1 (x9 fo53_1 rfl) rfl (xa5 (0) ti49 rfl rfl rfl (At.g 1 rfl rfl) rfl (R0 (xe0 (r := tS [⟨2, true, (tS [⟨1, false, (tE (.bool false))⟩, ⟨1, false, (tLm [])⟩])⟩, ⟨2, true, (tS [⟨1, false, (tE (.bool false))⟩, ⟨1, false, (tLm [])⟩])⟩]) (ts := []) bu49 zr49.2 ⟨_, rfl⟩ rfl Le.refl)  (R2 (xa0 (c_FSame _ fr0) fi114 rfl) rfl rfl (R1 x4 rfl ?_))))
       refine RGcaseD (t := 55) rfl (fun h27 => ?_) (fun h27 => ?_)
       ·
        refine RGon (decide_eq_true h27) rfl (x9 fo53_2 rfl) rfl ⟨rfl, trivial⟩ trivial trivial (xb2 (decide_eq_true h27) rfl rfl (0) ti3 rfl rfl rfl (At.g 2 rfl rfl) rfl (RGon (decide_eq_true h27) rfl xg2 rfl ⟨rfl, rfl, trivial⟩ trivial trivial (R2 (xa8 (decide_eq_true h27)) rfl rfl (R1 x4 rfl ?_))))
        refine RGcaseD (t := 60) rfl (fun h27_2 => ?_) (fun h27_2 => ?_)
        ·
         refine RGon (decide_eq_true h27_2) rfl (x9 fo53_2 rfl) rfl ⟨rfl, trivial⟩ trivial trivial (xb2 (decide_eq_true h27_2) rfl rfl (0) ti3 rfl rfl rfl (At.g 2 rfl rfl) rfl (RGon (decide_eq_true h27_2) rfl xg2 rfl ⟨rfl, rfl, trivial⟩ trivial trivial (R2 (xa8 (decide_eq_true h27_2)) rfl rfl (R1 x5 rfl (x7 (by kernel_rfl) (x3 (xa2 ?_)))))))
         refine xc8 (xa6 ?_)
         exact xa3 Plain.mk' rfl rfl (Le.bool (va56 (by omega) (by simp [*])))
        ·
         refine RGoff (decide_eq_false h27_2) rfl rfl (RGoff (decide_eq_false h27_2) rfl rfl (RGoff (decide_eq_false h27_2) rfl rfl (R2 (xa7 (decide_eq_false h27_2)) rfl rfl (R1 x5 rfl (x7 (by kernel_rfl) (x3 (xa2 ?_)))))))
         refine xc8 (xa6 ?_)
         exact xa3 Plain.mk' rfl rfl (Le.bool (va56 (by omega) (by simp [*])))
       ·
        refine RGoff (decide_eq_false h27) rfl rfl (RGoff (decide_eq_false h27) rfl rfl (RGoff (decide_eq_false h27) rfl rfl (R2 (xa7 (decide_eq_false h27)) rfl rfl (R1 x4 rfl (RGoff0 rfl rfl (RGoff0 rfl rfl (RGoff0 rfl rfl ?_)))))))
        refine R2 (xa7 rfl) rfl rfl (R1 x5 rfl (x7 (by kernel_rfl) (x3 (xa2 (xc8 (xa6 ?_))))))
        exact xa3 Plain.mk' rfl rfl (Le.bool (va56 (by omega) (by simp [*])))
      ·
       refine xa4 (xc6 (x3 (x6 ?_)))
       refine x8 ?_
       refine R1 x5 rfl (x7 (by kernel_rfl) (x3 (xa2 ?_)))
       exact xa3 Plain.mk' rfl rfl (Le.bool (va0 (by omega) (by omega) (by omega) (by omega)))
 ·
  refine x8 ?_
  refine R2 xe5 rfl rfl (R1 x5 rfl (x7 (by kernel_rfl) (x3 ?_)))
  refine xc2 rfl (fun h20_2 => ?_) (fun h20_2 => ?_)
  ·
   refine x6 ?_
   refine x8 ?_
   refine R1 (x9 fo53_2 rfl) rfl (xa5 (0) ti3 rfl rfl rfl (At.g 2 rfl rfl) rfl (R2 xe5 rfl rfl (R1 x4 rfl ?_)))
   refine RGcaseD (t := 11) rfl (fun h21 => ?_) (fun h21 => ?_)
   ·
    refine RGon (decide_eq_true h21) rfl (x9 fo53_1 rfl) rfl ⟨rfl, trivial⟩ trivial trivial (xb2 (decide_eq_true h21) rfl rfl (0) ti49 rfl rfl rfl (At.g 1 rfl rfl) rfl (RGon (decide_eq_true h21) rfl (xa0 (c_FValid _ hD.1 hD.2) fi78 rfl) rfl ⟨rfl, trivial⟩ trivial trivial (R2 (xa8 (decide_eq_true h21)) rfl rfl (R1 x5 rfl (x7 (by kernel_rfl) (x3 (xa2 ?_)))))))
    refine xc8 (xa6 ?_)
    exact xa3 Plain.mk' rfl rfl (Le.bool (va23 (by omega) (by first | (simp [*]; done) | simp [*])))
   ·
    refine RGoff (decide_eq_false h21) rfl rfl (RGoff (decide_eq_false h21) rfl rfl (RGoff (decide_eq_false h21) rfl rfl (R2 (xa7 (decide_eq_false h21)) rfl rfl (R1 x5 rfl (x7 (by kernel_rfl) (x3 (xa2 ?_)))))))
    refine xc8 (xa6 ?_)
    exact xa3 Plain.mk' rfl rfl (Le.bool (va23 (by omega) (by first | (simp [*]; done) | simp [*])))
  ·
   refine x6 ?_
   refine x8 ?_
   refine R2 xe5 rfl rfl (R1 x5 rfl (x7 (by kernel_rfl) (x3 ?_)))
   refine xc2 rfl (fun h22 => ?_) (fun h22 => ?_)
   ·
    refine x6 ?_
    refine x8 ?_
    refine R1 (x9 fo53_1 rfl) rfl (xa5 (0) ti49 rfl rfl rfl (At.g 1 rfl rfl) rfl (R0 (xe0 (r := tS [⟨2, true, (tS [⟨1, false, (tE (.bool false))⟩, ⟨1, false, (tLm [])⟩])⟩, ⟨2, true, (tS [⟨1, false, (tE (.bool false))⟩, ⟨1, false, (tLm [])⟩])⟩]) (ts := []) bu49 zr49.2 ⟨_, rfl⟩ rfl Le.refl)  (R2 (xa0 (c_FSame _ fr0) fi114 rfl) rfl rfl (R1 x4 rfl ?_))))
    refine RGcaseD (t := 22) rfl (fun h23 => ?_) (fun h23 => ?_)
    ·
     refine RGon (decide_eq_true h23) rfl (x9 fo53_2 rfl) rfl ⟨rfl, trivial⟩ trivial trivial (xb2 (decide_eq_true h23) rfl rfl (0) ti3 rfl rfl rfl (At.g 2 rfl rfl) rfl (RGon (decide_eq_true h23) rfl xg2 rfl ⟨rfl, rfl, trivial⟩ trivial trivial (R2 (xa8 (decide_eq_true h23)) rfl rfl (R1 x4 rfl ?_))))
     refine RGcaseD (t := 27) rfl (fun h23_2 => ?_) (fun h23_2 => ?_)
     ·
      refine RGon (decide_eq_true h23_2) rfl (x9 fo53_2 rfl) rfl ⟨rfl, trivial⟩ trivial trivial (xb2 (decide_eq_true h23_2) rfl rfl (0) ti3 rfl rfl rfl (At.g 2 rfl rfl) rfl (RGon (decide_eq_true h23_2) rfl xg2 rfl ⟨rfl, rfl, trivial⟩ trivial trivial (R2 (xa8 (decide_eq_true h23_2)) rfl rfl (R1 x5 rfl (x7 (by kernel_rfl) (x3 (xa2 ?_)))))))
      refine xc8 (xa6 ?_)
      exact xa3 Plain.mk' rfl rfl (Le.bool (va1 (by omega) (by simp [*])))
     ·
      refine RGoff (decide_eq_false h23_2) rfl rfl (RGoff (decide_eq_false h23_2) rfl rfl (RGoff (decide_eq_false h23_2) rfl rfl (R2 (xa7 (decide_eq_false h23_2)) rfl rfl (R1 x5 rfl (x7 (by kernel_rfl) (x3 (xa2 ?_)))))))
      refine xc8 (xa6 ?_)
      exact xa3 Plain.mk' rfl rfl (Le.bool (va1 (by omega) (by simp [*])))
    ·
     refine RGoff (decide_eq_false h23) rfl rfl (RGoff (decide_eq_false h23) rfl rfl (RGoff (decide_eq_false h23) rfl rfl (R2 (xa7 (decide_eq_false h23)) rfl rfl (R1 x4 rfl (RGoff0 rfl rfl (RGoff0 rfl rfl (RGoff0 rfl rfl ?_)))))))
     refine R2 (xa7 rfl) rfl rfl (R1 x5 rfl (x7 (by kernel_rfl) (x3 (xa2 (xc8 (xa6 ?_))))))
     exact xa3 Plain.mk' rfl rfl (Le.bool (va1 (by omega) (by simp [*])))
   ·
    refine x6 ?_
    refine x8 ?_
    refine R2 xe5 rfl rfl (R1 x5 rfl (x7 (by kernel_rfl) (x3 ?_)))
    refine xc2 rfl (fun h24 => ?_) (fun h24 => ?_)
    ·
     refine x6 ?_
     refine x8 ?_
     refine R1 (x9 fo53_1 rfl) rfl (xa5 (0) ti49 rfl rfl rfl (At.g 1 rfl rfl) rfl (R0 (xe0 (r := tS [⟨2, true, (tS [⟨1, false, (tE (.bool false))⟩, ⟨1, false, (tLm [])⟩])⟩, ⟨2, true, (tS [⟨1, false, (tE (.bool false))⟩, ⟨1, false, (tLm [])⟩])⟩]) (ts := []) bu49 zr49.2 ⟨_, rfl⟩ rfl Le.refl)  (R2 (xa0 (c_FSame _ fr0) fi114 rfl) rfl rfl (R1 x4 rfl ?_))))
     refine RGcaseD (t := 38) rfl (fun h25 => ?_) (fun h25 => ?_)
     ·
      refine RGon (decide_eq_true h25) rfl (x9 fo53_2 rfl) rfl ⟨rfl, trivial⟩ trivial trivial (xb2 (decide_eq_true h25) rfl rfl (0) ti3 rfl rfl rfl (At.g 2 rfl rfl) rfl (RGon (decide_eq_true h25) rfl xg2 rfl ⟨rfl, rfl, trivial⟩ trivial trivial (R2 (xa8 (decide_eq_true h25)) rfl rfl (R1 x4 rfl ?_))))
      refine RGcaseD (t := 43) rfl (fun h25_2 => ?_) (fun h25_2 => ?_)
      ·
       refine RGon (decide_eq_true h25_2) rfl (x9 fo53_2 rfl) rfl ⟨rfl, trivial⟩ trivial trivial (xb2 (decide_eq_true h25_2) rfl rfl (0) ti3 rfl rfl rfl (At.g 2 rfl rfl) rfl (RGon (decide_eq_true h25_2) rfl xd5 rfl ⟨rfl, rfl, trivial⟩ trivial trivial (R2 (xa8 (decide_eq_true h25_2)) rfl rfl (R1 x5 rfl (x7 (by kernel_rfl) (x3 (xa2 ?_)))))))
       refine xc8 (xa6 ?_)
       exact xa3 Plain.mk' rfl rfl (Le.bool (va4 (by omega) (by simp [*])))
      ·
       refine RGoff (decide_eq_false h25_2) rfl rfl (RGoff (decide_eq_false h25_2) rfl rfl (RGoff (decide_eq_false h25_2) rfl rfl (R2 (xa7 (decide_eq_false h25_2)) rfl rfl (R1 x5 rfl (x7 (by kernel_rfl) (x3 (xa2 ?_)))))))
       refine xc8 (xa6 ?_)
       exact xa3 Plain.mk' rfl rfl (Le.bool (va4 (by omega) (by simp [*])))
     ·
      refine RGoff (decide_eq_false h25) rfl rfl (RGoff (decide_eq_false h25) rfl rfl (RGoff (decide_eq_false h25) rfl rfl (R2 (xa7 (decide_eq_false h25)) rfl rfl (R1 x4 rfl (RGoff0 rfl rfl (RGoff0 rfl rfl (RGoff0 rfl rfl ?_)))))))
      refine R2 (xa7 rfl) rfl rfl (R1 x5 rfl (x7 (by kernel_rfl) (x3 (xa2 (xc8 (xa6 ?_))))))
      exact xa3 Plain.mk' rfl rfl (Le.bool (va4 (by omega) (by simp [*])))
    ·
     refine x6 (x6 ?_)
     refine x8 ?_
     refine R2 xe5 rfl rfl (R1 x5 rfl (x7 (by kernel_rfl) (x3 ?_)))
     refine xc2 rfl (fun h26 => ?_) (fun h26 => ?_)
     ·
      refine xa4 (x3 ?_)
      refine xc2 rfl (fun h26_2 => ?_) (fun h26_2 => ?_)
      ·
       refine x6 ?_
       refine x8 ?_
       refine R1 (x9 fo53_1 rfl) rfl (xa5 (0) ti49 rfl rfl rfl (At.g 1 rfl rfl) rfl (R0 (xe0 (r := tS [⟨2, true, (tS [⟨1, false, (tE (.bool false))⟩, ⟨1, false, (tLm [])⟩])⟩, ⟨2, true, (tS [⟨1, false, (tE (.bool false))⟩, ⟨1, false, (tLm [])⟩])⟩]) (ts := []) bu49 zr49.2 ⟨_, rfl⟩ rfl Le.refl)  (R2 (xa0 (c_FSame _ fr0) fi114 rfl) rfl rfl (R1 x4 rfl ?_))))
       refine RGcaseD (t := 55) rfl (fun h27 => ?_) (fun h27 => ?_)
       ·
        refine RGon (decide_eq_true h27) rfl (x9 fo53_2 rfl) rfl ⟨rfl, trivial⟩ trivial trivial (xb2 (decide_eq_true h27) rfl rfl (0) ti3 rfl rfl rfl (At.g 2 rfl rfl) rfl (RGon (decide_eq_true h27) rfl xg2 rfl ⟨rfl, rfl, trivial⟩ trivial trivial (R2 (xa8 (decide_eq_true h27)) rfl rfl (R1 x4 rfl ?_))))
        refine RGcaseD (t := 60) rfl (fun h27_2 => ?_) (fun h27_2 => ?_)
        ·
         refine RGon (decide_eq_true h27_2) rfl (x9 fo53_2 rfl) rfl ⟨rfl, trivial⟩ trivial trivial (xb2 (decide_eq_true h27_2) rfl rfl (0) ti3 rfl rfl rfl (At.g 2 rfl rfl) rfl (RGon (decide_eq_true h27_2) rfl xg2 rfl ⟨rfl, rfl, trivial⟩ trivial trivial (R2 (xa8 (decide_eq_true h27_2)) rfl rfl (R1 x5 rfl (x7 (by kernel_rfl) (x3 (xa2 ?_)))))))
         refine xc8 (xa6 ?_)
         exact xa3 Plain.mk' rfl rfl (Le.bool (va56 (by omega) (by simp [*])))
        ·
         refine RGoff (decide_eq_false h27_2) rfl rfl (RGoff (decide_eq_false h27_2) rfl rfl (RGoff (decide_eq_false h27_2) rfl rfl (R2 (xa7 (decide_eq_false h27_2)) rfl rfl (R1 x5 rfl (x7 (by kernel_rfl) (x3 (xa2 ?_)))))))
         refine xc8 (xa6 ?_)
         exact xa3 Plain.mk' rfl rfl (Le.bool (va56 (by omega) (by simp [*])))
       ·
        refine RGoff (decide_eq_false h27) rfl rfl (RGoff (decide_eq_false h27) rfl rfl (RGoff (decide_eq_false h27) rfl rfl (R2 (xa7 (decide_eq_false h27)) rfl rfl (R1 x4 rfl (RGoff0 rfl rfl (RGoff0 rfl rfl (RGoff0 rfl rfl ?_)))))))
        refine R2 (xa7 rfl) rfl rfl (R1 x5 rfl (x7 (by kernel_rfl) (x3 (xa2 (xc8 (xa6 ?_))))))
        exact xa3 Plain.mk' rfl rfl (Le.bool (va56 (by omega) (by simp [*])))
      ·
       refine xa4 (xc6 (x3 (x6 ?_)))
       refine x8 ?_
       refine R1 x5 rfl (x7 (by kernel_rfl) (x3 (xa2 ?_)))
       exact xa3 Plain.mk' rfl rfl (Le.bool (va0 (by omega) (by omega) (by omega) (by omega)))
     ·
      refine x8 ?_
      refine R2 xe5 rfl rfl (R1 x5 rfl (x7 (by kernel_rfl) (x3 ?_)))
      refine xc2 rfl (fun h26_2 => ?_) (fun h26_2 => ?_)
      ·
       refine x6 ?_
       refine x8 ?_
       refine R1 (x9 fo53_1 rfl) rfl (xa5 (0) ti49 rfl rfl rfl (At.g 1 rfl rfl) rfl (R0 (xe0 (r := tS [⟨2, true, (tS [⟨1, false, (tE (.bool false))⟩, ⟨1, false, (tLm [])⟩])⟩, ⟨2, true, (tS [⟨1, false, (tE (.bool false))⟩, ⟨1, false, (tLm [])⟩])⟩]) (ts := []) bu49 zr49.2 ⟨_, rfl⟩ rfl Le.refl)  (R2 (xa0 (c_FSame _ fr0) fi114 rfl) rfl rfl (R1 x4 rfl ?_))))
       refine RGcaseD (t := 55) rfl (fun h27 => ?_) (fun h27 => ?_)
       ·
        refine RGon (decide_eq_true h27) rfl (x9 fo53_2 rfl) rfl ⟨rfl, trivial⟩ trivial trivial (xb2 (decide_eq_true h27) rfl rfl (0) ti3 rfl rfl rfl (At.g 2 rfl rfl) rfl (RGon (decide_eq_true h27) rfl xg2 rfl ⟨rfl, rfl, trivial⟩ trivial trivial (R2 (xa8 (decide_eq_true h27)) rfl rfl (R1 x4 rfl ?_))))
        refine RGcaseD (t := 60) rfl (fun h27_2 => ?_) (fun h27_2 => ?_)
        ·
         refine RGon (decide_eq_true h27_2) rfl (x9 fo53_2 rfl) rfl ⟨rfl, trivial⟩ trivial trivial (xb2 (decide_eq_true h27_2) rfl rfl (0) ti3 rfl rfl rfl (At.g 2 rfl rfl) rfl (RGon (decide_eq_true h27_2) rfl xg2 rfl ⟨rfl, rfl, trivial⟩ trivial trivial (R2 (xa8 (decide_eq_true h27_2)) rfl rfl (R1 x5 rfl (x7 (by kernel_rfl) (x3 (xa2 ?_)))))))
         refine xc8 (xa6 ?_)
         exact xa3 Plain.mk' rfl rfl (Le.bool (va56 (by omega) (by simp [*])))
        ·
         refine RGoff (decide_eq_false h27_2) rfl rfl (RGoff (decide_eq_false h27_2) rfl rfl (RGoff (decide_eq_false h27_2) rfl rfl (R2 (xa7 (decide_eq_false h27_2)) rfl rfl (R1 x5 rfl (x7 (by kernel_rfl) (x3 (xa2 ?_)))))))
         refine xc8 (xa6 ?_)
         exact xa3 Plain.mk' rfl rfl (Le.bool (va56 (by omega) (by simp [*])))
       ·
        refine RGoff (decide_eq_false h27) rfl rfl (RGoff (decide_eq_false h27) rfl rfl (RGoff (decide_eq_false h27) rfl rfl (R2 (xa7 (decide_eq_false h27)) rfl rfl (R1 x4 rfl (RGoff0 rfl rfl (RGoff0 rfl rfl (RGoff0 rfl rfl ?_)))))))
        refine R2 (xa7 rfl) rfl rfl (R1 x5 rfl (x7 (by kernel_rfl) (x3 (xa2 (xc8 (xa6 ?_))))))
        exact xa3 Plain.mk' rfl rfl (Le.bool (va56 (by omega) (by simp [*])))
      ·
       refine xa4 (xc6 (x3 (x6 ?_)))
       refine x8 ?_
       refine R1 x5 rfl (x7 (by kernel_rfl) (x3 (xa2 ?_)))
       exact xa3 Plain.mk' rfl rfl (Le.bool (va0 (by omega) (by omega) (by omega) (by omega)))
end An.S

/- Layer 5: timelines are checked; the first step that fits. Plain data. -/
namespace An
open Go
theorem ranges_stop {n i : Nat} {f : Nat → Bool} (hi : i < n) (h : f i = false) : (List.range n).all f = false := by
  rw [List.all_eq_false]
  exact ⟨i, List.mem_range.2 hi, by simp [h]⟩
theorem ranges_next {i : Nat} {f : Nat → Bool} : (List.range (i + 1)).all f = ((List.range i).all f && f i) := by
  rw [List.range_succ, List.all_append]; simp
theorem tOk_iff {l : List Tst} {i : Nat} : tOk l i = true ↔ 0 ≤ (l.getD i tst0).lo ∧ (l.getD i tst0).lo < (l.getD i tst0).hi ∧ (l.getD i tst0).hi ≤ 65536 ∧ (i = 0 ∨ (l.getD (i - 1) tst0).hi ≤ (l.getD i tst0).lo ∧ (l.getD (i - 1) tst0).v.kind = (l.getD i tst0).v.kind ∧ ¬ ((l.getD (i - 1) tst0).hi = (l.getD i tst0).lo ∧ (l.getD (i - 1) tst0).v = (l.getD i tst0).v)) := by
  simp only [tOk, Bool.and_eq_true, Bool.or_eq_true, Bool.not_eq_true', Bool.and_eq_false_iff, decide_eq_true_eq, decide_eq_false_iff_not, and_assoc, Decidable.not_and_iff_not_or_not]
theorem tRight_bad {l : List Tst} {i : Nat} (hi : i < l.length) (h : ¬ (0 ≤ (l.getD i tst0).lo ∧ (l.getD i tst0).lo < (l.getD i tst0).hi ∧ (l.getD i tst0).hi ≤ 65536 ∧ (i = 0 ∨ (l.getD (i - 1) tst0).hi ≤ (l.getD i tst0).lo ∧ (l.getD (i - 1) tst0).v.kind = (l.getD i tst0).v.kind ∧ ¬ ((l.getD (i - 1) tst0).hi = (l.getD i tst0).lo ∧ (l.getD (i - 1) tst0).v = (l.getD i tst0).v)))) : false = tRight l := by
  rw [tRight, ranges_stop hi (Bool.eq_false_iff.2 fun h' => h (tOk_iff.1 h'))]; rfl
/-- The index of the first step that fits, or -1. -/
def ixF (p : Tst → Bool) (l : List Tst) : Int := if l.any p then ((l.takeWhile fun s => !p s).length : Int) else -1
theorem ixF_at {p : Tst → Bool} : ∀ {l : List Tst} {i : Nat}, i < l.length → (l.take i).any p = false → p (l.getD i tst0) = true → (i : Int) = ixF p l
  | [], i, hi, _, _ => by simp at hi
  | x :: xs, 0, _, _, h => by
    have h : p x = true := h
    simp [ixF, h]
  | x :: xs, i + 1, hi, ha, h => by
    simp only [List.take_succ_cons, List.any_cons, Bool.or_eq_false_iff] at ha
    have h2 : p (xs.getD i tst0) = true := by simpa using h
    have hi2 : i < xs.length := by simpa using hi
    have ih := ixF_at hi2 ha.2 h2
    have hany : xs.any p = true := List.any_eq_true.2 ⟨xs.getD i tst0, by rw [List.getD_eq_getElem?_getD, List.getElem?_eq_getElem hi2]; exact List.getElem_mem hi2, h2⟩
    rw [ixF, if_pos hany] at ih
    simp only [ixF, List.any_cons, ha.1, hany, Bool.or_true, if_true, Bool.not_false, List.takeWhile_cons, List.length_cons]
    omega
theorem ixF_end {p : Tst → Bool} {l : List Tst} (h : l.any p = false) : -1 = ixF p l := by simp [ixF, h]
theorem ixF_any {p : Tst → Bool} {l : List Tst} : decide (ixF p l ≥ 0) = l.any p := by
  rw [ixF]
  cases l.any p with
  | true => simp
  | false => simp
theorem any_next {p : Tst → Bool} {l : List Tst} {i : Nat} (hi : i < l.length) : (l.take (i + 1)).any p = ((l.take i).any p || p (l.getD i tst0)) := by
  rw [List.take_succ_eq_append_getElem hi, List.any_append, List.getD_eq_getElem?_getD, List.getElem?_eq_getElem hi]; simp
theorem all_any {l : List Tst} : (!l.any fun s => !s.v.valid) = l.all fun s => s.v.valid := by
  rw [List.not_any_eq_all_not]; simp
theorem xf5 {l : List Tst} {i : Nat} (hi : i < l.length) : l.getD i tst0 ∈ l := by
  rw [List.getD_eq_getElem?_getD, List.getElem?_eq_getElem hi]; exact List.getElem_mem hi
theorem xi9 {l : List Tst} (h : tRight l = true) : ∀ s ∈ l, s.v.valid = true := by
  simp only [tRight, Bool.and_eq_true, List.all_eq_true] at h; exact h.2
theorem va_len {v : Va} (h : v.valid = true) : v.f.n.l.length ≤ 256 ∧ v.f.d.l.length ≤ 256 := by
  have z : fr0.n.l.length ≤ 256 ∧ fr0.d.l.length ≤ 256 := by decide
  rw [Va.valid] at h
  split at h
  · simp only [Bool.and_eq_true, Fr.valid, Fr.sh, decide_eq_true_eq] at h
    exact h.2.1.1.1.1
  · split at h
    · simp only [Bool.and_eq_true, decide_eq_true_eq] at h; rw [h.1.1]; exact z
    · split at h
      · simp only [Bool.and_eq_true, decide_eq_true_eq] at h; rw [h.1.1]; exact z
      · split at h
        · simp only [Bool.and_eq_true, decide_eq_true_eq] at h; rw [h.1.1]; exact z
        · cases h
/-- A piece, behind a timeline. -/
def pst1 (acc : List Tst) (s : Tst) : List Tst :=
  if s.hi ≤ s.lo then acc
  else if 0 < acc.length ∧ (acc.getD (acc.length - 1) tst0).hi = s.lo ∧ (acc.getD (acc.length - 1) tst0).v = s.v then acc.set (acc.length - 1) ⟨(acc.getD (acc.length - 1) tst0).lo, s.hi, (acc.getD (acc.length - 1) tst0).v⟩
  else acc ++ [s]
def pst (acc ps : List Tst) : List Tst := ps.foldl pst1 acc
def clip (a b : Int) (s : Tst) : Tst := ⟨max s.lo a, min s.hi b, s.v⟩
def cutT (l : List Tst) (a b : Int) : List Tst := pst [] (l.map (clip a b))
theorem pst1_len (acc : List Tst) (s : Tst) : (pst1 acc s).length ≤ acc.length + 1 := by
  rw [pst1]; split
  · omega
  · split
    · simp
    · simp
theorem pst_len : ∀ (ps acc : List Tst), (pst acc ps).length ≤ acc.length + ps.length
  | [], acc => by simp [pst]
  | s :: r, acc => by
    have h1 := pst_len r (pst1 acc s)
    have h2 := pst1_len acc s
    simp only [pst, List.foldl_cons, List.length_cons] at *
    omega
theorem pst_snoc {l : List Tst} {i : Nat} (acc : List Tst) (hi : i < l.length) : pst acc (l.take (i + 1)) = pst1 (pst acc (l.take i)) (l.getD i tst0) := by
  rw [List.take_succ_eq_append_getElem hi, pst, List.foldl_append, List.getD_eq_getElem?_getD, List.getElem?_eq_getElem hi]; rfl
end An

/- Layer 5: timelines are checked. -/
namespace An.S
open Go Go.Proofs An
set_option maxHeartbeats 2000000
theorem sl88 : SlI Tryz.prog 88 103 8 true := ⟨Tryz.underlying88, ti103⟩
theorem fo103_0 : fieldO Tryz.prog 103 0 = some 0 := by kernel_rfl
theorem fo103_1 : fieldO Tryz.prog 103 1 = some 1 := by kernel_rfl
theorem fo103_2 : fieldO Tryz.prog 103 2 = some 2 := by kernel_rfl
theorem fi66 : FnI Tryz.prog 66 := ⟨_, Tryz.func66, by kernel_rfl, rfl⟩
theorem fi68 : FnI Tryz.prog 68 := ⟨_, Tryz.func68, by kernel_rfl, rfl⟩
theorem fi152 : FnI Tryz.prog 152 := ⟨_, Tryz.func152, by kernel_rfl, rfl⟩
theorem fi153 : FnI Tryz.prog 153 := ⟨_, Tryz.func153, by kernel_rfl, rfl⟩
theorem fi195 : FnI Tryz.prog 195 := ⟨_, Tryz.func195, by kernel_rfl, rfl⟩
theorem c_TRight1 (s : Tst) (hD : s.v.f.dig) :
  Ct Tryz.prog 153 [tTs s] (tB (!s.v.valid)) := by
 refine Ct.intro Tryz.func153 rfl Tryz.ntmps153 rfl ?_
 intro w F
 refine x6 ?_
 refine x8 ?_
 refine RE (xd2 (k := 1) ti103 rfl) ⟨rfl, trivial⟩ trivial ⟨rfl, trivial⟩ (R1 x5 rfl (x7 (by kernel_rfl) (x3 (x6 ?_))))
 refine x8 ?_
 refine R1 (x9 fo103_2 rfl) rfl (xa5 (0) ti53 rfl rfl rfl (At.g 2 rfl rfl) rfl (R1 (xa0 (c_TValid s.v hD) fi66 rfl) rfl (R1 xe7 rfl (R1 x5 rfl (x7 (by kernel_rfl) (x3 (xa2 ?_)))))))
 exact xa3 Plain.mk' rfl rfl Le.refl
theorem c_TIndex (l : List Tst) (hD : ∀ s ∈ l, s.v.f.dig) :
  Ct Tryz.prog 195 [tL 8 true tTs l, tE (.func (.func 153) #[] #[])] (tI (ixF (fun s : Tst => !s.v.valid) l)) := by
 refine Ct.intro Tryz.func195 rfl Tryz.ntmps195 rfl ?_
 intro w F
 refine C_len (s := 0) rfl (fun hl0 => ?_)
 refine x6 ?_
 refine x8 ?_
 refine R1 x5 rfl (x7 (by kernel_rfl) (x3 (x6 (x6 ?_))))
 refine x8 ?_
 refine R1 x4 rfl (R1 (xb9 Tryz.underlying88) rfl (R1 x4 rfl (x7 (by kernel_rfl) (x3 (xa9 ?_)))))
 refine xd6 (fun (i : Nat) => i ≤ l.length ∧ (l.take i).any (fun s : Tst => !s.v.valid) = false) (fun (i : Nat) => upd (upd (upd (upd (fun _ => none) 0 (some (.val (tL 8 true tTs l)))) 1 (some (.val (tE (.func (.func 153) #[] #[]))))) 7 (some (.val (tI l.length)))) 8 (some (.val (tI i)))) (fun (i : Nat) => fun _ => none) (nm []) (fun (i : Nat) => l.length - i) (0) ⟨Nat.zero_le _, rfl⟩ (Sub.int rfl (by first | omega | rfl | (dsimp only; omega)) (Sub.int rfl (by first | omega | rfl | (dsimp only; omega)) (Sub.cons rfl (Sub.cons rfl Sub.nil)))) SubK.nil (SupG.val (SupG.val (SupG.val (SupG.val SupG.nil)))) SupH.nil (lkOk rfl) ?_
 intro i hI
 obtain ⟨hi, ha⟩ := hI
 refine x6 ?_
 refine x8 ?_
 refine R2 xd5 rfl rfl (x7 (by kernel_rfl) (x3 (x6 ?_)))
 refine xc2 rfl (fun h108 => ?_) (fun h108 => ?_)
 ·
  refine xa4 (x3 (x6 (xa9 (x6 ?_))))
  refine x8 ?_
  refine R1 x4 rfl (R1 x5 rfl (x7 (by kernel_rfl) (x3 (x6 ?_))))
  refine x8 ?_
  refine R1 x4 rfl (R1 x4 rfl (R1 x4 rfl (R2 (xb8 sl88 (i) (by omega) (gD (l := l) (n := i) (d := tst0) (by omega))) rfl rfl (R1 (xc1 ti103) rfl (R2 (d_callF (c_TRight1 (l.getD i tst0) (hD _ (xf5 (by omega)))) fi153 rfl) rfl rfl (x7 (by kernel_rfl) (x3 ?_)))))))
  refine xg6 rfl (fun h109 => ?_) (fun h109 => ?_)
  ·
   refine x6 ?_
   refine x8 ?_
   refine R1 x4 rfl (R1 x5 rfl (x7 (by kernel_rfl) (x3 (xa2 (xc8 (xa6 (xa6 ?_)))))))
   refine xc8 (xa6 ?_)
   exact xa3 Plain.mk' rfl rfl (Le.int (ixF_at (by omega) ha h109))
  ·
   refine xa4 (xc6 (x3 ?_))
   refine x8 ?_
   refine R2 (xc4 (wr64 (by omega) (by omega))) rfl rfl (R1 x4 rfl (x7 (by kernel_rfl) ?_))
   exact xc7 (i + 1) ⟨⟨by omega, by rw [any_next (by omega), ha, h109]; rfl⟩, (by omega)⟩ (Sub.int rfl (by first | omega | rfl | (dsimp only; omega)) (Sub.int rfl (by first | omega | rfl | (dsimp only; omega)) (Sub.cons rfl (Sub.cons rfl Sub.nil)))) SubK.nil (SupG.val (SupG.val (SupG.val (SupG.val SupG.nil)))) SupH.nil (lkOk rfl)
 ·
  refine xd1 (xc0 (xc0 (xd8 (x3 (x6 ?_)))))
  refine x8 ?_
  refine R1 x5 rfl (x7 (by kernel_rfl) (x3 (xa2 ?_)))
  exact xa3 Plain.mk' rfl rfl (Le.int (ixF_end (by rw [← ha, show i = l.length by omega, List.take_length])))
theorem c_TContains (l : List Tst) (hD : ∀ s ∈ l, s.v.f.dig) :
  Ct Tryz.prog 152 [tL 8 true tTs l, tE (.func (.func 153) #[] #[])] (tB (l.any (fun s : Tst => !s.v.valid))) := by
 refine Ct.intro Tryz.func152 rfl Tryz.ntmps152 rfl ?_
 intro w F
 refine x6 ?_
 refine x8 ?_
 refine R1 x5 rfl (x7 (by kernel_rfl) (x3 (x6 ?_)))
 refine x8 ?_
 refine R1 x4 rfl (R1 x4 rfl (R2 (xa0 (c_TIndex l hD) fi195 rfl) rfl rfl (R2 d_geq rfl rfl (R1 x5 rfl (x7 (by kernel_rfl) (x3 (xa2 ?_)))))))
 exact xa3 Plain.mk' rfl rfl (Le.bool ixF_any)
theorem c_TRight (l : List Tst) (hD : ∀ s ∈ l, s.v.f.dig) :
  Ct Tryz.prog 103 [tL 8 true tTs l] (tB (tRight l)) := by
 refine Ct.intro Tryz.func103 rfl Tryz.ntmps103 rfl ?_
 intro w F
 refine C_len (s := 0) rfl (fun hl0 => ?_)
 refine x6 ?_
 refine x8 ?_
 refine R1 x5 rfl (x7 (by kernel_rfl) (x3 (x6 (x6 ?_))))
 refine x8 ?_
 refine R1 x4 rfl (R1 (xb9 Tryz.underlying88) rfl (R1 x4 rfl (x7 (by kernel_rfl) (x3 (xa9 ?_)))))
 refine xd6 (fun (i : Nat) => i ≤ l.length ∧ (List.range i).all (tOk l) = true) (fun (i : Nat) => upd (upd (upd (upd (fun _ => none) 0 (some (.val (tL 8 true tTs l)))) 6 (some (.val (tL 8 true tTs l)))) 7 (some (.val (tI l.length)))) 8 (some (.val (tI i)))) (fun (i : Nat) => fun _ => none) (nm []) (fun (i : Nat) => l.length - i) (0) ⟨Nat.zero_le _, rfl⟩ (Sub.int rfl (by first | omega | rfl | (dsimp only; omega)) (Sub.int rfl (by first | omega | rfl | (dsimp only; omega)) (Sub.cons rfl (Sub.cons rfl Sub.nil)))) SubK.nil (SupG.val (SupG.val (SupG.val (SupG.val SupG.nil)))) SupH.nil (lkOk rfl) ?_
 intro i hI
 obtain ⟨hi, ha⟩ := hI
 refine x6 ?_
 refine x8 ?_
 refine R2 xd5 rfl rfl (x7 (by kernel_rfl) (x3 (x6 ?_)))
 refine xc2 rfl (fun h39 => ?_) (fun h39 => ?_)
 ·
  refine xa4 (x3 (x6 (xa9 (x6 ?_))))
  refine x8 ?_
  refine R1 x4 rfl (R2 (xb8 sl88 (i) (by omega) (gD (l := l) (n := i) (d := tst0) (by omega))) rfl rfl (R1 (xc1 ti103) rfl (RE (xc9 (k := 4) (n := 8) (agg := true) zr103.1 zr103.2 rfl) trivial trivial ⟨rfl, trivial⟩ (R1 x5 rfl (RE (xb0 (es := 8) (agg := true) (0) ti103 rfl rfl rfl) ⟨rfl, rfl, trivial⟩ ⟨rfl, trivial⟩ trivial (x7 (by kernel_rfl) (x3 ?_)))))))
  refine x6 (x6 ?_)
  refine x8 ?_
  refine R1 (x9 fo103_0 rfl) rfl (xa5 (0) ti3 rfl rfl rfl (At.g 0 rfl rfl) rfl (R2 xd5 rfl rfl (R1 x4 rfl ?_)))
  refine RGcaseD (t := 16) rfl (fun h40 => ?_) (fun h40 => ?_)
  ·
   refine RGoff (decide_eq_true h40) rfl rfl (RGoff (decide_eq_true h40) rfl rfl (RGoff (decide_eq_true h40) rfl rfl (RGoff (decide_eq_true h40) rfl rfl (RGoff (decide_eq_true h40) rfl rfl (R2 (xa8 (decide_eq_true h40)) rfl rfl (R1 x4 rfl (RGoff1 rfl rfl ?_)))))))
   refine RGoff1 rfl rfl (RGoff1 rfl rfl (R2 (xa8 rfl) rfl rfl (x7 (by kernel_rfl) (x3 (C_bT rfl rfl (x6 ?_))))))
   refine x8 ?_
   refine R1 x5 rfl (x7 (by kernel_rfl) (x3 (xa2 (xa6 (xc8 (xa6 (xa6 ?_)))))))
   refine xc8 (xa6 ?_)
   exact xa3 Plain.mk' rfl rfl (Le.bool (tRight_bad (i := i) (by omega) (by omega)))
  ·
   refine RGon (decide_eq_false h40) rfl (x9 fo103_0 rfl) rfl ⟨rfl, trivial⟩ trivial trivial (xb2 (decide_eq_false h40) rfl rfl (0) ti3 rfl rfl rfl (At.g 0 rfl rfl) rfl (RGon (decide_eq_false h40) rfl (x9 fo103_1 rfl) rfl ⟨rfl, trivial⟩ trivial trivial (xb2 (decide_eq_false h40) rfl rfl (0) ti3 rfl rfl rfl (At.g 1 rfl rfl) rfl (RGon (decide_eq_false h40) rfl d_geq rfl ⟨rfl, rfl, trivial⟩ trivial trivial (R2 (xa7 (decide_eq_false h40)) rfl rfl (R1 x4 rfl ?_))))))
   refine RGcaseD (t := 23) rfl (fun h40_2 => ?_) (fun h40_2 => ?_)
   ·
    refine RGoff (decide_eq_true h40_2) rfl rfl (RGoff (decide_eq_true h40_2) rfl rfl (RGoff (decide_eq_true h40_2) rfl rfl (R2 (xa8 (decide_eq_true h40_2)) rfl rfl (x7 (by kernel_rfl) (x3 (C_bT rfl rfl (x6 ?_)))))))
    refine x8 ?_
    refine R1 x5 rfl (x7 (by kernel_rfl) (x3 (xa2 (xa6 (xc8 (xa6 (xa6 ?_)))))))
    refine xc8 (xa6 ?_)
    exact xa3 Plain.mk' rfl rfl (Le.bool (tRight_bad (i := i) (by omega) (by omega)))
   ·
    refine RGon (decide_eq_false h40_2) rfl (x9 fo103_1 rfl) rfl ⟨rfl, trivial⟩ trivial trivial (xb2 (decide_eq_false h40_2) rfl rfl (0) ti3 rfl rfl rfl (At.g 1 rfl rfl) rfl (RGon (decide_eq_false h40_2) rfl d_gtr rfl ⟨rfl, rfl, trivial⟩ trivial trivial (R2 (xa7 (decide_eq_false h40_2)) rfl rfl (x7 (by kernel_rfl) (x3 ?_)))))
    refine xc2 rfl (fun h40_3 => ?_) (fun h40_3 => ?_)
    ·
     refine x6 ?_
     refine x8 ?_
     refine R1 x5 rfl (x7 (by kernel_rfl) (x3 (xa2 (xa6 (xc8 (xa6 (xa6 ?_)))))))
     refine xc8 (xa6 ?_)
     exact xa3 Plain.mk' rfl rfl (Le.bool (tRight_bad (i := i) (by omega) (by omega)))
    ·
     refine xa4 (x3 (x6 (x6 ?_)))
     refine x8 ?_
     refine R1 x4 rfl (R2 xe5 rfl rfl (x7 (by kernel_rfl) (x3 ?_)))
     refine xc2 rfl (fun h43 => ?_) (fun h43 => ?_)
     ·
      refine xd1 (xc0 (xd8 (x3 ?_)))
      refine x8 ?_
      refine R2 (xc4 (wr64 (by omega) (by omega))) rfl rfl (R1 x4 rfl (x7 (by kernel_rfl) ?_))
      have hok : tOk l i = true := tOk_iff.2 ⟨by omega, by omega, by omega, .inl (by omega)⟩
      exact xc7 (i + 1) ⟨⟨by omega, by rw [ranges_next, ha, Bool.true_and]; exact hok⟩, (by omega)⟩ (Sub.int rfl (by first | omega | rfl | (dsimp only; omega)) (Sub.int rfl (by first | omega | rfl | (dsimp only; omega)) (Sub.cons rfl (Sub.cons rfl Sub.nil)))) SubK.nil (SupG.val (SupG.val (SupG.val (SupG.val SupG.nil)))) SupH.nil (lkOk rfl)
     ·
      refine xa4 (x3 (x6 ?_))
      refine x8 ?_
      refine R1 x4 rfl (R1 x4 rfl (R2 (xe4 (wr64 (by omega) (by omega))) rfl rfl (R2 (xb8 sl88 (i - 1) (by omega) (gD (l := l) (n := i - 1) (d := tst0) (by omega))) rfl rfl (R1 (xc1 ti103) rfl (RE (xc9 (k := 5) (n := 8) (agg := true) zr103.1 zr103.2 rfl) trivial trivial ⟨rfl, trivial⟩ (RE (xb0 (es := 8) (agg := true) (0) ti103 rfl rfl rfl) ⟨rfl, rfl, trivial⟩ ⟨rfl, trivial⟩ trivial (x7 (by kernel_rfl) ?_)))))))
      refine x3 (x6 ?_)
      refine x8 ?_
      refine R1 (x9 fo103_1 rfl) rfl (xa5 (0) ti3 rfl rfl rfl (At.g 1 rfl rfl) rfl (R1 (x9 fo103_0 rfl) rfl (xa5 (0) ti3 rfl rfl rfl (At.g 0 rfl rfl) rfl (R2 d_gtr rfl rfl (R1 x4 rfl ?_)))))
      refine RGcaseD (t := 40) rfl (fun h47 => ?_) (fun h47 => ?_)
      ·
       refine RGoff (decide_eq_true h47) rfl rfl (RGoff (decide_eq_true h47) rfl rfl (RGoff (decide_eq_true h47) rfl rfl (RGoff (decide_eq_true h47) rfl rfl (RGoff (decide_eq_true h47) rfl rfl (RGoff (decide_eq_true h47) rfl rfl (RGoff (decide_eq_true h47) rfl rfl (R2 (xa8 (decide_eq_true h47)) rfl rfl ?_)))))))
       refine R1 x4 rfl (RGoff1 rfl rfl (RGoff1 rfl rfl (RGoff1 rfl rfl (RGoff1 rfl rfl (RGoff1 rfl rfl (RGoff1 rfl rfl (RGoffU rfl rfl ?_)))))))
       refine RGoffU rfl rfl (RGoffU rfl rfl (RGoffU rfl rfl (RGoffU rfl rfl (RGoff1 rfl rfl (R2 (xa8 rfl) rfl rfl (x7 (by kernel_rfl) (x3 ?_)))))))
       refine C_bT rfl rfl (x6 ?_)
       refine x8 ?_
       refine R1 x5 rfl (x7 (by kernel_rfl) (x3 (xa2 (xc8 (xa6 (xa6 (xc8 ?_)))))))
       refine xa6 ?_
       exact xa3 Plain.mk' rfl rfl (Le.bool (tRight_bad (i := i) (by omega) (by omega)))
      ·
       refine RGon (decide_eq_false h47) rfl (x9 fo103_2 rfl) rfl ⟨rfl, trivial⟩ trivial trivial (RGon (decide_eq_false h47) rfl (x9 fo53_0 rfl) rfl ⟨rfl, trivial⟩ trivial trivial (xb2 (decide_eq_false h47) rfl rfl (0) ti5 rfl rfl rfl (At.t (At.g 2 rfl rfl) (At.g 0 rfl rfl)) rfl (RGon (decide_eq_false h47) rfl (x9 fo103_2 rfl) rfl ⟨rfl, trivial⟩ trivial trivial (RGon (decide_eq_false h47) rfl (x9 fo53_0 rfl) rfl ⟨rfl, trivial⟩ trivial trivial (xb2 (decide_eq_false h47) rfl rfl (0) ti5 rfl rfl rfl (At.t (At.g 2 rfl rfl) (At.g 0 rfl rfl)) rfl (RGon (decide_eq_false h47) rfl d_neq rfl ⟨rfl, rfl, trivial⟩ trivial trivial (R2 (xa7 (decide_eq_false h47)) rfl rfl ?_)))))))
       refine R1 x4 rfl ?_
       refine RGcaseD (t := 49) rfl (fun h47_2 => ?_) (fun h47_2 => ?_)
       ·
        refine RGoff (decide_eq_true h47_2) rfl rfl (RGoff (decide_eq_true h47_2) rfl rfl (RGoff (decide_eq_true h47_2) rfl rfl (RGoff (decide_eq_true h47_2) rfl rfl (RGoff (decide_eq_true h47_2) rfl rfl (RGoff (decide_eq_true h47_2) rfl rfl (RGoffU rfl rfl (RGoffU rfl rfl ?_)))))))
        refine RGoffU rfl rfl (RGoffU rfl rfl (RGoffU rfl rfl (RGoff (decide_eq_true h47_2) rfl rfl (R2 (xa8 (decide_eq_true h47_2)) rfl rfl (x7 (by kernel_rfl) (x3 (C_bT rfl rfl ?_)))))))
        refine x6 ?_
        refine x8 ?_
        refine R1 x5 rfl (x7 (by kernel_rfl) (x3 (xa2 (xc8 (xa6 (xa6 (xc8 ?_)))))))
        refine xa6 ?_
        exact xa3 Plain.mk' rfl rfl (Le.bool (tRight_bad (i := i) (by omega) (by omega)))
       ·
        refine RGon (decide_eq_false h47_2) rfl (x9 fo103_1 rfl) rfl ⟨rfl, trivial⟩ trivial trivial (xb2 (decide_eq_false h47_2) rfl rfl (0) ti3 rfl rfl rfl (At.g 1 rfl rfl) rfl (RGon (decide_eq_false h47_2) rfl (x9 fo103_0 rfl) rfl ⟨rfl, trivial⟩ trivial trivial (xb2 (decide_eq_false h47_2) rfl rfl (0) ti3 rfl rfl rfl (At.g 0 rfl rfl) rfl (RGon (decide_eq_false h47_2) rfl xe5 rfl ⟨rfl, rfl, trivial⟩ trivial trivial (RGon (decide_eq_false h47_2) rfl x4 rfl ⟨rfl, trivial⟩ trivial trivial ?_)))))
        refine RGcaseD (t := 55) rfl (fun h47_3 => ?_) (fun h47_3 => ?_)
        ·
         refine RGon (decide_eq_true h47_3) rfl (x9 fo103_2 rfl) rfl ⟨rfl, trivial⟩ trivial trivial (xb2 (decide_eq_true h47_3) rfl rfl (0) ti53 rfl rfl rfl (At.g 2 rfl rfl) rfl (RGon (decide_eq_true h47_3) rfl (x9 fo103_2 rfl) rfl ⟨rfl, trivial⟩ trivial trivial (xb2 (decide_eq_true h47_3) rfl rfl (0) ti53 rfl rfl rfl (At.g 2 rfl rfl) rfl (RGon (decide_eq_true h47_3) rfl (xa0 (c_TSame _ _) fi68 rfl) rfl ⟨rfl, rfl, trivial⟩ trivial trivial (RGon (decide_eq_false h47_2) rfl (xa8 (decide_eq_true h47_3)) rfl ⟨rfl, rfl, trivial⟩ trivial trivial (R2 (xa7 (decide_eq_false h47_2)) rfl rfl (x7 (by kernel_rfl) ?_)))))))
         refine x3 ?_
         refine xc2 rfl (fun h47_4 => ?_) (fun h47_4 => ?_)
         ·
          refine x6 ?_
          refine x8 ?_
          refine R1 x5 rfl (x7 (by kernel_rfl) (x3 (xa2 (xc8 (xa6 (xa6 (xc8 ?_)))))))
          refine xa6 ?_
          exact xa3 Plain.mk' rfl rfl (Le.bool (tRight_bad (i := i) (by omega) (by rintro ⟨_, _, _, h | ⟨_, _, h⟩⟩; omega; exact h ⟨by omega, h47_4⟩)))
         ·
          refine xa4 (xc6 (x3 ?_))
          refine x8 ?_
          refine R2 (xc4 (wr64 (by omega) (by omega))) rfl rfl (R1 x4 rfl (x7 (by kernel_rfl) ?_))
          have hok : tOk l i = true := tOk_iff.2 ⟨by omega, by omega, by omega, .inr ⟨by omega, by omega, fun h => h47_4 h.2⟩⟩
          exact xc7 (i + 1) ⟨⟨by omega, by rw [ranges_next, ha, Bool.true_and]; exact hok⟩, (by omega)⟩ (Sub.int rfl (by first | omega | rfl | (dsimp only; omega)) (Sub.int rfl (by first | omega | rfl | (dsimp only; omega)) (Sub.cons rfl (Sub.cons rfl Sub.nil)))) SubK.nil (SupG.val (SupG.val (SupG.val (SupG.val SupG.nil)))) SupH.nil (lkOk rfl)
        ·
         refine RGoff (decide_eq_false h47_3) rfl rfl (RGoff (decide_eq_false h47_3) rfl rfl (RGoff (decide_eq_false h47_3) rfl rfl (RGoff (decide_eq_false h47_3) rfl rfl (RGoff (decide_eq_false h47_3) rfl rfl (RGon (decide_eq_false h47_2) rfl (xa7 (decide_eq_false h47_3)) rfl ⟨rfl, rfl, trivial⟩ trivial trivial (R2 (xa7 (decide_eq_false h47_2)) rfl rfl (x7 (by kernel_rfl) ?_)))))))
         refine x3 (C_bF rfl rfl (xa4 (xc6 (x3 ?_))))
         refine x8 ?_
         refine R2 (xc4 (wr64 (by omega) (by omega))) rfl rfl (R1 x4 rfl (x7 (by kernel_rfl) ?_))
         have hok : tOk l i = true := tOk_iff.2 ⟨by omega, by omega, by omega, .inr ⟨by omega, by omega, fun h => h47_3 h.1⟩⟩
         exact xc7 (i + 1) ⟨⟨by omega, by rw [ranges_next, ha, Bool.true_and]; exact hok⟩, (by omega)⟩ (Sub.int rfl (by first | omega | rfl | (dsimp only; omega)) (Sub.int rfl (by first | omega | rfl | (dsimp only; omega)) (Sub.cons rfl (Sub.cons rfl Sub.nil)))) SubK.nil (SupG.val (SupG.val (SupG.val (SupG.val SupG.nil)))) SupH.nil (lkOk rfl)
 ·
  refine xd1 (xc0 (xc0 (xd8 (x3 (x6 ?_)))))
  refine x8 ?_
  refine R1 x4 rfl (R2 (xa0 (c_TContains l hD) fi152 rfl) rfl rfl (R1 xe7 rfl (R1 x5 rfl (x7 (by kernel_rfl) (x3 (xa2 ?_))))))
  exact xa3 Plain.mk' rfl rfl (Le.bool (by rw [tRight, ← all_any, ← show i = l.length by omega, ha, Bool.true_and]))
end An.S

/- slices.SortFunc at structs, as a contract that is lent the row. For any program. -/
namespace An
open Go Go.Proofs Go.Shelf Go.Sort
section
variable {α : Type} [Inhabited α]
/-- What the sort leaves. -/
def srt (cf : α → α → Int) (xs : List α) : List α := (pdq (ltOf cf) xs.toArray 0 xs.toArray.size (Go.Lib.bitLen xs.toArray.size) true true).toList
theorem srt_spec {cf : α → α → Int} (hO : SWO (ltOf cf)) (xs : List α) : (srt cf xs).length = xs.length ∧ (srt cf xs).Perm xs ∧ (srt cf xs).Pairwise fun a b => ltOf cf b a = false := by
  obtain ⟨⟨h1, _, h2⟩, h3⟩ := pdq_sorts (ltOf cf) hO xs.toArray 0 xs.toArray.size (Go.Lib.bitLen xs.toArray.size) true true (Nat.zero_le _) (Nat.le_refl _) (Or.inl rfl)
  rw [srt]
  generalize pdq (ltOf cf) xs.toArray 0 xs.toArray.size (Go.Lib.bitLen xs.toArray.size) true true = D at *
  have e1 : D.size = xs.length := by simpa using h1
  have x1 : D.extract 0 xs.toArray.size = D := by rw [← h1]; simp
  have x2 : xs.toArray.extract 0 xs.toArray.size = xs.toArray := by simp
  rw [x1, x2] at h2
  refine ⟨by simpa using e1, by simpa using h2, ?_⟩
  rw [List.pairwise_iff_getElem]
  intro i j hi hj hij
  have hi' : i < D.size := by simpa using hi
  have hj' : j < D.size := by simpa using hj
  have h6 := h3 i j (Nat.zero_le _) hij (by rw [← h1]; exact hj')
  rw [getElem!_pos _ i hi', getElem!_pos _ j hj'] at h6
  simpa using h6
/-- A row that ascends stays as it is. -/
theorem srt_asc {cf : α → α → Int} (hO : SWO (ltOf cf)) {xs : List α} (h : xs.Pairwise fun a b => ltOf cf a b = true) : srt cf xs = xs := by
  have hp := (srt_spec hO xs).2.1
  have hs := (srt_spec hO xs).2.2
  generalize srt cf xs = ys at *
  induction xs generalizing ys with
  | nil => exact hp.eq_nil
  | cons x xs ih =>
    cases ys with
    | nil => exact absurd hp.symm.eq_nil (by simp)
    | cons y ys =>
      obtain ⟨h1, h2⟩ := List.pairwise_cons.1 h
      obtain ⟨s1, s2⟩ := List.pairwise_cons.1 hs
      have hxy : y = x := by
        have hy : y ∈ x :: xs := hp.mem_iff.1 (by simp)
        rcases List.mem_cons.1 hy with e | hy
        · exact e
        · have hx : x ∈ y :: ys := hp.mem_iff.2 (by simp)
          rcases List.mem_cons.1 hx with e | hx
          · exact e.symm
          · have a1 := s1 x hx
            have a2 := h1 y hy
            rw [a2] at a1; cases a1
      subst hxy
      rw [ih h2 ys (List.perm_cons y |>.1 hp) s2]
end
theorem flat_at {α : Type} [Inhabited α] {enc : α → List Value} {k : Nat} (_hk : ∀ x, (enc x).length = k) (d : Array α) {i j : Nat} (hi : i < d.size) (hj : j < k) : (flatK enc k d)[i * k + j]! = (enc d[i]!)[j]! := by
  have lt : i * k + j < d.size * k := by
    have := Nat.mul_le_mul_right k (show i + 1 ≤ d.size from hi); rw [Nat.add_mul, Nat.one_mul] at this; omega
  rw [get_flatK _ _ _ _ lt]
  have e1 : (i * k + j) / k = i := by rw [Nat.mul_comm, Nat.mul_add_div (by omega), Nat.div_eq_of_lt hj]; omega
  have e2 : (i * k + j) % k = j := by rw [Nat.mul_comm, Nat.mul_add_mod, Nat.mod_eq_of_lt hj]
  rw [e1, e2]
/-- slices.SortFunc. -/
theorem sortG {P : Program} {ρ : Ren} {α : Type} [Inhabited α] (L : SlLaysF0.n6 P ρ) {T k : Nat} {f : α → Ty} {enc : α → List Value} {cf : α → α → Int} {g : Nat} (aE : ∀ w, (isAgg (ρ.t 24)).run P w = .ok true w) (zE : ∀ w, (Go.sizeOf (ρ.t 24)).run P w = .ok k w)
    (hk : ∀ x, (enc x).length = k) (h1 : ∀ x, ∀ v ∈ enc x, v.oneCell' = true) (hf1 : ∀ F w x v, (f x).p F w v → v = .agg (enc x).toArray) (hf2 : ∀ F w x, (f x).p F w (.agg (enc x).toArray)) (hO : SWO (ltOf cf))
    (eg : ∀ args w, (callFunc g args).run P w = .ok (.enter g args) w) (hcmp : ∀ (x y : α) (W : World), Calls P g #[.agg (enc x).toArray, .agg (enc y).toArray] W fun e w' => e = .returned (.int .i64 (cf x y)) ∧ ∃ q os', w' = grow (W.drewN q) os') (xs : List α) (hn : xs.length < 4611686018427387904) :
    CtG P (ρ.f 6) [(1, ⟨T, k, true, rV f xs⟩)] [.own (.sl 1 k 0 xs.length), .val (tE (.func (.func g) #[] #[]))] (.val (tE (.tuple #[]))) [(1, ⟨T, k, true, rV f (srt cf xs)⟩)] [] := by
  intro F w η vs hS hA hI hF
  match vs, hS with
  | [v0, v1], hS =>
  obtain ⟨⟨A, rfl, hle, hadr⟩, h2, _⟩ := hS
  have h2 : v1 = .func (.func g) #[] #[] := h2
  subst h2
  obtain ⟨k1, k2, k3, k4, k5⟩ := hA (1, ⟨T, k, true, rV f xs⟩) (by simp)
  have k1 : (rV f xs).length ≤ η.c 1 := k1
  have k2 : 0 < k := k2
  have k4 : η.c 1 ≤ 9223372036854775807 := k4
  rw [rV_len] at k1
  obtain ⟨s1, s2, _⟩ := srt_spec hO xs
  by_cases h0 : xs.length = 0
  · have hx : xs = [] := List.length_eq_zero_iff.1 h0
    subst hx
    have e0 : srt cf ([] : List α) = [] := List.length_eq_zero_iff.1 s1
    rw [e0]
    refine (AnyF.slices_SortFunc_none L A (η.c 1 - 0) (.func (.func g) #[] #[]) w).mono ?_
    rintro e w' ⟨rfl, rfl⟩
    refine ⟨_, η, rfl, ⟨Stp.refl _ _, fun _ _ => ⟨rfl, rfl⟩, rfl, fun x hx => ?_, hI, fun b hb => .inl hb⟩⟩
    simp only [List.mem_singleton] at hx
    subst hx
    refine ⟨by simp [rV], k2, k3, k4, fun hc => ?_⟩
    obtain ⟨cs, c1, c2, _⟩ := k5 hc
    exact ⟨cs, c1, c2, fun i e hi => by simp [rV] at hi⟩
  · have hc0 : 0 < η.c 1 := by omega
    obtain ⟨cs, c1, c2, c3⟩ := k5 hc0
    have c1 : w.heap[η.b 1]? = some (.cells cs T (0, 0)) := c1
    have c2 : cs.size = η.c 1 * k := c2
    have hA' := hadr hc0
    rw [Nat.zero_mul] at hA'
    subst hA'
    have hblk : η.b 1 < w.heap.size := xd4 c1
    have hmul : ∀ i, i < xs.length → i * k + k ≤ cs.size := fun i hi => by
      rw [c2, ← Nat.succ_mul]; exact Nat.mul_le_mul_right _ (by omega)
    have hget : ∀ i (hi : i < xs.length) j, j < k → cs[i * k + j]? = (enc xs[i])[j]? := fun i hi j hj => by
      have h3 := c3 i (.val (f xs[i])) (by rw [rV, List.getElem?_map, List.getElem?_eq_getElem hi]; rfl)
      have h4 := hf1 _ _ _ _ h3
      simp only [pick, cond_true, Value.agg.injEq] at h4
      have h5 := congrArg (fun a : Array Value => a[j]?) h4
      simp only [Array.getElem?_extract, List.getElem?_toArray] at h5
      have := hmul i hi
      rw [if_pos (by omega)] at h5
      exact h5
    have hsize : xs.toArray.size = xs.length := by simp
    have hH : HoldsK enc k w (η.b 1) 0 xs.toArray := by
      intro j hj
      rw [size_flatK, hsize] at hj
      have hj1 : j / k < xs.length := by rw [Nat.div_lt_iff_lt_mul k2]; exact hj
      have hj2 : j % k < k := Nat.mod_lt _ k2
      have hje : j / k * k + j % k = j := by rw [Nat.mul_comm]; exact Nat.div_add_mod j k
      have h6 := hget (j / k) hj1 (j % k) hj2
      rw [hje] at h6
      have h7 := flat_at hk xs.toArray (i := j / k) (j := j % k) (by rw [hsize]; exact hj1) hj2
      rw [hje] at h7
      have hlen : j % k < (enc xs[j / k]).length := by rw [hk]; exact hj2
      have h8 : xs.toArray[j / k]! = xs[j / k] := by rw [getElem!_pos _ _ (by rw [hsize]; exact hj1)]; simp
      refine ⟨?_, ?_⟩
      · show w.cell? ⟨η.b 1, 0 + j, none⟩ = some (flatK enc k xs.toArray)[j]!
        rw [h7, h8, getElem!_pos (enc xs[j / k]) (j % k) hlen]
        simp only [World.cell?, c1, Nat.zero_add, Option.isSome_none, Bool.false_eq_true, if_false]
        rw [h6, List.getElem?_eq_getElem hlen]
      · simp [World.frozen?, c1]
    have hcon := AnyQ.slices_SortFunc_eq L k aE zE enc hk h1 cf hO g #[] (η.b 1) 0 (η.c 1 - 0) xs.toArray w eg (fun m os dk _ x y => hcmp x y _) hH hblk (by rw [hsize]; exact hn)
    rw [hsize] at hcon
    refine hcon.mono ?_
    rintro e w' ⟨rfl, m, os, rfl⟩
    have hd : (pdq (ltOf cf) xs.toArray 0 xs.length (Go.Lib.bitLen xs.length) true true).size = xs.length := by
      have : (srt cf xs).length = xs.length := s1
      simpa [srt] using this
    have hl : (pdq (ltOf cf) xs.toArray 0 xs.length (Go.Lib.bitLen xs.length) true true).toList = srt cf xs := by simp [srt]
    generalize pdq (ltOf cf) xs.toArray 0 xs.length (Go.Lib.bitLen xs.length) true true = d at hd hl
    have hheap : ∀ b', b' < w.heap.size → (sortWorldK enc k w (η.b 1) 0 m d os).heap[b']? = if b' = η.b 1 then some (.cells (putCells id 0 (flatK enc k d) cs) T (0, 0)) else w.heap[b']? := fun b' hb' => by
      show (grow (putRowK enc k (Sort.ahead w m) (η.b 1) 0 d) os).heap[b']? = _
      rw [heap_grow_old _ _ (by simp [putRowK]; exact hb')]
      simp only [putRowK, putRow, mapBlock, Array.getElem?_modify]
      by_cases hb : b' = η.b 1
      · subst hb
        rw [if_pos rfl, if_pos rfl]
        show Option.map _ (w.heap[η.b 1]?) = _
        rw [c1]; rfl
      · rw [if_neg (fun h => hb h.symm), if_neg hb]; rfl
    have hsz : w.heap.size ≤ (sortWorldK enc k w (η.b 1) 0 m d os).heap.size := by
      show w.heap.size ≤ (grow (putRowK enc k (Sort.ahead w m) (η.b 1) 0 d) os).heap.size
      simp [grow, putRowK, putRow, mapBlock, Sort.ahead]
    refine ⟨_, η, rfl, ⟨⟨rfl, rfl, rfl, hsz, fun b' hb' hn' => ?_⟩, fun _ _ => ⟨rfl, rfl⟩, rfl, fun x hx => ?_, fun x hx y hy hne => ?_, fun b' hb' => .inl ?_⟩⟩
    · rw [hheap b' hb', if_neg]
      intro hb; exact hn' ⟨(1, ⟨T, k, true, rV f xs⟩), by simp, hc0, hb⟩
    · simp only [List.mem_singleton] at hx
      subst hx
      refine ⟨by rw [rV_len, s1]; exact k1, k2, k3, k4, fun _ => ⟨putCells id 0 (flatK enc k d) cs, ?_, ?_, fun i e hi => ?_⟩⟩
      · rw [hheap _ hblk, if_pos rfl]
      · simp only [putCells, Array.size_mapIdx]; exact c2
      · have hil : i < (srt cf xs).length := by
          have := (List.getElem?_eq_some_iff.1 hi).1; rwa [rV_len] at this
        have hi2 : i < xs.length := by rw [← s1]; exact hil
        rw [rV, List.getElem?_map, List.getElem?_eq_getElem hil] at hi
        simp only [Option.map_some, Option.some.injEq] at hi
        subst hi
        have hdi : d[i]! = (srt cf xs)[i] := by
          rw [getElem!_pos d i (by rw [hd]; exact hi2)]
          simp only [← hl, Array.getElem_toList]
        have : pick true k (putCells id 0 (flatK enc k d) cs) (i * k) = .agg (enc (srt cf xs)[i]).toArray := by
          simp only [pick, cond_true, Value.agg.injEq]
          apply Array.ext_getElem?
          intro j
          rw [Array.getElem?_extract]
          have hm := hmul i hi2
          simp only [List.getElem?_toArray]
          by_cases hj : j < k
          · rw [if_pos (by simp only [putCells, Array.size_mapIdx]; omega)]
            have hlt : i * k + j < d.size * k := by
              rw [hd]
              have := Nat.mul_le_mul_right k (show i + 1 ≤ xs.length from hi2); rw [Nat.add_mul, Nat.one_mul] at this; omega
            simp only [putCells, Array.getElem?_mapIdx, size_flatK]
            have hcs : cs[i * k + j]? = some (cs[i * k + j]'(by omega)) := by rw [Array.getElem?_eq_getElem]
            rw [hcs]
            simp only [Option.map_some]
            rw [if_pos ⟨Nat.zero_le _, by omega⟩, Nat.sub_zero, flat_at hk d (by rw [hd]; exact hi2) hj, hdi]
            have hjl : j < (enc (srt cf xs)[i]).length := by rw [hk]; exact hj
            rw [getElem!_pos (enc (srt cf xs)[i]) j hjl, List.getElem?_eq_getElem hjl]; rfl
          · rw [if_neg (by simp only [putCells, Array.size_mapIdx]; omega), List.getElem?_eq_none (by rw [hk]; omega)]
        simp only []
        rw [this]
        exact hf2 _ _ _
    · simp only [List.mem_singleton] at hx hy
      subst hx; subst hy
      exact absurd rfl hne
    · obtain ⟨x, hx, hc, rfl⟩ := hb'
      simp only [List.mem_singleton] at hx
      subst hx
      exact ⟨(1, ⟨T, k, true, rV f xs⟩), by simp, hc, rfl⟩
end An

/- Layer 4: sets of days. -/
namespace An.S
open Go Go.Proofs An
open Go.RowKit Go.Sort
set_option maxHeartbeats 2000000
theorem fo99_0 : fieldO Tryz.prog 99 0 = some 0 := by kernel_rfl
theorem fo99_1 : fieldO Tryz.prog 99 1 = some 1 := by kernel_rfl
theorem fi156 : FnI Tryz.prog 156 := ⟨_, Tryz.func156, by kernel_rfl, rfl⟩
theorem fi157 : FnI Tryz.prog 157 := ⟨_, Tryz.func157, by kernel_rfl, rfl⟩
theorem el99 : ElI Tryz.prog 99 2 16 true (.agg #[.int .i64 0, .int .i64 0]) := ⟨ti99, by kernel_rfl, by kernel_rfl⟩
theorem zf99 : Flat 2 true (.agg #[.int .i64 0, .int .i64 0]) := flat_agg (by intro u hu; simp at hu; rcases hu with rfl | rfl <;> rfl)
def cmpI (a b : Int) : Int := if a < b then -1 else if b < a then 1 else 0
theorem cmpInt (a b : Int) (W : World) : Calls Tryz.prog 159 #[.int .i64 a, .int .i64 b] W fun e w' => e = .returned (.int .i64 (cmpI a b)) ∧ w' = W := by
  have hn : ∀ (x : Int) (W : World), Calls Tryz.prog 197 #[.int .i64 x] W fun e w' => e = .returned (.bool false) ∧ w' = W := fun x W => by
    have h1 : (x == x) = true := by simp
    go_enter Tryz.func197, Tryz.ntmps197
    go_wp2
    go_ret
    exact ⟨by simp, rfl⟩
  by_cases h1 : a < b
  · rw [show cmpI a b = -1 by simp [cmpI, h1]]
    go_enter Tryz.func159, Tryz.ntmps159
    go_wp2_with (go_at_call 197; refine (hn _ _).mono ?_; rintro e w' ⟨rfl, rfl⟩)
    go_ret
    exact ⟨rfl, rfl⟩
  · by_cases h2 : b < a
    · rw [show cmpI a b = 1 by simp [cmpI, h1, h2]]
      go_enter Tryz.func159, Tryz.ntmps159
      go_wp2_with (go_at_call 197; refine (hn _ _).mono ?_; rintro e w' ⟨rfl, rfl⟩)
      go_ret
      exact ⟨rfl, rfl⟩
    · rw [show cmpI a b = 0 by simp [cmpI, h1, h2]]
      go_enter Tryz.func159, Tryz.ntmps159
      go_wp2_with (go_at_call 197; refine (hn _ _).mono ?_; rintro e w' ⟨rfl, rfl⟩)
      go_ret
      exact ⟨rfl, rfl⟩
/-- The numbers of the functions and types of slices.SortFunc in this program. -/
def sortSpanR : Go.Shelf.Ren := ⟨fun n => match n with | 6 => 157 | 14 => 196 | 15 => 138 | 20 => 222 | 21 => 223 | 22 => 224 | 23 => 225 | 24 => 226 | 25 => 227 | 26 => 228 | 27 => 229 | 28 => 190 | 29 => 191 | 46 => 250 | 47 => 214 | 48 => 215 | 49 => 251 | 50 => 252 | 57 => 263 | n => n, fun n => match n with | 0 => 0 | 3 => 3 | 4 => 4 | 5 => 5 | 9 => 9 | 22 => 93 | 24 => 99 | 25 => 198 | 39 => 176 | 45 => 210 | 46 => 211 | 50 => 215 | 53 => 218 | 55 => 142 | 66 => 231 | 70 => 235 | 76 => 251 | 77 => 252 | n => n, fun n => n⟩
theorem sortSpan : Go.Proofs.SlLaysF0.n6 Tryz.prog sortSpanR where
  mixed := by kernel_rfl
  f6 := ⟨Tryz.f157.name, by kernel_rfl, by kernel_rfl⟩
  f14 := ⟨Tryz.f196.name, by kernel_rfl, by kernel_rfl⟩
  f15 := by kernel_rfl
  f20 := ⟨Tryz.f222.name, by kernel_rfl, by kernel_rfl⟩
  f21 := ⟨Tryz.f223.name, by kernel_rfl, by kernel_rfl⟩
  f22 := ⟨Tryz.f224.name, by kernel_rfl, by kernel_rfl⟩
  f23 := ⟨Tryz.f225.name, by kernel_rfl, by kernel_rfl⟩
  f24 := ⟨Tryz.f226.name, by kernel_rfl, by kernel_rfl⟩
  f25 := ⟨Tryz.f227.name, by kernel_rfl, by kernel_rfl⟩
  f26 := ⟨Tryz.f228.name, by kernel_rfl, by kernel_rfl⟩
  f27 := ⟨Tryz.f229.name, by kernel_rfl, by kernel_rfl⟩
  f28 := by kernel_rfl
  f29 := by kernel_rfl
  f46 := ⟨Tryz.f250.name, by kernel_rfl, by kernel_rfl⟩
  f47 := by kernel_rfl
  f48 := by kernel_rfl
  f49 := ⟨Tryz.f251.name, by kernel_rfl, by kernel_rfl⟩
  f50 := ⟨Tryz.f252.name, by kernel_rfl, by kernel_rfl⟩
  f57 := ⟨Tryz.f263.name, by kernel_rfl, by kernel_rfl⟩
  t0 := by kernel_rfl
  a0 := fun w => by kernel_rfl
  z0 := fun w => by kernel_rfl
  v0 := fun w => by kernel_rfl
  t3 := by kernel_rfl
  a3 := fun w => by kernel_rfl
  z3 := fun w => by kernel_rfl
  v3 := fun w => by kernel_rfl
  t4 := by kernel_rfl
  a4 := fun w => by kernel_rfl
  z4 := fun w => by kernel_rfl
  v4 := fun w => by kernel_rfl
  t5 := by kernel_rfl
  a5 := fun w => by kernel_rfl
  z5 := fun w => by kernel_rfl
  v5 := fun w => by kernel_rfl
  t9 := by kernel_rfl
  a9 := fun w => by kernel_rfl
  z9 := fun w => by kernel_rfl
  v9 := fun w => by kernel_rfl
  t22 := by kernel_rfl
  a22 := fun w => by kernel_rfl
  z22 := fun w => by kernel_rfl
  v22 := fun w => by kernel_rfl
  t25 := by kernel_rfl
  a25 := fun w => by kernel_rfl
  z25 := fun w => by kernel_rfl
  v25 := fun w => by kernel_rfl
  t39 := by kernel_rfl
  a39 := fun w => by kernel_rfl
  z39 := fun w => by kernel_rfl
  v39 := fun w => by kernel_rfl
  t45 := by kernel_rfl
  a45 := fun w => by kernel_rfl
  z45 := fun w => by kernel_rfl
  v45 := fun w => by kernel_rfl
  t46 := by kernel_rfl
  a46 := fun w => by kernel_rfl
  z46 := fun w => by kernel_rfl
  v46 := fun w => by kernel_rfl
  t50 := by kernel_rfl
  a50 := fun w => by kernel_rfl
  z50 := fun w => by kernel_rfl
  v50 := fun w => by kernel_rfl
  t53 := by kernel_rfl
  a53 := fun w => by kernel_rfl
  z53 := fun w => by kernel_rfl
  v53 := fun w => by kernel_rfl
  t55 := by kernel_rfl
  a55 := fun w => by kernel_rfl
  z55 := fun w => by kernel_rfl
  v55 := fun w => by kernel_rfl
  t66 := by kernel_rfl
  a66 := fun w => by kernel_rfl
  z66 := fun w => by kernel_rfl
  v66 := fun w => by kernel_rfl
  t70 := by kernel_rfl
  a70 := fun w => by kernel_rfl
  z70 := fun w => by kernel_rfl
  v70 := fun w => by kernel_rfl
  t76 := by kernel_rfl
  a76 := fun w => by kernel_rfl
  z76 := fun w => by kernel_rfl
  v76 := fun w => by kernel_rfl
  t77 := by kernel_rfl
  a77 := fun w => by kernel_rfl
  z77 := fun w => by kernel_rfl
  v77 := fun w => by kernel_rfl
def cfSn (x y : Sn) : Int := cmpI x.lo y.lo
def encSn (x : Sn) : List Value := [.int .i64 x.lo, .int .i64 x.hi]
theorem ltSn (x y : Sn) : Go.Proofs.ltOf cfSn x y = decide (x.lo < y.lo) := by
  unfold Go.Proofs.ltOf cfSn cmpI
  by_cases h1 : x.lo < y.lo
  · simp [h1]
  · by_cases h2 : y.lo < x.lo <;> simp [h1, h2]
theorem swoSn : SWO (Go.Proofs.ltOf cfSn) where
  irrefl x := by rw [ltSn]; simp
  trans x y z h1 h2 := by rw [ltSn] at *; simp at *; omega
  ntrans x y z h1 h2 := by rw [ltSn] at *; simp at *; omega
theorem closSn (x y : Sn) (W : World) : Calls Tryz.prog 158 #[.agg (encSn x).toArray, .agg (encSn y).toArray] W fun e w' => e = .returned (.int .i64 (cfSn x y)) ∧ ∃ q os', w' = grow (W.drewN q) os' := by
  have hcon := fun W' => cmpInt x.lo y.lo W'
  show Calls Tryz.prog 158 #[.agg #[.int .i64 x.lo, .int .i64 x.hi], .agg #[.int .i64 y.lo, .int .i64 y.hi]] W fun e w' => e = .returned (.int .i64 (cmpI x.lo y.lo)) ∧ ∃ q os', w' = grow (W.drewN q) os'
  generalize cmpI x.lo y.lo = r at hcon ⊢
  go_enter Tryz.func158, Tryz.ntmps158
  go_wp2_with (go_at_call 159; refine (hcon _).mono ?_; rintro e w' ⟨rfl, rfl⟩)
  go_ret
  exact ⟨rfl, 0, _, by rw [alloc_eq_grow, alloc_eq_grow, grow_grow]; rfl⟩
theorem c_sortSn (xs : List Sn) (hn : xs.length < 4611686018427387904) : CtG Tryz.prog 157 [(1, ⟨99, 2, true, rV tSn xs⟩)] [.own (.sl 1 2 0 xs.length), .val (tE (.func (.func 158) #[] #[]))] (.val (tE (.tuple #[]))) [(1, ⟨99, 2, true, rV tSn (srt cfSn xs)⟩)] [] :=
  sortG sortSpan (enc := encSn) (cf := cfSn) (fun w => by kernel_rfl) (fun w => by kernel_rfl) (fun _ => rfl) (fun x v hv => by simp [encSn] at hv; rcases hv with rfl | rfl <;> rfl) (fun F w x v h => tSn_val h) (fun F w x => tSn_mk) swoSn (enters_of Tryz.func158 (by kernel_rfl) rfl) closSn xs hn
theorem srtSn_len {xs : List Sn} : (srt cfSn xs).length = xs.length := (srt_spec swoSn xs).1
/-- The set of the days of spans. -/
def pos (s : Sn) : Bool := decide (s.lo < s.hi)
def mkS (l : List Sn) : List Sn := mrg (srt cfSn (l.filter pos))
theorem filter_next {l : List Sn} {i : Nat} (hi : i < l.length) : (l.take (i + 1)).filter pos = (l.take i).filter pos ++ (if pos (l.getD i sn0) then [l.getD i sn0] else []) := by
  rw [List.take_succ_eq_append_getElem hi, List.filter_append, List.getD_eq_getElem?_getD, List.getElem?_eq_getElem hi]
  by_cases h : pos l[i] = true <;> simp [h]
theorem mrg_next {l : List Sn} {i : Nat} (hi : i < l.length) : mrg (l.take (i + 1)) = mrg1 (mrg (l.take i)) (l.getD i sn0) := by
  rw [List.take_succ_eq_append_getElem hi, mrg, List.foldl_append, List.getD_eq_getElem?_getD, List.getElem?_eq_getElem hi]; rfl
theorem allS_next {p : Sn → Bool} {l : List Sn} {i : Nat} (hi : i < l.length) : (l.take (i + 1)).all p = ((l.take i).all p && p (l.getD i sn0)) := by
  rw [List.take_succ_eq_append_getElem hi, List.all_append, List.getD_eq_getElem?_getD, List.getElem?_eq_getElem hi]; simp
theorem allS_stop {p : Sn → Bool} {l : List Sn} {i : Nat} (hi : i < l.length) (h : p (l.getD i sn0) = false) : l.all p = false := by
  rw [List.all_eq_false]
  exact ⟨l.getD i sn0, by rw [List.getD_eq_getElem?_getD, List.getElem?_eq_getElem hi]; exact List.getElem_mem hi, by rw [h]; exact Bool.false_ne_true⟩
theorem mrg1_len (acc : List Sn) (s : Sn) : (mrg1 acc s).length ≤ acc.length + 1 := by
  rw [mrg1]; split <;> simp
theorem mrg_len : ∀ (xs acc : List Sn), (xs.foldl mrg1 acc).length ≤ acc.length + xs.length
  | [], acc => by simp
  | s :: r, acc => by
    have h1 := mrg_len r (mrg1 acc s)
    have h2 := mrg1_len acc s
    simp only [List.foldl_cons, List.length_cons]
    omega
theorem filter_le {l : List Sn} {i : Nat} : ((l.take i).filter pos).length ≤ i := by
  have h1 := List.length_filter_le pos (l.take i)
  rw [List.length_take] at h1; omega
theorem c_isSpan (s : Sn) :
  Ct Tryz.prog 156 [tSn s] (tB s.ok) := by
 refine Ct.intro Tryz.func156 rfl Tryz.ntmps156 rfl ?_
 intro w F
 refine x6 ?_
 refine x8 ?_
 refine RE (xd2 (k := 1) ti99 rfl) ⟨rfl, trivial⟩ trivial ⟨rfl, trivial⟩ (R1 x5 rfl (x7 (by kernel_rfl) (x3 (x6 ?_))))
 refine x8 ?_
 refine R1 (x9 fo99_0 rfl) rfl (xa5 (0) ti3 rfl rfl rfl (At.g 0 rfl rfl) rfl (R2 xg2 rfl rfl (R1 x4 rfl ?_)))
 refine RGcaseD (t := 6) rfl (fun h15 => ?_) (fun h15 => ?_)
 ·
  refine RGon (decide_eq_true h15) rfl (x9 fo99_0 rfl) rfl ⟨rfl, trivial⟩ trivial trivial (xb2 (decide_eq_true h15) rfl rfl (0) ti3 rfl rfl rfl (At.g 0 rfl rfl) rfl (RGon (decide_eq_true h15) rfl (x9 fo99_1 rfl) rfl ⟨rfl, trivial⟩ trivial trivial (xb2 (decide_eq_true h15) rfl rfl (0) ti3 rfl rfl rfl (At.g 1 rfl rfl) rfl (RGon (decide_eq_true h15) rfl xg2 rfl ⟨rfl, rfl, trivial⟩ trivial trivial (R2 (xa8 (decide_eq_true h15)) rfl rfl (R1 x4 rfl ?_))))))
  refine RGcaseD (t := 13) rfl (fun h15_2 => ?_) (fun h15_2 => ?_)
  ·
   refine RGon (decide_eq_true h15_2) rfl (x9 fo99_1 rfl) rfl ⟨rfl, trivial⟩ trivial trivial (xb2 (decide_eq_true h15_2) rfl rfl (0) ti3 rfl rfl rfl (At.g 1 rfl rfl) rfl (RGon (decide_eq_true h15_2) rfl xg2 rfl ⟨rfl, rfl, trivial⟩ trivial trivial (R2 (xa8 (decide_eq_true h15_2)) rfl rfl (R1 x5 rfl (x7 (by kernel_rfl) (x3 (xa2 ?_)))))))
   exact xa3 Plain.mk' rfl rfl (Le.bool (by simp [Sn.ok, *]))
  ·
   refine RGoff (decide_eq_false h15_2) rfl rfl (RGoff (decide_eq_false h15_2) rfl rfl (RGoff (decide_eq_false h15_2) rfl rfl (R2 (xa7 (decide_eq_false h15_2)) rfl rfl (R1 x5 rfl (x7 (by kernel_rfl) (x3 (xa2 ?_)))))))
   exact xa3 Plain.mk' rfl rfl (Le.bool (by simp [Sn.ok, *]))
 ·
  refine RGoff (decide_eq_false h15) rfl rfl (RGoff (decide_eq_false h15) rfl rfl (RGoff (decide_eq_false h15) rfl rfl (RGoff (decide_eq_false h15) rfl rfl (RGoff (decide_eq_false h15) rfl rfl (R2 (xa7 (decide_eq_false h15)) rfl rfl (R1 x4 rfl (RGoff0 rfl rfl ?_)))))))
  refine RGoff0 rfl rfl (RGoff0 rfl rfl (R2 (xa7 rfl) rfl rfl (R1 x5 rfl (x7 (by kernel_rfl) (x3 (xa2 ?_))))))
  exact xa3 Plain.mk' rfl rfl (Le.bool (by simp [Sn.ok, *]))
theorem c_SnMake (l : List Sn) (hl : l.length ≤ 1000000) :
  Ct Tryz.prog 110 [tL 2 true tSn l] (tT [tL 2 true tSn (if l.all Sn.ok = true then mkS l else []), tI (if l.all Sn.ok = true then 0 else 2)]) := by
 refine Ct.intro Tryz.func110 rfl Tryz.ntmps110 rfl ?_
 intro w F
 refine x6 ?_
 refine x8 ?_
 refine R1 x5 rfl (R1 x5 rfl (x7 (by kernel_rfl) (x3 (x6 ?_))))
 refine x8 ?_
 refine RE (d_assignN (k := 4) 99 2 true rfl (fun h => by cases h)) trivial trivial ⟨rfl, trivial⟩ (x7 (by kernel_rfl) (x3 (x6 (x6 ?_))))
 refine x8 ?_
 refine R1 x4 rfl (R1 (xb9 Tryz.underlying93) rfl (R1 x4 rfl (x7 (by kernel_rfl) (x3 (xa9 ?_)))))
 refine xd6 (fun (fm : (Nat) × (List Sn)) => (fun (i : Nat) (xs : List Sn) => i ≤ l.length ∧ (l.take i).all Sn.ok = true ∧ xs = (l.take i).filter pos) fm.1 fm.2) (fun (fm : (Nat) × (List Sn)) => (fun (i : Nat) (xs : List Sn) => upd (upd (upd (upd (upd (fun _ => none) 0 (some (.val (tL 2 true tSn l)))) 4 (some (.own (.sl 4 2 0 xs.length)))) 11 (some (.val (tL 2 true tSn l)))) 12 (some (.val (tI l.length)))) 13 (some (.val (tI i)))) fm.1 fm.2) (fun (fm : (Nat) × (List Sn)) => (fun (i : Nat) (xs : List Sn) => upd (fun _ => none) 4 (some (⟨99, 2, true, rV tSn xs⟩))) fm.1 fm.2) (nm [4]) (fun (fm : (Nat) × (List Sn)) => (fun (i : Nat) (xs : List Sn) => l.length - i) fm.1 fm.2) ((0, [])) (by dsimp only; exact ⟨Nat.zero_le _, rfl, rfl⟩) (Sub.int rfl (by first | omega | rfl | (dsimp only; omega)) (Sub.int rfl (by first | omega | rfl | (dsimp only; omega)) (Sub.cons rfl (Sub.cons rfl (Sub.cons rfl Sub.nil))))) ((SubK.consI rfl ImpK.refl) SubK.nil) (SupG.val (SupG.val (SupG.val (SupG.own rfl (SupG.val SupG.nil))))) (SupH.cons rfl (supJ xe3) SupH.nil) (lkOk rfl) ?_
 intro fm hI
 obtain ⟨i, xs⟩ := fm
 replace hI : i ≤ l.length ∧ (l.take i).all Sn.ok = true ∧ xs = (l.take i).filter pos := hI
 show wc _ _ _ _ (upd (upd (upd (upd (upd (fun _ => none) 0 (some (.val (tL 2 true tSn l)))) 4 (some (.own (.sl 4 2 0 xs.length)))) 11 (some (.val (tL 2 true tSn l)))) 12 (some (.val (tI l.length)))) 13 (some (.val (tI i)))) (upd (fun _ => none) 4 (some (⟨99, 2, true, rV tSn xs⟩))) _
 obtain ⟨hi, ha, hx⟩ := hI
 have hxl : xs.length ≤ i := hx ▸ filter_le
 refine x6 ?_
 refine x8 ?_
 refine R2 xd5 rfl rfl (x7 (by kernel_rfl) (x3 (x6 ?_)))
 refine xc2 rfl (fun h31 => ?_) (fun h31 => ?_)
 ·
  refine xa4 (x3 (x6 (xa9 (x6 ?_))))
  refine x8 ?_
  refine R2 (xb8 sl93 (i) (by omega) (gD (l := l) (n := i) (d := sn0) (by omega))) rfl rfl (R1 (xc1 ti99) rfl (RE (xc9 (k := 6) (n := 2) (agg := true) zr99.1 zr99.2 rfl) trivial trivial ⟨rfl, trivial⟩ (RE (xb0 (es := 2) (agg := true) (0) ti99 rfl rfl rfl) ⟨rfl, rfl, trivial⟩ ⟨rfl, trivial⟩ trivial (x7 (by kernel_rfl) (x3 (x6 (x6 ?_)))))))
  refine x8 ?_
  refine RE (xb3 (0) ti99 rfl rfl) ⟨rfl, trivial⟩ ⟨rfl, trivial⟩ trivial (R1 (xa0 (c_isSpan _) fi156 rfl) rfl (R1 xe7 rfl (x7 (by kernel_rfl) (x3 ?_))))
  refine xg6 rfl (fun h32 => ?_) (fun h32 => ?_)
  ·
   have hbad : l.all Sn.ok = false := allS_stop (i := i) (by omega) (by rw [Bool.not_eq_true'] at h32; exact h32)
   refine x6 ?_
   refine x8 ?_
   refine R1 x5 rfl (R1 x5 rfl (x7 (by kernel_rfl) (x3 (xa2 (xa6 (xc8 (xa6 ?_)))))))
   refine xa6 (xc8 (xa6 ?_))
   exact xf2 Plain.mk' rfl rfl rfl (leNil (by rw [if_neg (by rw [hbad]; exact Bool.false_ne_true)])) (Le.int (by rw [if_neg (by rw [hbad]; exact Bool.false_ne_true)]))
  ·
   rw [Bool.not_eq_false'] at h32
   refine xa4 (x3 (x6 ?_))
   refine x8 ?_
   refine R1 (x9 fo99_0 rfl) rfl (xa5 (0) ti3 rfl rfl rfl (At.g 0 rfl rfl) rfl (R1 (x9 fo99_1 rfl) rfl (xa5 (0) ti3 rfl rfl rfl (At.g 1 rfl rfl) rfl (R2 xd5 rfl rfl (x7 (by kernel_rfl) (x3 ?_))))))
   refine xc2 rfl (fun h35 => ?_) (fun h35 => ?_)
   ·
    refine x8 ?_
    refine R1 x4 rfl (RE (xb3 (0) ti99 rfl rfl) ⟨rfl, trivial⟩ ⟨rfl, trivial⟩ trivial (R1 (xf4 (n := 1) (f := tSn) [(l.getD i sn0)] Tryz.underlying93 el99 zf99 rfl (fun _ => inferInstance) rfl rfl rfl) rfl (RE (xf1 (k := 4) (k' := 28) (f := tSn) (ys := [(l.getD i sn0)]) (ts' := rV tSn (xs ++ [(l.getD i sn0)])) Tryz.underlying93 el99 zf99 rfl rfl (fun _ => inferInstance) rV_len (by simp; omega) (by simp; omega) (by simp [rV]) (n' := xs.length + 1) rfl) ⟨rfl, rfl, trivial⟩ ⟨rfl, trivial⟩ ⟨rfl, trivial⟩ (R1 x5 rfl (x7 (by kernel_rfl) (xc6 (x3 ?_)))))))
    refine x8 ?_
    refine R2 (xc4 (wr64 (by omega) (by omega))) rfl rfl (R1 x4 rfl (x7 (by kernel_rfl) ?_))
    exact K_famR (l := [4]) (fun j => cond (Nat.beq j 4) 28 (j)) ((i + 1, xs ++ [(l.getD i sn0)])) ⟨(by dsimp only; exact ⟨by omega, by rw [allS_next (by omega), ha, h32]; rfl, by rw [filter_next (by omega), ← hx, if_pos (show pos _ = true from decide_eq_true h35)]⟩), (by dsimp only; omega)⟩ (SubR.int rfl (by first | omega | rfl | (dsimp only; omega)) (SubR.int rfl (by first | omega | rfl | (dsimp only; omega)) (SubR.cons rfl ((SubR.consI rfl (Imp.of (by dsimp only; rw [List.length_append]; rfl))) (SubR.cons rfl SubR.nil))))) ((SubKR.consI rfl (ImpK.of xf8.symm)) SubKR.nil) (SupG.val (SupG.val (SupG.val (SupG.own rfl (SupG.val SupG.nil))))) (SupH.cons rfl (supJ xe3) SupH.nil) (lkOk rfl) rfl rfl (fun _ h => by cases h)
   ·
    refine xa4 (xc6 (x3 ?_))
    refine x8 ?_
    refine R2 (xc4 (wr64 (by omega) (by omega))) rfl rfl (R1 x4 rfl (x7 (by kernel_rfl) ?_))
    exact xc7 ((i + 1, xs)) ⟨(by dsimp only; exact ⟨by omega, by rw [allS_next (by omega), ha, h32]; rfl, by rw [filter_next (by omega), ← hx, if_neg (by rw [pos, decide_eq_false h35]; exact Bool.false_ne_true), List.append_nil]⟩), (by dsimp only; omega)⟩ (Sub.int rfl (by first | omega | rfl | (dsimp only; omega)) (Sub.int rfl (by first | omega | rfl | (dsimp only; omega)) (Sub.cons rfl (Sub.cons rfl (Sub.cons rfl Sub.nil))))) ((SubK.consI rfl ImpK.refl) SubK.nil) (SupG.val (SupG.val (SupG.val (SupG.own rfl (SupG.val SupG.nil))))) (SupH.cons rfl (supJ xe3) SupH.nil) (lkOk rfl)
 ·
  refine xd1 (xc0 (xc0 (xd8 (x3 (x6 ?_)))))
  have hil : i = l.length := by omega
  subst hil
  rw [List.take_length] at ha hx
  have hall := ha
  have hmk : mkS l = mrg (srt cfSn xs) := by rw [mkS, hx]
  refine x8 ?_
  refine R1 x4 rfl (RE (xh1 (fun _ => 4) (c_sortSn xs (by omega)) fi157 rfl (krC (ρ := fun _ => 4) (k := 1) xf8 (krN (ρ := fun _ => 4))) (krC (ρ := fun _ => 4) (k := 1) xf8 (krN (ρ := fun _ => 4))) ⟨⟨rfl, xe3⟩, trivial⟩ rfl) ⟨rfl, rfl, trivial⟩ ⟨rfl, trivial⟩ trivial (x7 (by kernel_rfl) (x3 (x6 ?_))))
  refine x8 ?_
  refine RE (d_assignN (k := 7) 99 2 true rfl (fun h => by cases h)) trivial trivial ⟨rfl, trivial⟩ (x7 (by kernel_rfl) (x3 (x6 (x6 ?_))))
  refine x8 ?_
  refine R1 x4 rfl (R1 (d_lenO Tryz.underlying93) rfl (R1 x4 rfl (x7 (by kernel_rfl) (x3 (xa9 ?_)))))
  refine xd6 (fun (fm : (Nat) × (List Sn)) => (fun (i : Nat) (zs : List Sn) => i ≤ xs.length ∧ zs = mrg ((srt cfSn xs).take i)) fm.1 fm.2) (fun (fm : (Nat) × (List Sn)) => (fun (i : Nat) (zs : List Sn) => upd (upd (upd (upd (upd (fun _ => none) 4 (some (.own (.sl 4 2 0 xs.length)))) 7 (some (.own (.sl 7 2 0 zs.length)))) 32 (some (.own (.sl 4 2 0 xs.length)))) 33 (some (.val (tI xs.length)))) 34 (some (.val (tI i)))) fm.1 fm.2) (fun (fm : (Nat) × (List Sn)) => (fun (i : Nat) (zs : List Sn) => upd (upd (fun _ => none) 4 (some (⟨99, 2, true, rV tSn (srt cfSn xs)⟩))) 7 (some (⟨99, 2, true, rV tSn zs⟩))) fm.1 fm.2) (nm [4, 7]) (fun (fm : (Nat) × (List Sn)) => (fun (i : Nat) (zs : List Sn) => xs.length - i) fm.1 fm.2) ((0, [])) (by dsimp only; exact ⟨Nat.zero_le _, rfl⟩) (Sub.int rfl (by first | omega | rfl | (dsimp only; omega)) (Sub.int rfl (by first | omega | rfl | (dsimp only; omega)) (Sub.cons rfl (Sub.cons rfl (Sub.cons rfl Sub.nil))))) ((SubK.consI rfl ImpK.refl) ((SubK.consI rfl ImpK.refl) SubK.nil)) (SupG.val (SupG.val (SupG.own rfl (SupG.own rfl (SupG.own rfl SupG.nil))))) (SupH.cons rfl (supJ xe3) (SupH.cons rfl (supJ xe3) SupH.nil)) (lkOk rfl) ?_
  intro fm hI
  obtain ⟨i, zs⟩ := fm
  replace hI : i ≤ xs.length ∧ zs = mrg ((srt cfSn xs).take i) := hI
  show wc _ _ _ _ (upd (upd (upd (upd (upd (fun _ => none) 4 (some (.own (.sl 4 2 0 xs.length)))) 7 (some (.own (.sl 7 2 0 zs.length)))) 32 (some (.own (.sl 4 2 0 xs.length)))) 33 (some (.val (tI xs.length)))) 34 (some (.val (tI i)))) (upd (upd (fun _ => none) 4 (some (⟨99, 2, true, rV tSn (srt cfSn xs)⟩))) 7 (some (⟨99, 2, true, rV tSn zs⟩))) _
  obtain ⟨hi', hz⟩ := hI
  have hsl := srtSn_len (xs := xs)
  have hzl : zs.length ≤ i := by
   have h := mrg_len ((srt cfSn xs).take i) []
   rw [List.length_take] at h
   have h2 : zs.length ≤ ([] : List Sn).length + min i (srt cfSn xs).length := by rw [hz]; exact h
   simp at h2; omega
  refine x6 ?_
  refine x8 ?_
  refine R2 xd5 rfl rfl (x7 (by kernel_rfl) (x3 (x6 ?_)))
  refine xc2 rfl (fun h41 => ?_) (fun h41 => ?_)
  ·
   refine xa4 (x3 (x6 (xa9 (x6 ?_))))
   refine x8 ?_
   refine R2 (xd7 sl93 (by omega) (by omega) rfl) rfl rfl (RE (xb3 (i) ti99 (rV_getD (d := sn0) (by omega)) (by omega)) ⟨rfl, trivial⟩ ⟨rfl, trivial⟩ trivial (RE (xc9 (k := 9) (n := 2) (agg := true) zr99.1 zr99.2 rfl) trivial trivial ⟨rfl, trivial⟩ (RE (xb0 (es := 2) (agg := true) (0) ti99 rfl rfl rfl) ⟨rfl, rfl, trivial⟩ ⟨rfl, trivial⟩ trivial (x7 (by kernel_rfl) (x3 (x6 ?_))))))
   refine x8 ?_
   refine R1 x4 rfl (R1 (d_lenO Tryz.underlying93) rfl (R1 x5 rfl (x7 (by kernel_rfl) (x3 (x6 ?_)))))
   refine xe1 mixed ?_
   refine R1 x4 rfl (R2 d_gtr rfl rfl (R1 x4 rfl ?_))
   refine RGcaseD (t := 42) rfl (fun h42 => ?_) (fun h42 => ?_)
   ·
    refine RGon (decide_eq_true h42) rfl x4 rfl ⟨rfl, trivial⟩ trivial trivial (RGon (decide_eq_true h42) rfl x4 rfl ⟨rfl, trivial⟩ trivial trivial (RGon (decide_eq_true h42) rfl (xe4 (wr64 (by omega) (by omega))) rfl ⟨rfl, rfl, trivial⟩ trivial trivial (RGon (decide_eq_true h42) rfl (xd7 sl93 (by omega) (by omega) rfl) rfl ⟨rfl, rfl, trivial⟩ trivial trivial (RGon (decide_eq_true h42) rfl (x9 fo99_1 rfl) rfl ⟨rfl, trivial⟩ trivial trivial (RGon (decide_eq_true h42) rfl (d_loadF (es := 2) (o := 1) (zs.length - 1) ti3 (rV_getD (d := sn0) (by omega)) (At.g 1 rfl rfl) (by omega)) rfl ⟨rfl, trivial⟩ ⟨rfl, trivial⟩ trivial (RGon (decide_eq_true h42) rfl (x9 fo99_0 rfl) rfl ⟨rfl, trivial⟩ trivial trivial (xb2 (decide_eq_true h42) rfl rfl (0) ti3 rfl rfl rfl (At.g 0 rfl rfl) rfl ?_)))))))
    refine RGon (decide_eq_true h42) rfl d_geq rfl ⟨rfl, rfl, trivial⟩ trivial trivial (R2 (xa8 (decide_eq_true h42)) rfl rfl (xd9 (by kernel_rfl) (x3 ?_)))
    refine xc2 rfl (fun h42_2 => ?_) (fun h42_2 => ?_)
    ·
     refine xe1 mixed ?_
     refine R1 x4 rfl (R1 x4 rfl (R2 (xe4 (wr64 (by omega) (by omega))) rfl rfl (R1 x4 rfl (R1 x4 rfl (R2 (xe4 (wr64 (by omega) (by omega))) rfl rfl (R2 (xd7 sl93 (by omega) (by omega) rfl) rfl rfl (R1 (x9 fo99_1 rfl) rfl ?_)))))))
     refine RE (d_loadF (es := 2) (o := 1) (zs.length - 1) ti3 (rV_getD (d := sn0) (by omega)) (At.g 1 rfl rfl) (by omega)) ⟨rfl, trivial⟩ ⟨rfl, trivial⟩ trivial (R1 (x9 fo99_1 rfl) rfl (xa5 (0) ti3 rfl rfl rfl (At.g 1 rfl rfl) rfl (R2 d_max2 rfl rfl (R2 (xd7 sl93 (by omega) (by omega) rfl) rfl rfl (R1 (x9 fo99_1 rfl) rfl (RE (d_storeF (es := 2) (o := 1) (t2 := tSn ⟨(zs.getD (zs.length - 1) sn0).lo, max (zs.getD (zs.length - 1) sn0).hi ((srt cfSn xs).getD i sn0).hi⟩) (zs.length - 1) ti3 (rV_getD (d := sn0) (by omega)) (Up.f (f := ⟨1, false, tI (zs.getD (zs.length - 1) sn0).hi⟩) 1 rfl rfl rfl) (by omega) (rV_set rfl)) ⟨rfl, rfl, trivial⟩ ⟨rfl, trivial⟩ trivial (xd9 (by kernel_rfl) ?_)))))))
     refine xc6 (x3 ?_)
     refine x8 ?_
     refine R2 (xc4 (wr64 (by omega) (by omega))) rfl rfl (R1 x4 rfl (x7 (by kernel_rfl) ?_))
     exact xc7 ((i + 1, (zs.set (zs.length - 1) ⟨(zs.getD (zs.length - 1) sn0).lo, max (zs.getD (zs.length - 1) sn0).hi ((srt cfSn xs).getD i sn0).hi⟩))) ⟨(by dsimp only; exact ⟨by omega, by rw [mrg_next (by omega), ← hz, mrg1, if_pos ⟨by omega, by omega⟩]⟩), (by dsimp only; omega)⟩ (Sub.int rfl (by first | omega | rfl | (dsimp only; omega)) (Sub.int rfl (by first | omega | rfl | (dsimp only; omega)) (Sub.cons rfl ((Sub.consI rfl (Imp.of (by dsimp only; rw [List.length_set]))) (Sub.cons rfl Sub.nil))))) ((SubK.consI rfl ImpK.refl) ((SubK.consI rfl ImpK.refl) SubK.nil)) (SupG.val (SupG.val (SupG.own rfl (SupG.own rfl (SupG.own rfl SupG.nil))))) (SupH.cons rfl (supJ xe3) (SupH.cons rfl (supJ xe3) SupH.nil)) (lkOk rfl)
    ·
     refine x8 ?_
     refine R1 x4 rfl (RE (xb3 (0) ti99 rfl rfl) ⟨rfl, trivial⟩ ⟨rfl, trivial⟩ trivial (R1 (xf4 (n := 1) (f := tSn) [((srt cfSn xs).getD i sn0)] Tryz.underlying93 el99 zf99 rfl (fun _ => inferInstance) rfl rfl rfl) rfl (RE (xf1 (k := 7) (k' := 70) (f := tSn) (ys := [((srt cfSn xs).getD i sn0)]) (ts' := rV tSn (zs ++ [((srt cfSn xs).getD i sn0)])) Tryz.underlying93 el99 zf99 rfl rfl (fun _ => inferInstance) rV_len (by simp; omega) (by simp; omega) (by simp [rV]) (n' := zs.length + 1) rfl) ⟨rfl, rfl, trivial⟩ ⟨rfl, trivial⟩ ⟨rfl, trivial⟩ (R1 x5 rfl (x7 (by kernel_rfl) (xc6 (x3 ?_)))))))
     refine x8 ?_
     refine R2 (xc4 (wr64 (by omega) (by omega))) rfl rfl (R1 x4 rfl (x7 (by kernel_rfl) ?_))
     exact K_famR (l := [4, 7]) (fun j => cond (Nat.beq j 7) 70 (j)) ((i + 1, zs ++ [((srt cfSn xs).getD i sn0)])) ⟨(by dsimp only; exact ⟨by omega, by rw [mrg_next (by omega), ← hz, mrg1, if_neg (by omega)]⟩), (by dsimp only; omega)⟩ (SubR.int rfl (by first | omega | rfl | (dsimp only; omega)) (SubR.int rfl (by first | omega | rfl | (dsimp only; omega)) (SubR.cons rfl ((SubR.consI rfl (Imp.of (by dsimp only; rw [List.length_append]; rfl))) (SubR.cons rfl SubR.nil))))) ((SubKR.consI rfl (ImpK.of xf8.symm)) ((SubKR.consI rfl (ImpK.of xf8.symm)) SubKR.nil)) (SupG.val (SupG.val (SupG.own rfl (SupG.own rfl (SupG.own rfl SupG.nil))))) (SupH.cons rfl (supJ xe3) (SupH.cons rfl (supJ xe3) SupH.nil)) (lkOk rfl) rfl rfl (fun _ h => by cases h)
   ·
    refine RGoff (decide_eq_false h42) rfl rfl (RGoff (decide_eq_false h42) rfl rfl (RGoff (decide_eq_false h42) rfl rfl (RGoff (decide_eq_false h42) rfl rfl (RGoff (decide_eq_false h42) rfl rfl (RGoff (decide_eq_false h42) rfl rfl (RGoff (decide_eq_false h42) rfl rfl (RGoff (decide_eq_false h42) rfl rfl ?_)))))))
    refine RGoff (decide_eq_false h42) rfl rfl (R2 (xa7 (decide_eq_false h42)) rfl rfl (xd9 (by kernel_rfl) (x3 (C_bF rfl rfl ?_))))
    refine x8 ?_
    refine R1 x4 rfl (RE (xb3 (0) ti99 rfl rfl) ⟨rfl, trivial⟩ ⟨rfl, trivial⟩ trivial (R1 (xf4 (n := 1) (f := tSn) [((srt cfSn xs).getD i sn0)] Tryz.underlying93 el99 zf99 rfl (fun _ => inferInstance) rfl rfl rfl) rfl (RE (xf1 (k := 7) (k' := 70) (f := tSn) (ys := [((srt cfSn xs).getD i sn0)]) (ts' := rV tSn (zs ++ [((srt cfSn xs).getD i sn0)])) Tryz.underlying93 el99 zf99 rfl rfl (fun _ => inferInstance) rV_len (by simp; omega) (by simp; omega) (by simp [rV]) (n' := zs.length + 1) rfl) ⟨rfl, rfl, trivial⟩ ⟨rfl, trivial⟩ ⟨rfl, trivial⟩ (R1 x5 rfl (x7 (by kernel_rfl) (xc6 (x3 ?_)))))))
    refine x8 ?_
    refine R2 (xc4 (wr64 (by omega) (by omega))) rfl rfl (R1 x4 rfl (x7 (by kernel_rfl) ?_))
    exact K_famR (l := [4, 7]) (fun j => cond (Nat.beq j 7) 70 (j)) ((i + 1, zs ++ [((srt cfSn xs).getD i sn0)])) ⟨(by dsimp only; exact ⟨by omega, by rw [mrg_next (by omega), ← hz, mrg1, if_neg (by omega)]⟩), (by dsimp only; omega)⟩ (SubR.int rfl (by first | omega | rfl | (dsimp only; omega)) (SubR.int rfl (by first | omega | rfl | (dsimp only; omega)) (SubR.cons rfl ((SubR.consI rfl (Imp.of (by dsimp only; rw [List.length_append]; rfl))) (SubR.cons rfl SubR.nil))))) ((SubKR.consI rfl (ImpK.of xf8.symm)) ((SubKR.consI rfl (ImpK.of xf8.symm)) SubKR.nil)) (SupG.val (SupG.val (SupG.own rfl (SupG.own rfl (SupG.own rfl SupG.nil))))) (SupH.cons rfl (supJ xe3) (SupH.cons rfl (supJ xe3) SupH.nil)) (lkOk rfl) rfl rfl (fun _ h => by cases h)
  ·
   refine xd1 (xc0 (xc0 (xd8 (x3 (x6 ?_)))))
   refine x8 ?_
   refine R1 x4 rfl (RE (d_assignS (f := tSn) (xs := zs) (fun _ h => h) (rV_all rfl) rfl) ⟨rfl, trivial⟩ ⟨rfl, trivial⟩ trivial (R1 x5 rfl (x7 (by kernel_rfl) (x3 (xa2 ?_)))))
   exact xf2 Plain.mk' rfl rfl rfl (Le.of (by rw [if_pos hall, hmk, hz, show i = (srt cfSn xs).length by omega, List.take_length])) (Le.int (by rw [if_pos hall]))
end An.S

/- A slice of memory that was lent gets a name of one's own. For any program. -/
namespace An
open Go
theorem C_renS {P : Program} {c : Base} {g : Slots} {h : Keys} {al : Names} {Q : Exit → Act → World → Prop} {x : Code} {t k es off len : Nat} {y : HEnt} (k' : Nat) (hs : g t = some (.own (.sl k es off len))) (hk : h k = some y) (hk' : al k' = false)
    (H : wc P c x Q (upd g t (some (.own (.sl k' es off len)))) (upd (upd h k none) k' (some y)) (fun j => Nat.beq j k' || al j)) : wc P c x Q g h al := fun a w hst => by
  obtain ⟨η, s⟩ := hst
  have s2 := s.rename hk hk'
  have h1 := (s2.slot t _ hs).2.2
  have hk1 : k ≠ k' := fun e => by have := (s.key k _ hk).1; rw [e, hk'] at this; cases this
  obtain ⟨hb, hc⟩ := η.set_other (k := k') (j := k) (η.b k) (η.c k) hk1
  have h2 : Ent.sat (c.dom (upd (upd h k none) k' (some y)) (η.set k' (η.b k) (η.c k))) w (η.set k' (η.b k) (η.c k)) (.own (.sl k' es off len)) (a.tmps.getD t undef) := by
    obtain ⟨A, e1, e2, e3⟩ := h1
    rw [hc] at e1 e2 e3; rw [hb] at e3
    exact ⟨A, by rw [Env.set_c]; exact e1, by rw [Env.set_c]; exact e2, by rw [Env.set_c, Env.set_b]; exact e3⟩
  have s3 := s2.put (s2.slot t _ hs).1 h2 fun j hj => by
    simp only [Ent.supp, VP.supp, List.mem_singleton] at hj
    subst hj; simp
  have ea : a.put (some t) (a.tmps.getD t undef) = a := by
    have hlt : t < a.tmps.size := by rw [s.tn]; exact (s.slot t _ hs).1
    have : a.tmps.setIfInBounds t (a.tmps.getD t undef) = a.tmps := by
      apply Array.ext_getElem?
      intro i
      rw [Array.getElem?_setIfInBounds]
      by_cases hi : t = i
      · subst hi; simp [hlt]
      · simp [hi]
    simp only [Act.put, this]
  rw [ea] at s3
  exact H a w ⟨_, s3⟩
end An

/- Layers 4 and 5: sets are checked and bridged, pieces of timelines are put together. -/
namespace An.S
open Go Go.Proofs An
set_option maxHeartbeats 2000000
theorem fi103 : FnI Tryz.prog 103 := ⟨_, Tryz.func103, by kernel_rfl, rfl⟩
theorem fi106 : FnI Tryz.prog 106 := ⟨_, Tryz.func106, by kernel_rfl, rfl⟩
theorem fi107 : FnI Tryz.prog 107 := ⟨_, Tryz.func107, by kernel_rfl, rfl⟩
theorem fi108 : FnI Tryz.prog 108 := ⟨_, Tryz.func108, by kernel_rfl, rfl⟩
theorem el103 : ElI Tryz.prog 103 8 96 true (.agg #[.int .i64 0, .int .i64 0, .int .u8 0, .bool false, .slice none 0 0, .bool false, .slice none 0 0, .int .i64 0]) := ⟨ti103, by kernel_rfl, by kernel_rfl⟩
theorem zf103 : Flat 8 true (.agg #[.int .i64 0, .int .i64 0, .int .u8 0, .bool false, .slice none 0 0, .bool false, .slice none 0 0, .int .i64 0]) := flat_agg (by intro u hu; simp at hu; rcases hu with rfl | rfl | rfl | rfl | rfl | rfl | rfl | rfl <;> rfl)
/-- A span and the one before it. -/
def sOkA (l : List Sn) (i : Nat) : Bool := (l.getD i sn0).ok && decide ((l.getD i sn0).lo ≠ (l.getD i sn0).hi) && (decide (i = 0) || decide ((l.getD (i - 1) sn0).hi < (l.getD i sn0).lo))
def sVal (l : List Sn) : Bool := (List.range l.length).all (sOkA l)
theorem sOkA_iff {l : List Sn} {i : Nat} : sOkA l i = true ↔ (l.getD i sn0).ok = true ∧ (l.getD i sn0).lo ≠ (l.getD i sn0).hi ∧ (i = 0 ∨ (l.getD (i - 1) sn0).hi < (l.getD i sn0).lo) := by
  simp only [sOkA, Bool.and_eq_true, Bool.or_eq_true, decide_eq_true_eq, and_assoc]
theorem sVal_at {l : List Sn} {i : Nat} (h : sVal l = true) (hi : i < l.length) : 0 ≤ (l.getD i sn0).lo ∧ (l.getD i sn0).lo < (l.getD i sn0).hi ∧ (l.getD i sn0).hi ≤ 65536 := by
  have h1 := sOkA_iff.1 (List.all_eq_true.1 h i (List.mem_range.2 hi))
  simp only [Sn.ok, Bool.and_eq_true, decide_eq_true_eq] at h1
  omega
/-- Bridged: a span, behind a set. -/
def brg1 (d : Int) (acc : List Sn) (s : Sn) : List Sn :=
  if 0 < acc.length ∧ s.lo - (acc.getD (acc.length - 1) sn0).hi ≤ d then acc.set (acc.length - 1) ⟨(acc.getD (acc.length - 1) sn0).lo, s.hi⟩ else acc ++ [s]
def brg (d : Int) (l : List Sn) : List Sn := l.foldl (brg1 d) []
theorem c_paste (zs ps : List Tst) (hz : zs.length ≤ 1000000) (hp : ps.length ≤ 1000000) (hD : ∀ s ∈ ps, s.v.f.n.l.length ≤ 1000000 ∧ s.v.f.d.l.length ≤ 1000000) :
  CtG Tryz.prog 108 [(1, ⟨103, 8, true, rV tTs zs⟩)] [.own (.sl 1 8 0 zs.length), .val (tL 8 true tTs ps)] (.own (.sl 90 8 0 (pst zs ps).length)) [(90, ⟨103, 8, true, rV tTs (pst zs ps)⟩)] [90] := by
 refine CtG.intro [1] Tryz.func108 rfl Tryz.ntmps108 rfl rfl ⟨⟨rfl, xe3⟩, trivial⟩ ?_
 intro w F η
 refine C_renS (t := 0) (k := 1) 90 rfl rfl rfl ?_
 refine x6 ?_
 refine x8 ?_
 refine R1 x5 rfl (x7 (by kernel_rfl) (x3 (x6 (x6 ?_))))
 refine x8 ?_
 refine R1 x4 rfl (R1 (xb9 Tryz.underlying88) rfl (R1 x4 rfl (x7 (by kernel_rfl) (x3 (xa9 ?_)))))
 refine xd6 (fun (fm : (Nat) × (List Tst)) => (fun (i : Nat) (xs : List Tst) => i ≤ ps.length ∧ xs = pst zs (ps.take i)) fm.1 fm.2) (fun (fm : (Nat) × (List Tst)) => (fun (i : Nat) (xs : List Tst) => upd (upd (upd (upd (fun _ => none) 0 (some (.own (.sl 90 8 0 xs.length)))) 8 (some (.val (tL 8 true tTs ps)))) 9 (some (.val (tI ps.length)))) 10 (some (.val (tI i)))) fm.1 fm.2) (fun (fm : (Nat) × (List Tst)) => (fun (i : Nat) (xs : List Tst) => upd (fun _ => none) 90 (some (⟨103, 8, true, rV tTs xs⟩))) fm.1 fm.2) (nm [90, 1]) (fun (fm : (Nat) × (List Tst)) => (fun (i : Nat) (xs : List Tst) => ps.length - i) fm.1 fm.2) ((0, zs)) (by dsimp only; exact ⟨Nat.zero_le _, rfl⟩) (Sub.int rfl (by first | omega | rfl | (dsimp only; omega)) (Sub.int rfl (by first | omega | rfl | (dsimp only; omega)) (Sub.cons rfl (Sub.cons rfl Sub.nil)))) ((SubK.consI rfl ImpK.refl) SubK.nil) (SupG.val (SupG.val (SupG.val (SupG.own rfl SupG.nil)))) (SupH.cons rfl (supJ xe3) SupH.nil) (lkOk rfl) ?_
 intro fm hI
 obtain ⟨i, xs⟩ := fm
 replace hI : i ≤ ps.length ∧ xs = pst zs (ps.take i) := hI
 show wc _ _ _ _ (upd (upd (upd (upd (fun _ => none) 0 (some (.own (.sl 90 8 0 xs.length)))) 8 (some (.val (tL 8 true tTs ps)))) 9 (some (.val (tI ps.length)))) 10 (some (.val (tI i)))) (upd (fun _ => none) 90 (some (⟨103, 8, true, rV tTs xs⟩))) _
 obtain ⟨hi, hx⟩ := hI
 have hxl : xs.length ≤ zs.length + i := by
  have h := pst_len (ps.take i) zs
  rw [← hx, List.length_take] at h; omega
 refine x6 ?_
 refine x8 ?_
 refine R2 xd5 rfl rfl (x7 (by kernel_rfl) (x3 (x6 ?_)))
 refine xc2 rfl (fun h68 => ?_) (fun h68 => ?_)
 ·
  refine xa4 (x3 (x6 (xa9 (x6 ?_))))
  refine x8 ?_
  refine R2 (xb8 sl88 (i) (by omega) (gD (l := ps) (n := i) (d := tst0) (by omega))) rfl rfl (R1 (xc1 ti103) rfl (RE (xc9 (k := 6) (n := 8) (agg := true) zr103.1 zr103.2 rfl) trivial trivial ⟨rfl, trivial⟩ (RE (xb0 (es := 8) (agg := true) (0) ti103 rfl rfl rfl) ⟨rfl, rfl, trivial⟩ ⟨rfl, trivial⟩ trivial (x7 (by kernel_rfl) (x3 (x6 (x6 ?_)))))))
  refine x8 ?_
  refine R1 (x9 fo103_0 rfl) rfl (xa5 (0) ti3 rfl rfl rfl (At.g 0 rfl rfl) rfl (R1 (x9 fo103_1 rfl) rfl (xa5 (0) ti3 rfl rfl rfl (At.g 1 rfl rfl) rfl (R2 d_geq rfl rfl (x7 (by kernel_rfl) (x3 ?_))))))
  refine xc2 rfl (fun h69 => ?_) (fun h69 => ?_)
  ·
   refine xd1 (xc0 (xd8 (x3 ?_)))
   refine x8 ?_
   refine R2 (xc4 (wr64 (by omega) (by omega))) rfl rfl (R1 x4 rfl (x7 (by kernel_rfl) ?_))
   exact xc7 ((i + 1, xs)) ⟨(by dsimp only; exact ⟨by omega, by rw [pst_snoc _ (by omega), ← hx, pst1, if_pos (by omega)]⟩), (by dsimp only; omega)⟩ (Sub.int rfl (by first | omega | rfl | (dsimp only; omega)) (Sub.int rfl (by first | omega | rfl | (dsimp only; omega)) (Sub.cons rfl (Sub.cons rfl Sub.nil)))) ((SubK.consI rfl ImpK.refl) SubK.nil) (SupG.val (SupG.val (SupG.val (SupG.own rfl SupG.nil)))) (SupH.cons rfl (supJ xe3) SupH.nil) (lkOk rfl)
  ·
   refine xa4 (x3 (x6 ?_))
   refine x8 ?_
   refine R1 x4 rfl (R1 (d_lenO Tryz.underlying88) rfl (R1 x5 rfl (x7 (by kernel_rfl) (x3 (x6 ?_)))))
   refine xe1 mixed ?_
   refine R1 x4 rfl (R2 d_gtr rfl rfl (R1 x4 rfl ?_))
   refine RGcaseD (t := 23) rfl (fun h72 => ?_) (fun h72 => ?_)
   ·
    refine RGon (decide_eq_true h72) rfl x4 rfl ⟨rfl, trivial⟩ trivial trivial (RGon (decide_eq_true h72) rfl x4 rfl ⟨rfl, trivial⟩ trivial trivial (RGon (decide_eq_true h72) rfl (xe4 (wr64 (by omega) (by omega))) rfl ⟨rfl, rfl, trivial⟩ trivial trivial (RGon (decide_eq_true h72) rfl (xd7 sl88 (by omega) (by omega) rfl) rfl ⟨rfl, rfl, trivial⟩ trivial trivial (RGon (decide_eq_true h72) rfl (x9 fo103_1 rfl) rfl ⟨rfl, trivial⟩ trivial trivial (RGon (decide_eq_true h72) rfl (d_loadF (es := 8) (o := 1) (xs.length - 1) ti3 (rV_getD (d := tst0) (by omega)) (At.g 1 rfl rfl) (by omega)) rfl ⟨rfl, trivial⟩ ⟨rfl, trivial⟩ trivial (RGon (decide_eq_true h72) rfl (x9 fo103_0 rfl) rfl ⟨rfl, trivial⟩ trivial trivial (xb2 (decide_eq_true h72) rfl rfl (0) ti3 rfl rfl rfl (At.g 0 rfl rfl) rfl ?_)))))))
    refine RGon (decide_eq_true h72) rfl xe5 rfl ⟨rfl, rfl, trivial⟩ trivial trivial (R2 (xa8 (decide_eq_true h72)) rfl rfl (R1 x4 rfl ?_))
    refine RGcaseD (t := 34) rfl (fun h72_2 => ?_) (fun h72_2 => ?_)
    ·
     refine RGon (decide_eq_true h72_2) rfl x4 rfl ⟨rfl, trivial⟩ trivial trivial (RGon (decide_eq_true h72_2) rfl x4 rfl ⟨rfl, trivial⟩ trivial trivial (RGon (decide_eq_true h72_2) rfl (xe4 (wr64 (by omega) (by omega))) rfl ⟨rfl, rfl, trivial⟩ trivial trivial (RGon (decide_eq_true h72_2) rfl (xd7 sl88 (by omega) (by omega) rfl) rfl ⟨rfl, rfl, trivial⟩ trivial trivial (RGon (decide_eq_true h72_2) rfl (x9 fo103_2 rfl) rfl ⟨rfl, trivial⟩ trivial trivial (RGon (decide_eq_true h72_2) rfl (d_loadF (es := 8) (o := 2) (xs.length - 1) ti53 (rV_getD (d := tst0) (by omega)) (At.g 2 rfl rfl) (by omega)) rfl ⟨rfl, trivial⟩ ⟨rfl, trivial⟩ trivial (RGon (decide_eq_true h72_2) rfl (x9 fo103_2 rfl) rfl ⟨rfl, trivial⟩ trivial trivial (xb2 (decide_eq_true h72_2) rfl rfl (0) ti53 rfl rfl rfl (At.g 2 rfl rfl) rfl ?_)))))))
     refine RGon (decide_eq_true h72_2) rfl (xa0 (c_TSame _ _) fi68 rfl) rfl ⟨rfl, rfl, trivial⟩ trivial trivial (R2 (xa8 (decide_eq_true h72_2)) rfl rfl (xd9 (by kernel_rfl) (x3 ?_)))
     refine xc2 rfl (fun h72_3 => ?_) (fun h72_3 => ?_)
     ·
      refine x8 ?_
      refine R1 x4 rfl (R1 x4 rfl (R2 (xe4 (wr64 (by omega) (by omega))) rfl rfl (R1 (x9 fo103_1 rfl) rfl (xa5 (0) ti3 rfl rfl rfl (At.g 1 rfl rfl) rfl (R2 (xd7 sl88 (by omega) (by omega) rfl) rfl rfl (R1 (x9 fo103_1 rfl) rfl (RE (d_storeF (es := 8) (o := 1) (t2 := tTs ⟨(xs.getD (xs.length - 1) tst0).lo, (ps.getD i tst0).hi, (xs.getD (xs.length - 1) tst0).v⟩) (xs.length - 1) ti3 (rV_getD (d := tst0) (by omega)) (Up.g 1 rfl rfl rfl) (by omega) (rV_set rfl)) ⟨rfl, rfl, trivial⟩ ⟨rfl, trivial⟩ trivial ?_)))))))
      refine x7 (by kernel_rfl) (xc6 (x3 ?_))
      refine x8 ?_
      refine R2 (xc4 (wr64 (by omega) (by omega))) rfl rfl (R1 x4 rfl (x7 (by kernel_rfl) ?_))
      exact xc7 ((i + 1, (xs.set (xs.length - 1) ⟨(xs.getD (xs.length - 1) tst0).lo, (ps.getD i tst0).hi, (xs.getD (xs.length - 1) tst0).v⟩))) ⟨(by dsimp only; exact ⟨by omega, by rw [pst_snoc _ (by omega), ← hx, pst1, if_neg (by omega), if_pos ⟨by omega, by omega, h72_3⟩]⟩), (by dsimp only; omega)⟩ (Sub.int rfl (by first | omega | rfl | (dsimp only; omega)) (Sub.int rfl (by first | omega | rfl | (dsimp only; omega)) (Sub.cons rfl ((Sub.consI rfl (Imp.of (by dsimp only; rw [List.length_set]))) Sub.nil)))) ((SubK.consI rfl ImpK.refl) SubK.nil) (SupG.val (SupG.val (SupG.val (SupG.own rfl SupG.nil)))) (SupH.cons rfl (supJ xe3) SupH.nil) (lkOk rfl)
     ·
      refine xe1 mixed ?_
      refine R1 x4 rfl (R1 (x9 fo103_0 rfl) rfl (xa5 (0) ti3 rfl rfl rfl (At.g 0 rfl rfl) rfl (R1 (x9 fo103_1 rfl) rfl (xa5 (0) ti3 rfl rfl rfl (At.g 1 rfl rfl) rfl (R1 (x9 fo103_2 rfl) rfl (xa5 (0) ti53 rfl rfl rfl (At.g 2 rfl rfl) rfl (R1 (xa0 (c_copied _ (hD _ (xf5 (l := ps) (by omega))).1 (hD _ (xf5 (l := ps) (by omega))).2) fi106 rfl) rfl ?_)))))))
      refine R3 (xe0 (r := tS [⟨1, false, tI (ps.getD i tst0).lo⟩, ⟨1, false, tI (ps.getD i tst0).hi⟩, ⟨6, true, tVa (ps.getD i tst0).v⟩]) (ts := [(0, tI (ps.getD i tst0).lo), (1, tI (ps.getD i tst0).hi), (2, tVa (ps.getD i tst0).v)]) bu103 zr103.2 ⟨_, rfl⟩ rfl ⟨_, _, _, _, rfl, Up.f (fs := [⟨1, false, (tE (.int .i64 0))⟩, ⟨1, false, (tE (.int .i64 0))⟩, ⟨6, true, (tS [⟨1, false, (tE (.int .u8 0))⟩, ⟨4, true, (tS [⟨2, true, (tS [⟨1, false, (tE (.bool false))⟩, ⟨1, false, (tLm [])⟩])⟩, ⟨2, true, (tS [⟨1, false, (tE (.bool false))⟩, ⟨1, false, (tLm [])⟩])⟩])⟩, ⟨1, false, (tE (.int .i64 0))⟩])⟩]) (f := ⟨1, false, (tE (.int .i64 0))⟩) (fs' := [⟨1, false, tI (ps.getD i tst0).lo⟩, ⟨1, false, (tE (.int .i64 0))⟩, ⟨6, true, (tS [⟨1, false, (tE (.int .u8 0))⟩, ⟨4, true, (tS [⟨2, true, (tS [⟨1, false, (tE (.bool false))⟩, ⟨1, false, (tLm [])⟩])⟩, ⟨2, true, (tS [⟨1, false, (tE (.bool false))⟩, ⟨1, false, (tLm [])⟩])⟩])⟩, ⟨1, false, (tE (.int .i64 0))⟩])⟩]) 0 rfl rfl rfl, inferInstance, ⟨_, _, _, _, rfl, Up.f (fs := [⟨1, false, tI (ps.getD i tst0).lo⟩, ⟨1, false, (tE (.int .i64 0))⟩, ⟨6, true, (tS [⟨1, false, (tE (.int .u8 0))⟩, ⟨4, true, (tS [⟨2, true, (tS [⟨1, false, (tE (.bool false))⟩, ⟨1, false, (tLm [])⟩])⟩, ⟨2, true, (tS [⟨1, false, (tE (.bool false))⟩, ⟨1, false, (tLm [])⟩])⟩])⟩, ⟨1, false, (tE (.int .i64 0))⟩])⟩]) (f := ⟨1, false, (tE (.int .i64 0))⟩) (fs' := [⟨1, false, tI (ps.getD i tst0).lo⟩, ⟨1, false, tI (ps.getD i tst0).hi⟩, ⟨6, true, (tS [⟨1, false, (tE (.int .u8 0))⟩, ⟨4, true, (tS [⟨2, true, (tS [⟨1, false, (tE (.bool false))⟩, ⟨1, false, (tLm [])⟩])⟩, ⟨2, true, (tS [⟨1, false, (tE (.bool false))⟩, ⟨1, false, (tLm [])⟩])⟩])⟩, ⟨1, false, (tE (.int .i64 0))⟩])⟩]) 1 rfl rfl rfl, inferInstance, ⟨_, _, _, _, rfl, Up.f (fs := [⟨1, false, tI (ps.getD i tst0).lo⟩, ⟨1, false, tI (ps.getD i tst0).hi⟩, ⟨6, true, (tS [⟨1, false, (tE (.int .u8 0))⟩, ⟨4, true, (tS [⟨2, true, (tS [⟨1, false, (tE (.bool false))⟩, ⟨1, false, (tLm [])⟩])⟩, ⟨2, true, (tS [⟨1, false, (tE (.bool false))⟩, ⟨1, false, (tLm [])⟩])⟩])⟩, ⟨1, false, (tE (.int .i64 0))⟩])⟩]) (f := ⟨6, true, (tS [⟨1, false, (tE (.int .u8 0))⟩, ⟨4, true, (tS [⟨2, true, (tS [⟨1, false, (tE (.bool false))⟩, ⟨1, false, (tLm [])⟩])⟩, ⟨2, true, (tS [⟨1, false, (tE (.bool false))⟩, ⟨1, false, (tLm [])⟩])⟩])⟩, ⟨1, false, (tE (.int .i64 0))⟩])⟩) (fs' := [⟨1, false, tI (ps.getD i tst0).lo⟩, ⟨1, false, tI (ps.getD i tst0).hi⟩, ⟨6, true, tVa (ps.getD i tst0).v⟩]) 2 rfl rfl rfl, inferInstance, Le.refl⟩⟩⟩) rfl rfl rfl (R1 (xf4 (n := 1) (f := tTs) [(ps.getD i tst0)] Tryz.underlying88 el103 zf103 rfl (fun _ => inferInstance) rfl rfl rfl) rfl (RE (xf1 (k := 90) (k' := 62) (f := tTs) (ys := [(ps.getD i tst0)]) (ts' := rV tTs (xs ++ [(ps.getD i tst0)])) Tryz.underlying88 el103 zf103 rfl rfl (fun _ => inferInstance) rV_len (by simp; omega) (by simp; omega) (by simp [rV]) (n' := xs.length + 1) rfl) ⟨rfl, rfl, trivial⟩ ⟨rfl, trivial⟩ ⟨rfl, trivial⟩ (R1 x5 rfl (xd9 (by kernel_rfl) (xc6 (x3 ?_))))))
      refine x8 ?_
      refine R2 (xc4 (wr64 (by omega) (by omega))) rfl rfl (R1 x4 rfl (x7 (by kernel_rfl) ?_))
      exact K_famR (l := [90, 1]) (fun j => cond (Nat.beq j 90) 62 (j)) ((i + 1, xs ++ [(ps.getD i tst0)])) ⟨(by dsimp only; exact ⟨by omega, by rw [pst_snoc _ (by omega), ← hx, pst1, if_neg (by omega), if_neg fun h => h72_3 h.2.2]⟩), (by dsimp only; omega)⟩ (SubR.int rfl (by first | omega | rfl | (dsimp only; omega)) (SubR.int rfl (by first | omega | rfl | (dsimp only; omega)) (SubR.cons rfl ((SubR.consI rfl (Imp.of (by dsimp only; rw [List.length_append]; rfl))) SubR.nil)))) ((SubKR.consI rfl (ImpK.of xf8.symm)) SubKR.nil) (SupG.val (SupG.val (SupG.val (SupG.own rfl SupG.nil)))) (SupH.cons rfl (supJ xe3) SupH.nil) (lkOk rfl) rfl rfl (fun _ h => by cases h)
    ·
     refine RGoff (decide_eq_false h72_2) rfl rfl (RGoff (decide_eq_false h72_2) rfl rfl (RGoff (decide_eq_false h72_2) rfl rfl (RGoff (decide_eq_false h72_2) rfl rfl (RGoff (decide_eq_false h72_2) rfl rfl (RGoff (decide_eq_false h72_2) rfl rfl (RGoff (decide_eq_false h72_2) rfl rfl (RGoff (decide_eq_false h72_2) rfl rfl ?_)))))))
     refine RGoff (decide_eq_false h72_2) rfl rfl (R2 (xa7 (decide_eq_false h72_2)) rfl rfl (xd9 (by kernel_rfl) (x3 (C_bF rfl rfl ?_))))
     refine xe1 mixed ?_
     refine R1 x4 rfl (R1 (x9 fo103_0 rfl) rfl (xa5 (0) ti3 rfl rfl rfl (At.g 0 rfl rfl) rfl (R1 (x9 fo103_1 rfl) rfl (xa5 (0) ti3 rfl rfl rfl (At.g 1 rfl rfl) rfl (R1 (x9 fo103_2 rfl) rfl (xa5 (0) ti53 rfl rfl rfl (At.g 2 rfl rfl) rfl (R1 (xa0 (c_copied _ (hD _ (xf5 (l := ps) (by omega))).1 (hD _ (xf5 (l := ps) (by omega))).2) fi106 rfl) rfl ?_)))))))
     refine R3 (xe0 (r := tS [⟨1, false, tI (ps.getD i tst0).lo⟩, ⟨1, false, tI (ps.getD i tst0).hi⟩, ⟨6, true, tVa (ps.getD i tst0).v⟩]) (ts := [(0, tI (ps.getD i tst0).lo), (1, tI (ps.getD i tst0).hi), (2, tVa (ps.getD i tst0).v)]) bu103 zr103.2 ⟨_, rfl⟩ rfl ⟨_, _, _, _, rfl, Up.f (fs := [⟨1, false, (tE (.int .i64 0))⟩, ⟨1, false, (tE (.int .i64 0))⟩, ⟨6, true, (tS [⟨1, false, (tE (.int .u8 0))⟩, ⟨4, true, (tS [⟨2, true, (tS [⟨1, false, (tE (.bool false))⟩, ⟨1, false, (tLm [])⟩])⟩, ⟨2, true, (tS [⟨1, false, (tE (.bool false))⟩, ⟨1, false, (tLm [])⟩])⟩])⟩, ⟨1, false, (tE (.int .i64 0))⟩])⟩]) (f := ⟨1, false, (tE (.int .i64 0))⟩) (fs' := [⟨1, false, tI (ps.getD i tst0).lo⟩, ⟨1, false, (tE (.int .i64 0))⟩, ⟨6, true, (tS [⟨1, false, (tE (.int .u8 0))⟩, ⟨4, true, (tS [⟨2, true, (tS [⟨1, false, (tE (.bool false))⟩, ⟨1, false, (tLm [])⟩])⟩, ⟨2, true, (tS [⟨1, false, (tE (.bool false))⟩, ⟨1, false, (tLm [])⟩])⟩])⟩, ⟨1, false, (tE (.int .i64 0))⟩])⟩]) 0 rfl rfl rfl, inferInstance, ⟨_, _, _, _, rfl, Up.f (fs := [⟨1, false, tI (ps.getD i tst0).lo⟩, ⟨1, false, (tE (.int .i64 0))⟩, ⟨6, true, (tS [⟨1, false, (tE (.int .u8 0))⟩, ⟨4, true, (tS [⟨2, true, (tS [⟨1, false, (tE (.bool false))⟩, ⟨1, false, (tLm [])⟩])⟩, ⟨2, true, (tS [⟨1, false, (tE (.bool false))⟩, ⟨1, false, (tLm [])⟩])⟩])⟩, ⟨1, false, (tE (.int .i64 0))⟩])⟩]) (f := ⟨1, false, (tE (.int .i64 0))⟩) (fs' := [⟨1, false, tI (ps.getD i tst0).lo⟩, ⟨1, false, tI (ps.getD i tst0).hi⟩, ⟨6, true, (tS [⟨1, false, (tE (.int .u8 0))⟩, ⟨4, true, (tS [⟨2, true, (tS [⟨1, false, (tE (.bool false))⟩, ⟨1, false, (tLm [])⟩])⟩, ⟨2, true, (tS [⟨1, false, (tE (.bool false))⟩, ⟨1, false, (tLm [])⟩])⟩])⟩, ⟨1, false, (tE (.int .i64 0))⟩])⟩]) 1 rfl rfl rfl, inferInstance, ⟨_, _, _, _, rfl, Up.f (fs := [⟨1, false, tI (ps.getD i tst0).lo⟩, ⟨1, false, tI (ps.getD i tst0).hi⟩, ⟨6, true, (tS [⟨1, false, (tE (.int .u8 0))⟩, ⟨4, true, (tS [⟨2, true, (tS [⟨1, false, (tE (.bool false))⟩, ⟨1, false, (tLm [])⟩])⟩, ⟨2, true, (tS [⟨1, false, (tE (.bool false))⟩, ⟨1, false, (tLm [])⟩])⟩])⟩, ⟨1, false, (tE (.int .i64 0))⟩])⟩]) (f := ⟨6, true, (tS [⟨1, false, (tE (.int .u8 0))⟩, ⟨4, true, (tS [⟨2, true, (tS [⟨1, false, (tE (.bool false))⟩, ⟨1, false, (tLm [])⟩])⟩, ⟨2, true, (tS [⟨1, false, (tE (.bool false))⟩, ⟨1, false, (tLm [])⟩])⟩])⟩, ⟨1, false, (tE (.int .i64 0))⟩])⟩) (fs' := [⟨1, false, tI (ps.getD i tst0).lo⟩, ⟨1, false, tI (ps.getD i tst0).hi⟩, ⟨6, true, tVa (ps.getD i tst0).v⟩]) 2 rfl rfl rfl, inferInstance, Le.refl⟩⟩⟩) rfl rfl rfl (R1 (xf4 (n := 1) (f := tTs) [(ps.getD i tst0)] Tryz.underlying88 el103 zf103 rfl (fun _ => inferInstance) rfl rfl rfl) rfl (RE (xf1 (k := 90) (k' := 62) (f := tTs) (ys := [(ps.getD i tst0)]) (ts' := rV tTs (xs ++ [(ps.getD i tst0)])) Tryz.underlying88 el103 zf103 rfl rfl (fun _ => inferInstance) rV_len (by simp; omega) (by simp; omega) (by simp [rV]) (n' := xs.length + 1) rfl) ⟨rfl, rfl, trivial⟩ ⟨rfl, trivial⟩ ⟨rfl, trivial⟩ (R1 x5 rfl (xd9 (by kernel_rfl) (xc6 (x3 ?_))))))
     refine x8 ?_
     refine R2 (xc4 (wr64 (by omega) (by omega))) rfl rfl (R1 x4 rfl (x7 (by kernel_rfl) ?_))
     exact K_famR (l := [90, 1]) (fun j => cond (Nat.beq j 90) 62 (j)) ((i + 1, xs ++ [(ps.getD i tst0)])) ⟨(by dsimp only; exact ⟨by omega, by rw [pst_snoc _ (by omega), ← hx, pst1, if_neg (by omega), if_neg (by omega)]⟩), (by dsimp only; omega)⟩ (SubR.int rfl (by first | omega | rfl | (dsimp only; omega)) (SubR.int rfl (by first | omega | rfl | (dsimp only; omega)) (SubR.cons rfl ((SubR.consI rfl (Imp.of (by dsimp only; rw [List.length_append]; rfl))) SubR.nil)))) ((SubKR.consI rfl (ImpK.of xf8.symm)) SubKR.nil) (SupG.val (SupG.val (SupG.val (SupG.own rfl SupG.nil)))) (SupH.cons rfl (supJ xe3) SupH.nil) (lkOk rfl) rfl rfl (fun _ h => by cases h)
   ·
    refine RGoff (decide_eq_false h72) rfl rfl (RGoff (decide_eq_false h72) rfl rfl (RGoff (decide_eq_false h72) rfl rfl (RGoff (decide_eq_false h72) rfl rfl (RGoff (decide_eq_false h72) rfl rfl (RGoff (decide_eq_false h72) rfl rfl (RGoff (decide_eq_false h72) rfl rfl (RGoff (decide_eq_false h72) rfl rfl ?_)))))))
    refine RGoff (decide_eq_false h72) rfl rfl (R2 (xa7 (decide_eq_false h72)) rfl rfl (R1 x4 rfl (RGoff0 rfl rfl (RGoff0 rfl rfl (RGoff0 rfl rfl (RGoff0 rfl rfl (RGoff0 rfl rfl ?_)))))))
    refine RGoff0 rfl rfl (RGoff0 rfl rfl (RGoff0 rfl rfl (RGoff0 rfl rfl (R2 (xa7 rfl) rfl rfl (xd9 (by kernel_rfl) (x3 (C_bF rfl rfl ?_)))))))
    refine xe1 mixed ?_
    refine R1 x4 rfl (R1 (x9 fo103_0 rfl) rfl (xa5 (0) ti3 rfl rfl rfl (At.g 0 rfl rfl) rfl (R1 (x9 fo103_1 rfl) rfl (xa5 (0) ti3 rfl rfl rfl (At.g 1 rfl rfl) rfl (R1 (x9 fo103_2 rfl) rfl (xa5 (0) ti53 rfl rfl rfl (At.g 2 rfl rfl) rfl (R1 (xa0 (c_copied _ (hD _ (xf5 (l := ps) (by omega))).1 (hD _ (xf5 (l := ps) (by omega))).2) fi106 rfl) rfl ?_)))))))
    refine R3 (xe0 (r := tS [⟨1, false, tI (ps.getD i tst0).lo⟩, ⟨1, false, tI (ps.getD i tst0).hi⟩, ⟨6, true, tVa (ps.getD i tst0).v⟩]) (ts := [(0, tI (ps.getD i tst0).lo), (1, tI (ps.getD i tst0).hi), (2, tVa (ps.getD i tst0).v)]) bu103 zr103.2 ⟨_, rfl⟩ rfl ⟨_, _, _, _, rfl, Up.f (fs := [⟨1, false, (tE (.int .i64 0))⟩, ⟨1, false, (tE (.int .i64 0))⟩, ⟨6, true, (tS [⟨1, false, (tE (.int .u8 0))⟩, ⟨4, true, (tS [⟨2, true, (tS [⟨1, false, (tE (.bool false))⟩, ⟨1, false, (tLm [])⟩])⟩, ⟨2, true, (tS [⟨1, false, (tE (.bool false))⟩, ⟨1, false, (tLm [])⟩])⟩])⟩, ⟨1, false, (tE (.int .i64 0))⟩])⟩]) (f := ⟨1, false, (tE (.int .i64 0))⟩) (fs' := [⟨1, false, tI (ps.getD i tst0).lo⟩, ⟨1, false, (tE (.int .i64 0))⟩, ⟨6, true, (tS [⟨1, false, (tE (.int .u8 0))⟩, ⟨4, true, (tS [⟨2, true, (tS [⟨1, false, (tE (.bool false))⟩, ⟨1, false, (tLm [])⟩])⟩, ⟨2, true, (tS [⟨1, false, (tE (.bool false))⟩, ⟨1, false, (tLm [])⟩])⟩])⟩, ⟨1, false, (tE (.int .i64 0))⟩])⟩]) 0 rfl rfl rfl, inferInstance, ⟨_, _, _, _, rfl, Up.f (fs := [⟨1, false, tI (ps.getD i tst0).lo⟩, ⟨1, false, (tE (.int .i64 0))⟩, ⟨6, true, (tS [⟨1, false, (tE (.int .u8 0))⟩, ⟨4, true, (tS [⟨2, true, (tS [⟨1, false, (tE (.bool false))⟩, ⟨1, false, (tLm [])⟩])⟩, ⟨2, true, (tS [⟨1, false, (tE (.bool false))⟩, ⟨1, false, (tLm [])⟩])⟩])⟩, ⟨1, false, (tE (.int .i64 0))⟩])⟩]) (f := ⟨1, false, (tE (.int .i64 0))⟩) (fs' := [⟨1, false, tI (ps.getD i tst0).lo⟩, ⟨1, false, tI (ps.getD i tst0).hi⟩, ⟨6, true, (tS [⟨1, false, (tE (.int .u8 0))⟩, ⟨4, true, (tS [⟨2, true, (tS [⟨1, false, (tE (.bool false))⟩, ⟨1, false, (tLm [])⟩])⟩, ⟨2, true, (tS [⟨1, false, (tE (.bool false))⟩, ⟨1, false, (tLm [])⟩])⟩])⟩, ⟨1, false, (tE (.int .i64 0))⟩])⟩]) 1 rfl rfl rfl, inferInstance, ⟨_, _, _, _, rfl, Up.f (fs := [⟨1, false, tI (ps.getD i tst0).lo⟩, ⟨1, false, tI (ps.getD i tst0).hi⟩, ⟨6, true, (tS [⟨1, false, (tE (.int .u8 0))⟩, ⟨4, true, (tS [⟨2, true, (tS [⟨1, false, (tE (.bool false))⟩, ⟨1, false, (tLm [])⟩])⟩, ⟨2, true, (tS [⟨1, false, (tE (.bool false))⟩, ⟨1, false, (tLm [])⟩])⟩])⟩, ⟨1, false, (tE (.int .i64 0))⟩])⟩]) (f := ⟨6, true, (tS [⟨1, false, (tE (.int .u8 0))⟩, ⟨4, true, (tS [⟨2, true, (tS [⟨1, false, (tE (.bool false))⟩, ⟨1, false, (tLm [])⟩])⟩, ⟨2, true, (tS [⟨1, false, (tE (.bool false))⟩, ⟨1, false, (tLm [])⟩])⟩])⟩, ⟨1, false, (tE (.int .i64 0))⟩])⟩) (fs' := [⟨1, false, tI (ps.getD i tst0).lo⟩, ⟨1, false, tI (ps.getD i tst0).hi⟩, ⟨6, true, tVa (ps.getD i tst0).v⟩]) 2 rfl rfl rfl, inferInstance, Le.refl⟩⟩⟩) rfl rfl rfl (R1 (xf4 (n := 1) (f := tTs) [(ps.getD i tst0)] Tryz.underlying88 el103 zf103 rfl (fun _ => inferInstance) rfl rfl rfl) rfl (RE (xf1 (k := 90) (k' := 62) (f := tTs) (ys := [(ps.getD i tst0)]) (ts' := rV tTs (xs ++ [(ps.getD i tst0)])) Tryz.underlying88 el103 zf103 rfl rfl (fun _ => inferInstance) rV_len (by simp; omega) (by simp; omega) (by simp [rV]) (n' := xs.length + 1) rfl) ⟨rfl, rfl, trivial⟩ ⟨rfl, trivial⟩ ⟨rfl, trivial⟩ (R1 x5 rfl (xd9 (by kernel_rfl) (xc6 (x3 ?_))))))
    refine x8 ?_
    refine R2 (xc4 (wr64 (by omega) (by omega))) rfl rfl (R1 x4 rfl (x7 (by kernel_rfl) ?_))
    exact K_famR (l := [90, 1]) (fun j => cond (Nat.beq j 90) 62 (j)) ((i + 1, xs ++ [(ps.getD i tst0)])) ⟨(by dsimp only; exact ⟨by omega, by rw [pst_snoc _ (by omega), ← hx, pst1, if_neg (by omega), if_neg (by omega)]⟩), (by dsimp only; omega)⟩ (SubR.int rfl (by first | omega | rfl | (dsimp only; omega)) (SubR.int rfl (by first | omega | rfl | (dsimp only; omega)) (SubR.cons rfl ((SubR.consI rfl (Imp.of (by dsimp only; rw [List.length_append]; rfl))) SubR.nil)))) ((SubKR.consI rfl (ImpK.of xf8.symm)) SubKR.nil) (SupG.val (SupG.val (SupG.val (SupG.own rfl SupG.nil)))) (SupH.cons rfl (supJ xe3) SupH.nil) (lkOk rfl) rfl rfl (fun _ h => by cases h)
 ·
  refine xd1 (xc0 (xc0 (xd8 (x3 (x6 ?_)))))
  have hil : i = ps.length := by omega
  subst hil
  rw [List.take_length] at hx
  subst hx
  refine x8 ?_
  refine R1 x4 rfl (R1 x5 rfl (x7 (by kernel_rfl) (x3 (xa2 ?_))))
  exact xh9 LentC.mk' rfl rfl Imp.refl ⟨rfl, trivial⟩ rfl ⟨⟨rfl, xe3⟩, trivial⟩ rfl
theorem getD_map {f : Tst → Tst} {l : List Tst} {i : Nat} (hi : i < l.length) : (l.map f).getD i tst0 = f (l.getD i tst0) := by
  rw [List.getD_eq_getElem?_getD, List.getD_eq_getElem?_getD, List.getElem?_map, List.getElem?_eq_getElem hi]; rfl
theorem cut_next {a b : Int} {l : List Tst} {i : Nat} (hi : i < l.length) : pst [] ((l.map (clip a b)).take (i + 1)) = pst (pst [] ((l.map (clip a b)).take i)) [clip a b (l.getD i tst0)] := by
  rw [pst_snoc _ (by simpa using hi), getD_map hi]; rfl
theorem c_Cut (l : List Tst) (a b : Int) (hl : l.length ≤ 500000) (hD : ∀ s ∈ l, s.v.f.dig) :
  Ct Tryz.prog 56 [tL 8 true tTs l, tI a, tI b] (tT [tL 8 true tTs (if tRight l = true ∧ Sn.ok ⟨a, b⟩ = true then cutT l a b else []), tI (if tRight l = true ∧ Sn.ok ⟨a, b⟩ = true then 0 else 2)]) := by
 refine Ct.intro Tryz.func56 rfl Tryz.ntmps56 rfl ?_
 intro w F
 refine x6 ?_
 refine x8 ?_
 refine R1 x5 rfl (R1 x5 rfl (x7 (by kernel_rfl) (x3 (x6 (x6 ?_)))))
 refine x8 ?_
 refine R1 x4 rfl (R1 (xa0 (c_TRight l hD) fi103 rfl) rfl (R1 xe7 rfl (R1 x4 rfl ?_)))
 refine RGcase (t := 14) rfl (fun h95 => ?_) (fun h95 => ?_)
 ·
  refine RGoff h95 rfl rfl (RGoff h95 rfl rfl (RGoff h95 rfl rfl (RGoff h95 rfl rfl (R2 (xa8 h95) rfl rfl (x7 (by kernel_rfl) (x3 (C_bT rfl rfl ?_)))))))
  refine x6 ?_
  refine x8 ?_
  refine R1 x5 rfl (R1 x5 rfl (x7 (by kernel_rfl) (x3 (xa2 (xa6 ?_)))))
  exact xf2 Plain.mk' rfl rfl rfl (leNil (by rw [if_neg fun h => by rw [h.1] at h95; cases h95])) (Le.int (by rw [if_neg fun h => by rw [h.1] at h95; cases h95]))
 ·
  refine RGon h95 rfl x4 rfl ⟨rfl, trivial⟩ trivial trivial (RGon h95 rfl x4 rfl ⟨rfl, trivial⟩ trivial trivial (RGon h95 rfl (xa0 (c_isPart _ _) fi107 rfl) rfl ⟨rfl, rfl, trivial⟩ trivial trivial (RGon h95 rfl xe7 rfl ⟨rfl, trivial⟩ trivial trivial (R2 (xa7 h95) rfl rfl (x7 (by kernel_rfl) (x3 ?_))))))
  refine xg6 rfl (fun h95_2 => ?_) (fun h95_2 => ?_)
  ·
   refine x6 ?_
   refine x8 ?_
   refine R1 x5 rfl (R1 x5 rfl (x7 (by kernel_rfl) (x3 (xa2 (xa6 ?_)))))
   exact xf2 Plain.mk' rfl rfl rfl (leNil (by rw [if_neg fun h => by rw [h.2] at h95_2; cases h95_2])) (Le.int (by rw [if_neg fun h => by rw [h.2] at h95_2; cases h95_2]))
  ·
   refine xa4 (x3 (x6 ?_))
   refine x8 ?_
   refine RE (d_assignN (k := 8) 103 8 true rfl (fun h => by cases h)) trivial trivial ⟨rfl, trivial⟩ (x7 (by kernel_rfl) (x3 (x6 (x6 ?_))))
   refine x8 ?_
   refine R1 x4 rfl (R1 (xb9 Tryz.underlying88) rfl (R1 x4 rfl (x7 (by kernel_rfl) (x3 (xa9 ?_)))))
   have hok : tRight l = true ∧ Sn.ok ⟨a, b⟩ = true := ⟨by simpa using h95, by simpa using h95_2⟩
   have hlen := fun s hs => va_len (xi9 hok.1 s hs)
   refine xd6 (fun (fm : (Nat) × (List Tst)) => (fun (i : Nat) (zs : List Tst) => i ≤ l.length ∧ zs = pst [] ((l.map (clip a b)).take i)) fm.1 fm.2) (fun (fm : (Nat) × (List Tst)) => (fun (i : Nat) (zs : List Tst) => upd (upd (upd (upd (upd (upd (fun _ => none) 1 (some (.val (tI a)))) 2 (some (.val (tI b)))) 8 (some (.own (.sl 8 8 0 zs.length)))) 20 (some (.val (tL 8 true tTs l)))) 21 (some (.val (tI l.length)))) 22 (some (.val (tI i)))) fm.1 fm.2) (fun (fm : (Nat) × (List Tst)) => (fun (i : Nat) (zs : List Tst) => upd (fun _ => none) 8 (some (⟨103, 8, true, rV tTs zs⟩))) fm.1 fm.2) (nm [8]) (fun (fm : (Nat) × (List Tst)) => (fun (i : Nat) (zs : List Tst) => l.length - i) fm.1 fm.2) ((0, [])) (by dsimp only; exact ⟨Nat.zero_le _, rfl⟩) (Sub.int rfl (by first | omega | rfl | (dsimp only; omega)) (Sub.int rfl (by first | omega | rfl | (dsimp only; omega)) (Sub.cons rfl (Sub.cons rfl (Sub.int rfl (by first | omega | rfl | (dsimp only; omega)) (Sub.int rfl (by first | omega | rfl | (dsimp only; omega)) Sub.nil)))))) ((SubK.consI rfl ImpK.refl) SubK.nil) (SupG.val (SupG.val (SupG.val (SupG.own rfl (SupG.val (SupG.val SupG.nil)))))) (SupH.cons rfl (supJ xe3) SupH.nil) (lkOk rfl) ?_
   intro fm hI
   obtain ⟨i, zs⟩ := fm
   replace hI : i ≤ l.length ∧ zs = pst [] ((l.map (clip a b)).take i) := hI
   show wc _ _ _ _ (upd (upd (upd (upd (upd (upd (fun _ => none) 1 (some (.val (tI a)))) 2 (some (.val (tI b)))) 8 (some (.own (.sl 8 8 0 zs.length)))) 20 (some (.val (tL 8 true tTs l)))) 21 (some (.val (tI l.length)))) 22 (some (.val (tI i)))) (upd (fun _ => none) 8 (some (⟨103, 8, true, rV tTs zs⟩))) _
   obtain ⟨hi, hz⟩ := hI
   have hzl : zs.length ≤ i := by
    have h := pst_len ((l.map (clip a b)).take i) []
    rw [← hz, List.length_take] at h; simp at h; omega
   refine x6 ?_
   refine x8 ?_
   refine R2 xd5 rfl rfl (x7 (by kernel_rfl) (x3 (x6 ?_)))
   refine xc2 rfl (fun h99 => ?_) (fun h99 => ?_)
   ·
    refine xa4 (x3 (x6 (xa9 (x6 ?_))))
    refine x8 ?_
    refine R2 (xb8 sl88 (i) (by omega) (gD (l := l) (n := i) (d := tst0) (by omega))) rfl rfl (R1 (xc1 ti103) rfl (RE (xc9 (k := 10) (n := 8) (agg := true) zr103.1 zr103.2 rfl) trivial trivial ⟨rfl, trivial⟩ (RE (xb0 (es := 8) (agg := true) (0) ti103 rfl rfl rfl) ⟨rfl, rfl, trivial⟩ ⟨rfl, trivial⟩ trivial (x7 (by kernel_rfl) (x3 ?_)))))
    refine x8 ?_
    refine R1 x4 rfl (R1 (x9 fo103_0 rfl) rfl (xa5 (0) ti3 rfl rfl rfl (At.g 0 rfl rfl) rfl (R1 x4 rfl (R2 d_max2 rfl rfl (R1 (x9 fo103_1 rfl) rfl (xa5 (0) ti3 rfl rfl rfl (At.g 1 rfl rfl) rfl (R1 x4 rfl ?_)))))))
    refine R2 d_min2 rfl rfl (R1 (x9 fo103_2 rfl) rfl (xa5 (0) ti53 rfl rfl rfl (At.g 2 rfl rfl) rfl (R3 (xe0 (r := tS [⟨1, false, tI (max (l.getD i tst0).lo a)⟩, ⟨1, false, tI (min (l.getD i tst0).hi b)⟩, ⟨6, true, tVa (l.getD i tst0).v⟩]) (ts := [(0, tI (max (l.getD i tst0).lo a)), (1, tI (min (l.getD i tst0).hi b)), (2, tVa (l.getD i tst0).v)]) bu103 zr103.2 ⟨_, rfl⟩ rfl ⟨_, _, _, _, rfl, Up.f (fs := [⟨1, false, (tE (.int .i64 0))⟩, ⟨1, false, (tE (.int .i64 0))⟩, ⟨6, true, (tS [⟨1, false, (tE (.int .u8 0))⟩, ⟨4, true, (tS [⟨2, true, (tS [⟨1, false, (tE (.bool false))⟩, ⟨1, false, (tLm [])⟩])⟩, ⟨2, true, (tS [⟨1, false, (tE (.bool false))⟩, ⟨1, false, (tLm [])⟩])⟩])⟩, ⟨1, false, (tE (.int .i64 0))⟩])⟩]) (f := ⟨1, false, (tE (.int .i64 0))⟩) (fs' := [⟨1, false, tI (max (l.getD i tst0).lo a)⟩, ⟨1, false, (tE (.int .i64 0))⟩, ⟨6, true, (tS [⟨1, false, (tE (.int .u8 0))⟩, ⟨4, true, (tS [⟨2, true, (tS [⟨1, false, (tE (.bool false))⟩, ⟨1, false, (tLm [])⟩])⟩, ⟨2, true, (tS [⟨1, false, (tE (.bool false))⟩, ⟨1, false, (tLm [])⟩])⟩])⟩, ⟨1, false, (tE (.int .i64 0))⟩])⟩]) 0 rfl rfl rfl, inferInstance, ⟨_, _, _, _, rfl, Up.f (fs := [⟨1, false, tI (max (l.getD i tst0).lo a)⟩, ⟨1, false, (tE (.int .i64 0))⟩, ⟨6, true, (tS [⟨1, false, (tE (.int .u8 0))⟩, ⟨4, true, (tS [⟨2, true, (tS [⟨1, false, (tE (.bool false))⟩, ⟨1, false, (tLm [])⟩])⟩, ⟨2, true, (tS [⟨1, false, (tE (.bool false))⟩, ⟨1, false, (tLm [])⟩])⟩])⟩, ⟨1, false, (tE (.int .i64 0))⟩])⟩]) (f := ⟨1, false, (tE (.int .i64 0))⟩) (fs' := [⟨1, false, tI (max (l.getD i tst0).lo a)⟩, ⟨1, false, tI (min (l.getD i tst0).hi b)⟩, ⟨6, true, (tS [⟨1, false, (tE (.int .u8 0))⟩, ⟨4, true, (tS [⟨2, true, (tS [⟨1, false, (tE (.bool false))⟩, ⟨1, false, (tLm [])⟩])⟩, ⟨2, true, (tS [⟨1, false, (tE (.bool false))⟩, ⟨1, false, (tLm [])⟩])⟩])⟩, ⟨1, false, (tE (.int .i64 0))⟩])⟩]) 1 rfl rfl rfl, inferInstance, ⟨_, _, _, _, rfl, Up.f (fs := [⟨1, false, tI (max (l.getD i tst0).lo a)⟩, ⟨1, false, tI (min (l.getD i tst0).hi b)⟩, ⟨6, true, (tS [⟨1, false, (tE (.int .u8 0))⟩, ⟨4, true, (tS [⟨2, true, (tS [⟨1, false, (tE (.bool false))⟩, ⟨1, false, (tLm [])⟩])⟩, ⟨2, true, (tS [⟨1, false, (tE (.bool false))⟩, ⟨1, false, (tLm [])⟩])⟩])⟩, ⟨1, false, (tE (.int .i64 0))⟩])⟩]) (f := ⟨6, true, (tS [⟨1, false, (tE (.int .u8 0))⟩, ⟨4, true, (tS [⟨2, true, (tS [⟨1, false, (tE (.bool false))⟩, ⟨1, false, (tLm [])⟩])⟩, ⟨2, true, (tS [⟨1, false, (tE (.bool false))⟩, ⟨1, false, (tLm [])⟩])⟩])⟩, ⟨1, false, (tE (.int .i64 0))⟩])⟩) (fs' := [⟨1, false, tI (max (l.getD i tst0).lo a)⟩, ⟨1, false, tI (min (l.getD i tst0).hi b)⟩, ⟨6, true, tVa (l.getD i tst0).v⟩]) 2 rfl rfl rfl, inferInstance, Le.refl⟩⟩⟩) rfl rfl rfl (R1 (xf4 (n := 1) (f := tTs) [(clip a b (l.getD i tst0))] Tryz.underlying88 el103 zf103 rfl (fun _ => inferInstance) rfl rfl rfl) rfl ?_))))
    have hcl : ∀ s ∈ [(clip a b (l.getD i tst0))], s.v.f.n.l.length ≤ 1000000 ∧ s.v.f.d.l.length ≤ 1000000 := by
     intro s hs
     rw [List.mem_singleton.1 hs]
     have h := hlen _ (xf5 (l := l) (i := i) (by omega))
     exact ⟨by show (l.getD i tst0).v.f.n.l.length ≤ _; omega, by show (l.getD i tst0).v.f.d.l.length ≤ _; omega⟩
    refine RE (xh1 (fun j => cond (Nat.beq j 1) 8 (39)) (c_paste zs [(clip a b (l.getD i tst0))] (by omega) (by simp) hcl) fi108 rfl (krC (ρ := fun j => cond (Nat.beq j 1) 8 (39)) (k := 1) xf8 (krN (ρ := fun j => cond (Nat.beq j 1) 8 (39)))) (krC (ρ := fun j => cond (Nat.beq j 1) 8 (39)) (k := 90) xf8 (krN (ρ := fun j => cond (Nat.beq j 1) 8 (39)))) ⟨⟨rfl, xe3⟩, trivial⟩ rfl) ⟨rfl, rfl, trivial⟩ ⟨rfl, trivial⟩ ⟨rfl, trivial⟩ (R1 x5 rfl (x7 (by kernel_rfl) (xc6 (x3 ?_))))
    refine x8 ?_
    refine R2 (xc4 (wr64 (by omega) (by omega))) rfl rfl (R1 x4 rfl (x7 (by kernel_rfl) ?_))
    exact K_famR (l := [8]) (fun j => cond (Nat.beq j 8) 39 (j)) ((i + 1, pst zs [(clip a b (l.getD i tst0))])) ⟨(by dsimp only; exact ⟨by omega, by rw [cut_next (by omega), ← hz]⟩), (by dsimp only; omega)⟩ (SubR.int rfl (by first | omega | rfl | (dsimp only; omega)) (SubR.int rfl (by first | omega | rfl | (dsimp only; omega)) (SubR.cons rfl (SubR.cons rfl (SubR.int rfl (by first | omega | rfl | (dsimp only; omega)) (SubR.int rfl (by first | omega | rfl | (dsimp only; omega)) SubR.nil)))))) ((SubKR.consI rfl (ImpK.of xf8.symm)) SubKR.nil) (SupG.val (SupG.val (SupG.val (SupG.own rfl (SupG.val (SupG.val SupG.nil)))))) (SupH.cons rfl (supJ xe3) SupH.nil) (lkOk rfl) rfl rfl (fun _ h => by cases h)
   ·
    refine xd1 (xc0 (xc0 (xd8 (x3 (x6 ?_)))))
    refine x8 ?_
    refine R1 x4 rfl (RE (d_assignS (f := tTs) (xs := zs) (fun _ h => h) (rV_all rfl) rfl) ⟨rfl, trivial⟩ ⟨rfl, trivial⟩ trivial (R1 x5 rfl (x7 (by kernel_rfl) (x3 (xa2 ?_)))))
    exact xf2 Plain.mk' rfl rfl rfl (Le.of (by rw [if_pos hok, hz, cutT, show i = (l.map (clip a b)).length by simp; omega, List.take_length])) (Le.int (by rw [if_pos hok]))
end An.S

/- Layer 5: parts of timelines, and sums. Plain data. -/
namespace An
open Go
theorem pst_all {P : Tst → Prop} (hset : ∀ a s, P a → P s → a.hi = s.lo → P ⟨a.lo, s.hi, a.v⟩) : ∀ (ps acc : List Tst), (∀ s ∈ acc, P s) → (∀ s ∈ ps, s.lo < s.hi → P s) → ∀ s ∈ pst acc ps, P s
  | [], acc, ha, _ => ha
  | s :: r, acc, ha, hp => by
    refine pst_all hset r (pst1 acc s) ?_ fun x hx => hp x (List.mem_cons_of_mem _ hx)
    intro x hx
    rw [pst1] at hx
    split at hx
    · exact ha x hx
    · rename_i h1
      split at hx
      · rename_i h2
        rcases List.mem_or_eq_of_mem_set hx with h | h
        · exact ha x h
        · subst h
          exact hset _ s (ha _ (xf5 (by omega))) (hp s (List.mem_cons_self ..) (by omega)) h2.2.1
      · rcases List.mem_append.1 hx with h | h
        · exact ha x h
        · rw [List.mem_singleton.1 h]; exact hp s (List.mem_cons_self ..) (by omega)
theorem xi4 {l : List Tst} (h : tRight l = true) {i : Nat} (hi : i < l.length) : 0 ≤ (l.getD i tst0).lo ∧ (l.getD i tst0).lo < (l.getD i tst0).hi ∧ (l.getD i tst0).hi ≤ 65536 ∧ (i = 0 ∨ (l.getD (i - 1) tst0).hi ≤ (l.getD i tst0).lo ∧ (l.getD (i - 1) tst0).v.kind = (l.getD i tst0).v.kind ∧ ¬ ((l.getD (i - 1) tst0).hi = (l.getD i tst0).lo ∧ (l.getD (i - 1) tst0).v = (l.getD i tst0).v)) := by
  simp only [tRight, Bool.and_eq_true, List.all_eq_true] at h
  exact tOk_iff.1 (h.1 i (List.mem_range.2 hi))
theorem kind_at {l : List Tst} (h : tRight l = true) : ∀ {i : Nat}, i < l.length → (l.getD i tst0).v.kind = (l.getD 0 tst0).v.kind
  | 0, _ => rfl
  | i + 1, hi => by
    rcases (xi4 h hi).2.2.2 with h0 | h0
    · omega
    · rw [← h0.2.1]; exact kind_at h (by omega)
theorem exists_getD {l : List Tst} {s : Tst} (hs : s ∈ l) : ∃ i, i < l.length ∧ s = l.getD i tst0 := by
  obtain ⟨i, hi, e⟩ := List.getElem_of_mem hs
  exact ⟨i, hi, by rw [List.getD_eq_getElem?_getD, List.getElem?_eq_getElem hi]; exact e.symm⟩
/-- A step of numbers. -/
def sNum (s : Tst) : Prop := 0 ≤ s.lo ∧ s.lo < s.hi ∧ s.hi ≤ 65536 ∧ s.v.f = fr s.v.f.rat ∧ short s.v.f.rat
def numK (l : List Tst) : Prop := l.length = 0 ∨ (l.getD 0 tst0).v.kind = 2 ∨ (l.getD 0 tst0).v.kind = 3
instance (l : List Tst) : Decidable (numK l) := inferInstanceAs (Decidable (_ ∨ _))
theorem num_fr {v : Va} (hv : v.valid = true) (hD : v.f.dig) (hk : v.kind = 2 ∨ v.kind = 3) : v.f = fr v.f.rat ∧ short v.f.rat := by
  rw [Va.valid, if_pos hk, Bool.and_eq_true] at hv
  exact Fr.of_valid' hD hv.2
theorem num_mem {l : List Tst} (h : tRight l = true) (hD : ∀ s ∈ l, s.v.f.dig) (hk : numK l) {s : Tst} (hs : s ∈ l) : sNum s := by
  obtain ⟨i, hi, rfl⟩ := exists_getD hs
  have h1 := xi4 h hi
  have h2 := kind_at h hi
  have h3 := num_fr (xi9 h _ hs) (hD _ hs) (by rw [h2]; rcases hk with h0 | h0; omega; exact h0)
  exact ⟨h1.1, h1.2.1, h1.2.2.1, h3⟩
theorem cut_num {l : List Tst} {a b : Int} (h : tRight l = true) (hD : ∀ s ∈ l, s.v.f.dig) (hk : numK l) : ∀ s ∈ cutT l a b, sNum s := by
  refine pst_all (P := sNum) (fun x s hx hs e => ⟨hx.1, by have := hx.2.1; have := hs.2.1; dsimp only; omega, hs.2.2.1, hx.2.2.2⟩) _ _ (fun s hs => by cases hs) fun s hs hlt => ?_
  obtain ⟨x, hx, rfl⟩ := List.mem_map.1 hs
  have h1 := num_mem h hD hk hx
  simp only [clip] at hlt
  refine ⟨?_, hlt, ?_, h1.2.2.2⟩
  · have := h1.1; simp only [clip]; omega
  · have := h1.2.2.1; simp only [clip]; omega
/-- The sum of the days' values. -/
def sumStep : Option Rat → Tst → Option Rat
  | none, _ => none
  | some q, s => if short (s.v.f.rat * ((s.hi - s.lo : Int) : Rat)) ∧ short (q + s.v.f.rat * ((s.hi - s.lo : Int) : Rat)) then some (q + s.v.f.rat * ((s.hi - s.lo : Int) : Rat)) else none
def sumT (l : List Tst) : Option Rat := l.foldl sumStep (some ((0 : Int) : Rat))
theorem sum_next {l : List Tst} {i : Nat} (hi : i < l.length) : sumT (l.take (i + 1)) = sumStep (sumT (l.take i)) (l.getD i tst0) := by
  rw [List.take_succ_eq_append_getElem hi, sumT, List.foldl_append, List.getD_eq_getElem?_getD, List.getElem?_eq_getElem hi]; rfl
theorem sum_none : ∀ l : List Tst, l.foldl sumStep none = none
  | [] => rfl
  | _ :: r => sum_none r
theorem sum_stop {l : List Tst} {i : Nat} (h : sumT (l.take i) = none) : sumT l = none := by
  rw [sumT, ← List.take_append_drop i l, List.foldl_append]
  rw [sumT] at h; rw [h]; exact sum_none _
def sumF : Option Rat → Fr
  | some q => fr q
  | none => fr0
def sumE : Option Rat → Int
  | some _ => 0
  | none => 3
def sumC (l : List Tst) (a b : Int) : Prop := (tRight l = true ∧ Sn.ok ⟨a, b⟩ = true) ∧ numK l
instance (l : List Tst) (a b : Int) : Decidable (sumC l a b) := inferInstanceAs (Decidable (_ ∧ _))
theorem resFE_zero {q : Rat} (h : resFE q = 0) : short q := by
  rw [resFE] at h; split at h
  · assumption
  · cases h
theorem resFE_not {q : Rat} (h : ¬ resFE q = 0) : ¬ short q := fun hs => h (if_pos hs)
end An

/- Layer 5: sums. -/
namespace An.S
open Go Go.Proofs An
set_option maxHeartbeats 2000000
theorem fi56 : FnI Tryz.prog 56 := ⟨_, Tryz.func56, by kernel_rfl, rfl⟩
theorem fi71 : FnI Tryz.prog 71 := ⟨_, Tryz.func71, by kernel_rfl, rfl⟩
theorem fi73 : FnI Tryz.prog 73 := ⟨_, Tryz.func73, by kernel_rfl, rfl⟩
theorem fi98 : FnI Tryz.prog 98 := ⟨_, Tryz.func98, by kernel_rfl, rfl⟩
theorem c_FMulT (f : Fr) (n : Int) (hf : f = fr f.rat) (hs : short f.rat) (hn : short (n : Rat)) : Ct Tryz.prog 73 [tFr f, tFr (fr (n : Rat))] (tT [tFr (resF (f.rat * (n : Rat))), tI (resFE (f.rat * (n : Rat)))]) := by
  have h := c_FMul f.rat n hs hn
  rw [← hf] at h; exact h
theorem c_FAddR (q p : Rat) (hq : short q) (hp : short p) : Ct Tryz.prog 98 [tFr (fr q), tFr (resF p)] (tT [tFr (resF (q + p)), tI (resFE (q + p))]) := by
  rw [show resF p = fr p from if_pos hp]; exact c_FAdd q p hq hp
theorem c_TSum (l : List Tst) (a b : Int) (hl : l.length ≤ 500000) (hD : ∀ s ∈ l, s.v.f.dig) :
  Ct Tryz.prog 55 [tL 8 true tTs l, tI a, tI b] (tT [tFr (if sumC l a b then sumF (sumT (cutT l a b)) else fr0), tI (if sumC l a b then sumE (sumT (cutT l a b)) else 2)]) := by
 have hcut := c_Cut l a b hl hD
 obtain ⟨part, hpart⟩ : ∃ p : List Tst, p = (if (tRight l = true ∧ Sn.ok ⟨a, b⟩ = true) then cutT l a b else []) := ⟨_, rfl⟩
 obtain ⟨er, her⟩ : ∃ e : Int, e = (if (tRight l = true ∧ Sn.ok ⟨a, b⟩ = true) then 0 else 2) := ⟨_, rfl⟩
 rw [← hpart, ← her] at hcut
 refine Ct.intro Tryz.func55 rfl Tryz.ntmps55 rfl ?_
 intro w F
 refine x6 ?_
 refine x8 ?_
 refine RE (xc9 (k := 6) (n := 4) (agg := true) zr49.1 zr49.2 rfl) trivial trivial ⟨rfl, trivial⟩ (R1 x5 rfl (x7 (by kernel_rfl) (x3 (x6 ?_))))
 refine x8 ?_
 refine R1 x4 rfl (R1 x4 rfl (R1 x4 rfl (R3 (xa0 hcut fi56 rfl) rfl rfl rfl (R1 x4 rfl (R1 (xb7 rfl) rfl (R1 (xb7 rfl) rfl (R1 x5 rfl ?_)))))))
 refine R1 x5 rfl (x7 (by kernel_rfl) (x3 (x6 (x6 ?_))))
 refine x8 ?_
 refine R1 x4 rfl (R2 d_neq rfl rfl (x7 (by kernel_rfl) (x3 ?_)))
 refine xc2 rfl (fun h181 => ?_) (fun h181 => ?_)
 ·
  have hb0 : ¬ (tRight l = true ∧ Sn.ok ⟨a, b⟩ = true) := fun h => h181 (by rw [her, if_pos h])
  have hb : ¬ sumC l a b := fun h => hb0 h.1
  refine x6 ?_
  refine x8 ?_
  refine R0 (xe0 (r := tS [⟨2, true, (tS [⟨1, false, (tE (.bool false))⟩, ⟨1, false, (tLm [])⟩])⟩, ⟨2, true, (tS [⟨1, false, (tE (.bool false))⟩, ⟨1, false, (tLm [])⟩])⟩]) (ts := []) bu49 zr49.2 ⟨_, rfl⟩ rfl Le.refl)  (R1 x4 rfl (RE (xb0 (es := 4) (agg := true) (0) ti49 rfl rfl rfl) ⟨rfl, rfl, trivial⟩ ⟨rfl, trivial⟩ trivial (R1 x5 rfl (x7 (by kernel_rfl) (x3 (xa2 (xa6 ?_)))))))
  exact xg4 Plain.mk' (rs := [.cell 6 49, .tmp 7]) rfl rfl ⟨⟨_, _, _, _, _, rfl, rfl, ti49, (Le.of (by rw [if_neg hb]; rfl))⟩, ⟨_, rfl, (Le.int (by rw [if_neg hb, her, if_neg hb0]))⟩, trivial⟩
 ·
  have hok : (tRight l = true ∧ Sn.ok ⟨a, b⟩ = true) := Classical.byContradiction fun h => h181 (by rw [her, if_neg h]; decide)
  refine xa4 (x3 ?_)
  refine xh2 (fun (_j : Unit) => numK l) (fun (_j : Unit) => upd (upd (fun _ => none) 6 (some (.own (.ptr 6 0)))) 8 (some (.val (tL 8 true tTs part)))) (fun (_j : Unit) => upd (fun _ => none) 6 (some (⟨49, 4, true, [.val (tFr fr0)]⟩))) (nm [6]) ?_ ?_
  ·
   refine x6 ?_
   refine x8 ?_
   refine R1 x4 rfl (R1 (xb9 Tryz.underlying88) rfl (R2 d_gtr rfl rfl (R1 x4 rfl ?_)))
   refine RGcaseD (t := 29) rfl (fun h184 => ?_) (fun h184 => ?_)
   ·
    refine RGon (decide_eq_true h184) rfl x4 rfl ⟨rfl, trivial⟩ trivial trivial (RGon (decide_eq_true h184) rfl (xb8 sl88 (0) (by omega) (gD (l := l) (n := 0) (d := tst0) (by omega))) rfl ⟨rfl, rfl, trivial⟩ trivial trivial (RGon (decide_eq_true h184) rfl (xh0 fo103_2 (At.f 2 rfl rfl) rfl) rfl ⟨rfl, trivial⟩ trivial trivial (RGon (decide_eq_true h184) rfl (xh0 fo53_0 (At.f 0 rfl rfl) rfl) rfl ⟨rfl, trivial⟩ trivial trivial (RGon (decide_eq_true h184) rfl (xc1 ti5) rfl ⟨rfl, trivial⟩ trivial trivial (RGon (decide_eq_true h184) rfl d_neq rfl ⟨rfl, rfl, trivial⟩ trivial trivial (R2 (xa8 (decide_eq_true h184)) rfl rfl (R1 x4 rfl ?_)))))))
    refine RGcaseD (t := 37) rfl (fun h184_2 => ?_) (fun h184_2 => ?_)
    ·
     refine RGon (decide_eq_true h184_2) rfl x4 rfl ⟨rfl, trivial⟩ trivial trivial (RGon (decide_eq_true h184_2) rfl (xb8 sl88 (0) (by omega) (gD (l := l) (n := 0) (d := tst0) (by omega))) rfl ⟨rfl, rfl, trivial⟩ trivial trivial (RGon (decide_eq_true h184_2) rfl (xh0 fo103_2 (At.f 2 rfl rfl) rfl) rfl ⟨rfl, trivial⟩ trivial trivial (RGon (decide_eq_true h184_2) rfl (xh0 fo53_0 (At.f 0 rfl rfl) rfl) rfl ⟨rfl, trivial⟩ trivial trivial (RGon (decide_eq_true h184_2) rfl (xc1 ti5) rfl ⟨rfl, trivial⟩ trivial trivial (RGon (decide_eq_true h184_2) rfl d_neq rfl ⟨rfl, rfl, trivial⟩ trivial trivial (R2 (xa8 (decide_eq_true h184_2)) rfl rfl (x7 (by kernel_rfl) ?_)))))))
     refine x3 ?_
     refine xc2 rfl (fun h184_3 => ?_) (fun h184_3 => ?_)
     ·
      refine x6 ?_
      refine x8 ?_
      refine R0 (xe0 (r := tS [⟨2, true, (tS [⟨1, false, (tE (.bool false))⟩, ⟨1, false, (tLm [])⟩])⟩, ⟨2, true, (tS [⟨1, false, (tE (.bool false))⟩, ⟨1, false, (tLm [])⟩])⟩]) (ts := []) bu49 zr49.2 ⟨_, rfl⟩ rfl Le.refl)  (RE (xb0 (es := 4) (agg := true) (0) ti49 rfl rfl rfl) ⟨rfl, rfl, trivial⟩ ⟨rfl, trivial⟩ trivial (R1 x5 rfl (x7 (by kernel_rfl) (x3 (xa2 (xa6 ?_))))))
      exact xg4 Plain.mk' (rs := [.cell 6 49, .tmp 7]) rfl rfl ⟨⟨_, _, _, _, _, rfl, rfl, ti49, (Le.of (by rw [if_neg (fun h => by have := h.2; simp only [numK] at this; omega)]; rfl))⟩, ⟨_, rfl, (Le.int (by rw [if_neg (fun h => by have := h.2; simp only [numK] at this; omega)]))⟩, trivial⟩
     ·
      refine xa4 ?_
      exact xc7 (()) (by simp only [numK]; omega) (Sub.cons rfl (Sub.cons rfl Sub.nil)) ((SubK.consI rfl ImpK.refl) SubK.nil) (SupG.val (SupG.own rfl SupG.nil)) (SupH.cons rfl (supJL rfl) SupH.nil) (lkOk rfl)
    ·
     refine RGoff (decide_eq_false h184_2) rfl rfl (RGoff (decide_eq_false h184_2) rfl rfl (RGoff (decide_eq_false h184_2) rfl rfl (RGoff (decide_eq_false h184_2) rfl rfl (RGoff (decide_eq_false h184_2) rfl rfl (RGoff (decide_eq_false h184_2) rfl rfl (R2 (xa7 (decide_eq_false h184_2)) rfl rfl (x7 (by kernel_rfl) ?_)))))))
     refine x3 (C_bF rfl rfl (xa4 ?_))
     exact xc7 (()) (by simp only [numK]; omega) (Sub.cons rfl (Sub.cons rfl Sub.nil)) ((SubK.consI rfl ImpK.refl) SubK.nil) (SupG.val (SupG.own rfl SupG.nil)) (SupH.cons rfl (supJL rfl) SupH.nil) (lkOk rfl)
   ·
    refine RGoff (decide_eq_false h184) rfl rfl (RGoff (decide_eq_false h184) rfl rfl (RGoff (decide_eq_false h184) rfl rfl (RGoff (decide_eq_false h184) rfl rfl (RGoff (decide_eq_false h184) rfl rfl (RGoff (decide_eq_false h184) rfl rfl (R2 (xa7 (decide_eq_false h184)) rfl rfl (R1 x4 rfl ?_)))))))
    refine RGoff0 rfl rfl (RGoff0 rfl rfl (RGoff0 rfl rfl (RGoff0 rfl rfl (RGoff0 rfl rfl (RGoff0 rfl rfl (R2 (xa7 rfl) rfl rfl (x7 (by kernel_rfl) ?_)))))))
    refine x3 (C_bF rfl rfl (xa4 ?_))
    exact xc7 (()) (by simp only [numK]; omega) (Sub.cons rfl (Sub.cons rfl Sub.nil)) ((SubK.consI rfl ImpK.refl) SubK.nil) (SupG.val (SupG.own rfl SupG.nil)) (SupH.cons rfl (supJL rfl) SupH.nil) (lkOk rfl)
  ·
   intro _j hnk
   refine x6 ?_
   refine x8 ?_
   refine R1 (xa0 (c_FFromInt 0 (by decide) (by decide)) fi71 rfl) rfl (RE (xc9 (k := 10) (n := 4) (agg := true) zr49.1 zr49.2 rfl) trivial trivial ⟨rfl, trivial⟩ (RE (xb0 (es := 4) (agg := true) (0) ti49 rfl rfl rfl) ⟨rfl, rfl, trivial⟩ ⟨rfl, trivial⟩ trivial (x7 (by kernel_rfl) (x3 (x6 (x6 ?_))))))
   refine x8 ?_
   refine R1 x4 rfl (R1 (xb9 Tryz.underlying88) rfl (R1 x4 rfl (x7 (by kernel_rfl) (x3 (xa9 ?_)))))
   have hc : sumC l a b := ⟨hok, hnk⟩
   have hnum := cut_num (a := a) (b := b) hok.1 hD hc.2
   rw [if_pos hok] at hpart
   rw [← hpart] at hnum
   refine C_len (s := 47) rfl (fun hl0 => ?_)
   refine xd6 (fun (fm : (Nat) × (Rat)) => (fun (i : Nat) (q : Rat) => i ≤ part.length ∧ sumT (part.take i) = some q ∧ short q) fm.1 fm.2) (fun (fm : (Nat) × (Rat)) => (fun (i : Nat) (q : Rat) => upd (upd (upd (upd (upd (fun _ => none) 6 (some (.own (.ptr 6 0)))) 10 (some (.own (.ptr 10 0)))) 47 (some (.val (tL 8 true tTs part)))) 48 (some (.val (tI part.length)))) 49 (some (.val (tI i)))) fm.1 fm.2) (fun (fm : (Nat) × (Rat)) => (fun (i : Nat) (q : Rat) => upd (upd (fun _ => none) 6 (some (⟨49, 4, true, [.val (tFr fr0)]⟩))) 10 (some (⟨49, 4, true, [.val (tFr (fr q))]⟩))) fm.1 fm.2) (nm [6, 10]) (fun (fm : (Nat) × (Rat)) => (fun (i : Nat) (q : Rat) => part.length - i) fm.1 fm.2) ((0, ((0 : Int) : Rat))) (by dsimp only; exact ⟨Nat.zero_le _, rfl, short_int (Nat.le_trans (len16_64 (by decide) (by decide)) (by decide))⟩) (Sub.int rfl (by first | omega | rfl | (dsimp only; omega)) (Sub.int rfl (by first | omega | rfl | (dsimp only; omega)) (Sub.cons rfl (Sub.cons rfl (Sub.cons rfl Sub.nil))))) ((SubK.consI rfl ImpK.refl) ((SubK.consI rfl ImpK.refl) SubK.nil)) (SupG.val (SupG.val (SupG.val (SupG.own rfl (SupG.own rfl SupG.nil))))) (SupH.cons rfl (supJL rfl) (SupH.cons rfl (supJL rfl) SupH.nil)) (lkOk rfl) ?_
   intro fm hI
   obtain ⟨i, q⟩ := fm
   replace hI : i ≤ part.length ∧ sumT (part.take i) = some q ∧ short q := hI
   show wc _ _ _ _ (upd (upd (upd (upd (upd (fun _ => none) 6 (some (.own (.ptr 6 0)))) 10 (some (.own (.ptr 10 0)))) 47 (some (.val (tL 8 true tTs part)))) 48 (some (.val (tI part.length)))) 49 (some (.val (tI i)))) (upd (upd (fun _ => none) 6 (some (⟨49, 4, true, [.val (tFr fr0)]⟩))) 10 (some (⟨49, 4, true, [.val (tFr (fr q))]⟩))) _
   obtain ⟨hi, hq, hs⟩ := hI
   refine x6 ?_
   refine x8 ?_
   refine R2 xd5 rfl rfl (x7 (by kernel_rfl) (x3 (x6 ?_)))
   refine xc2 rfl (fun h188 => ?_) (fun h188 => ?_)
   ·
    refine xa4 (x3 (x6 (xa9 (x6 ?_))))
    refine x8 ?_
    obtain ⟨n1, n2, n3, n4, n5⟩ := hnum _ (xf5 (l := part) (i := i) (by omega))
    refine R2 (xb8 sl88 (i) (by omega) (gD (l := part) (n := i) (d := tst0) (by omega))) rfl rfl (R1 (xc1 ti103) rfl (RE (xc9 (k := 12) (n := 8) (agg := true) zr103.1 zr103.2 rfl) trivial trivial ⟨rfl, trivial⟩ (RE (xb0 (es := 8) (agg := true) (0) ti103 rfl rfl rfl) ⟨rfl, rfl, trivial⟩ ⟨rfl, trivial⟩ trivial (x7 (by kernel_rfl) (x3 (x6 ?_))))))
    refine xe1 mixed ?_
    refine R1 (x9 fo103_2 rfl) rfl (R1 (x9 fo53_1 rfl) rfl (xa5 (0) ti49 rfl rfl rfl (At.t (At.g 2 rfl rfl) (At.g 1 rfl rfl)) rfl (R1 (x9 fo103_1 rfl) rfl (xa5 (0) ti3 rfl rfl rfl (At.g 1 rfl rfl) rfl (R1 (x9 fo103_0 rfl) rfl (xa5 (0) ti3 rfl rfl rfl (At.g 0 rfl rfl) rfl (R2 (xe4 (wr64 (by omega) (by omega))) rfl rfl ?_)))))))
    refine R1 (xa0 (c_FFromInt ((part.getD i tst0).hi - (part.getD i tst0).lo) (by omega) (by omega)) fi71 rfl) rfl (R2 (xa0 (c_FMulT (part.getD i tst0).v.f ((part.getD i tst0).hi - (part.getD i tst0).lo) n4 n5 (short_int (Nat.le_trans (len16_64 (by omega) (by omega)) (by decide)))) fi73 rfl) rfl rfl (R1 x4 rfl (R1 (xb7 rfl) rfl (R1 (xb7 rfl) rfl (RE (xc9 (k := 13) (n := 4) (agg := true) zr49.1 zr49.2 rfl) trivial trivial ⟨rfl, trivial⟩ (RE (xb0 (es := 4) (agg := true) (0) ti49 rfl rfl rfl) ⟨rfl, rfl, trivial⟩ ⟨rfl, trivial⟩ trivial (R1 x5 rfl ?_)))))))
    refine xd9 (by kernel_rfl) (x3 (x6 (x6 ?_)))
    refine x8 ?_
    refine R1 x4 rfl (R2 xe5 rfl rfl (x7 (by kernel_rfl) (x3 ?_)))
    refine xc2 rfl (fun h190 => ?_) (fun h190 => ?_)
    ·
     have hp := resFE_zero h190
     refine x8 ?_
     refine RE (xb3 (0) ti49 rfl rfl) ⟨rfl, trivial⟩ ⟨rfl, trivial⟩ trivial (RE (xb3 (0) ti49 rfl rfl) ⟨rfl, trivial⟩ ⟨rfl, trivial⟩ trivial (R2 (xa0 (c_FAddR q ((part.getD i tst0).v.f.rat * (((part.getD i tst0).hi - (part.getD i tst0).lo : Int) : Rat)) hs hp) fi98 rfl) rfl rfl (R1 x4 rfl (R1 (xb7 rfl) rfl (R1 (xb7 rfl) rfl (RE (xb0 (es := 4) (agg := true) (0) ti49 rfl rfl rfl) ⟨rfl, rfl, trivial⟩ ⟨rfl, trivial⟩ trivial (R1 x5 rfl ?_)))))))
     refine x7 (by kernel_rfl) (x3 (x6 ?_))
     refine x8 ?_
     refine R1 x4 rfl (R2 d_neq rfl rfl (x7 (by kernel_rfl) (x3 ?_)))
     refine xc2 rfl (fun h193 => ?_) (fun h193 => ?_)
     ·
      refine x6 ?_
      refine x8 ?_
      refine R0 (xe0 (r := tS [⟨2, true, (tS [⟨1, false, (tE (.bool false))⟩, ⟨1, false, (tLm [])⟩])⟩, ⟨2, true, (tS [⟨1, false, (tE (.bool false))⟩, ⟨1, false, (tLm [])⟩])⟩]) (ts := []) bu49 zr49.2 ⟨_, rfl⟩ rfl Le.refl)  (R1 x4 rfl (RE (xb0 (es := 4) (agg := true) (0) ti49 rfl rfl rfl) ⟨rfl, rfl, trivial⟩ ⟨rfl, trivial⟩ trivial (R1 x5 rfl (x7 (by kernel_rfl) (x3 (xa2 (xc8 ?_)))))))
      refine xa6 (xa6 (xc8 (xa6 ?_)))
      exact xg4 Plain.mk' (rs := [.cell 6 49, .tmp 7]) rfl rfl ⟨⟨_, _, _, _, _, rfl, rfl, ti49, (Le.of (by rw [if_pos hc, ← hpart, sum_stop (i := i + 1) (by rw [sum_next (by omega), hq, sumStep, if_neg (fun h => resFE_not h193 h.2)])]; rfl))⟩, ⟨_, rfl, (Le.int (by rw [if_pos hc, ← hpart, sum_stop (i := i + 1) (by rw [sum_next (by omega), hq, sumStep, if_neg (fun h => resFE_not h193 h.2)]), resFE, if_neg (resFE_not h193)]; rfl))⟩, trivial⟩
     ·
      have h193z := Decidable.not_not.1 h193
      refine xa4 (xc6 (x3 ?_))
      refine x8 ?_
      refine R2 (xc4 (wr64 (by omega) (by omega))) rfl rfl (R1 x4 rfl (x7 (by kernel_rfl) ?_))
      exact xc7 ((i + 1, q + ((part.getD i tst0).v.f.rat * (((part.getD i tst0).hi - (part.getD i tst0).lo : Int) : Rat)))) ⟨(by dsimp only; exact ⟨by omega, by rw [sum_next (by omega), hq, sumStep, if_pos ⟨hp, resFE_zero h193z⟩], resFE_zero h193z⟩), (by dsimp only; omega)⟩ (Sub.int rfl (by first | omega | rfl | (dsimp only; omega)) (Sub.int rfl (by first | omega | rfl | (dsimp only; omega)) (Sub.cons rfl (Sub.cons rfl (Sub.cons rfl Sub.nil))))) ((SubK.consI rfl (ImpK.of (by dsimp only; rw [resF, if_pos (resFE_zero h193z)]; rfl))) ((SubK.consI rfl ImpK.refl) SubK.nil)) (SupG.val (SupG.val (SupG.val (SupG.own rfl (SupG.own rfl SupG.nil))))) (SupH.cons rfl (supJL rfl) (SupH.cons rfl (supJL rfl) SupH.nil)) (lkOk rfl)
    ·
     refine xa4 (x3 (x6 ?_))
     refine x8 ?_
     refine R1 x4 rfl (R2 d_neq rfl rfl (x7 (by kernel_rfl) (x3 ?_)))
     refine xc2 rfl (fun h193 => ?_) (fun h193 => ?_)
     ·
      refine x6 ?_
      refine x8 ?_
      refine R0 (xe0 (r := tS [⟨2, true, (tS [⟨1, false, (tE (.bool false))⟩, ⟨1, false, (tLm [])⟩])⟩, ⟨2, true, (tS [⟨1, false, (tE (.bool false))⟩, ⟨1, false, (tLm [])⟩])⟩]) (ts := []) bu49 zr49.2 ⟨_, rfl⟩ rfl Le.refl)  (R1 x4 rfl (RE (xb0 (es := 4) (agg := true) (0) ti49 rfl rfl rfl) ⟨rfl, rfl, trivial⟩ ⟨rfl, trivial⟩ trivial (R1 x5 rfl (x7 (by kernel_rfl) (x3 (xa2 (xc8 ?_)))))))
      refine xa6 (xa6 (xc8 (xa6 ?_)))
      exact xg4 Plain.mk' (rs := [.cell 6 49, .tmp 7]) rfl rfl ⟨⟨_, _, _, _, _, rfl, rfl, ti49, (Le.of (by rw [if_pos hc, ← hpart, sum_stop (i := i + 1) (by rw [sum_next (by omega), hq, sumStep, if_neg (fun h => resFE_not h193 h.1)])]; rfl))⟩, ⟨_, rfl, (Le.int (by rw [if_pos hc, ← hpart, sum_stop (i := i + 1) (by rw [sum_next (by omega), hq, sumStep, if_neg (fun h => resFE_not h193 h.1)]), resFE, if_neg (resFE_not h193)]; rfl))⟩, trivial⟩
     ·
      have h193z := Decidable.not_not.1 h193
      refine xa4 (xc6 (x3 ?_))
      refine x8 ?_
      refine R2 (xc4 (wr64 (by omega) (by omega))) rfl rfl (R1 x4 rfl (x7 (by kernel_rfl) ?_))
      exact xc7 ((i + 1, q)) ⟨(by dsimp only; exact absurd h193z h190), (by dsimp only; omega)⟩ (Sub.int rfl (by first | omega | rfl | (dsimp only; omega)) (Sub.int rfl (by first | omega | rfl | (dsimp only; omega)) (Sub.cons rfl (Sub.cons rfl (Sub.cons rfl Sub.nil))))) ((SubK.consI rfl ImpK.refl) ((SubK.consI rfl ImpK.refl) SubK.nil)) (SupG.val (SupG.val (SupG.val (SupG.own rfl (SupG.own rfl SupG.nil))))) (SupH.cons rfl (supJL rfl) (SupH.cons rfl (supJL rfl) SupH.nil)) (lkOk rfl)
   ·
    refine xd1 (xc0 (xc0 (xd8 (x3 (x6 ?_)))))
    refine x8 ?_
    refine RE (xb3 (0) ti49 rfl rfl) ⟨rfl, trivial⟩ ⟨rfl, trivial⟩ trivial (RE (xb0 (es := 4) (agg := true) (0) ti49 rfl rfl rfl) ⟨rfl, rfl, trivial⟩ ⟨rfl, trivial⟩ trivial (R1 x5 rfl (x7 (by kernel_rfl) (x3 (xa2 ?_)))))
    exact xg4 Plain.mk' (rs := [.cell 6 49, .tmp 7]) rfl rfl ⟨⟨_, _, _, _, _, rfl, rfl, ti49, (Le.of (by rw [if_pos hc, ← hpart, ← List.take_length (l := part), ← show i = part.length by omega, hq]; rfl))⟩, ⟨_, rfl, (Le.int (by rw [if_pos hc, ← hpart, ← List.take_length (l := part), ← show i = part.length by omega, hq]; rfl))⟩, trivial⟩
end An.S
