/- Part 4 of a proof: W11, W12, W13, Split, W14, W15, Split2, W21, Split3, W22, W23, Ref, W16, Ref2, W17, Ref3, W18, W19. -/
import Derived.Test.YtkenppkgldecmaaGreatR3
/- Package frac. -/
namespace An.S
open Go Go.Proofs An
set_option maxHeartbeats 1000000
theorem ti49 : TyI Tryz.prog 49 4 true := ⟨by kernel_rfl, by kernel_rfl⟩
theorem ti162 : TyI Tryz.prog 162 4 true := ⟨by kernel_rfl, by kernel_rfl⟩
theorem fo49_0 : fieldO Tryz.prog 49 0 = some 0 := by kernel_rfl
theorem fo49_1 : fieldO Tryz.prog 49 1 = some 2 := by kernel_rfl
theorem fo162_0 : fieldO Tryz.prog 162 0 = some 0 := by kernel_rfl
theorem fi123 : FnI Tryz.prog 123 := ⟨_, Tryz.func123, by kernel_rfl, rfl⟩
theorem fi139 : FnI Tryz.prog 139 := ⟨_, Tryz.func139, by kernel_rfl, rfl⟩
theorem fi167 : FnI Tryz.prog 167 := ⟨_, Tryz.func167, by kernel_rfl, rfl⟩
theorem fi168 : FnI Tryz.prog 168 := ⟨_, Tryz.func168, by kernel_rfl, rfl⟩
theorem fi169 : FnI Tryz.prog 169 := ⟨_, Tryz.func169, by kernel_rfl, rfl⟩
theorem fi170 : FnI Tryz.prog 170 := ⟨_, Tryz.func170, by kernel_rfl, rfl⟩
theorem fi175 : FnI Tryz.prog 175 := ⟨_, Tryz.func175, by kernel_rfl, rfl⟩
theorem fi192 : FnI Tryz.prog 192 := ⟨_, Tryz.func192, by kernel_rfl, rfl⟩
theorem fi203 : FnI Tryz.prog 203 := ⟨_, Tryz.func203, by kernel_rfl, rfl⟩
theorem zr49 : (Tryz.prog.info? 49).bind (·.zero) = some (.agg #[.bool false, .slice none 0 0, .bool false, .slice none 0 0]) ∧ ∀ F w, (tS [⟨2, true, (tS [⟨1, false, (tE (.bool false))⟩, ⟨1, false, (tLm [])⟩])⟩, ⟨2, true, (tS [⟨1, false, (tE (.bool false))⟩, ⟨1, false, (tLm [])⟩])⟩]).p F w (.agg #[.bool false, .slice none 0 0, .bool false, .slice none 0 0]) := ⟨by kernel_rfl, fun _ _ => ⟨_, rfl, rfl, ⟨fun h => Bool.noConfusion h, ⟨_, rfl, rfl, ⟨fun _ => rfl, rfl⟩, ⟨fun _ => rfl, ⟨none, 0, rfl, Nat.le_refl _, by decide, .inl rfl⟩⟩, trivial⟩⟩, ⟨fun h => Bool.noConfusion h, ⟨_, rfl, rfl, ⟨fun _ => rfl, rfl⟩, ⟨fun _ => rfl, ⟨none, 0, rfl, Nat.le_refl _, by decide, .inl rfl⟩⟩, trivial⟩⟩, trivial⟩⟩
theorem zr162 : (Tryz.prog.info? 162).bind (·.zero) = some (.agg #[.bool false, .slice none 0 0, .bool false, .slice none 0 0]) ∧ ∀ F w, (tS [⟨4, true, (tS [⟨2, true, (tS [⟨1, false, (tE (.bool false))⟩, ⟨1, false, (tLm [])⟩])⟩, ⟨2, true, (tS [⟨1, false, (tE (.bool false))⟩, ⟨1, false, (tLm [])⟩])⟩])⟩]).p F w (.agg #[.bool false, .slice none 0 0, .bool false, .slice none 0 0]) := ⟨by kernel_rfl, fun _ _ => ⟨_, rfl, rfl, ⟨fun h => Bool.noConfusion h, ⟨_, rfl, rfl, ⟨fun h => Bool.noConfusion h, ⟨_, rfl, rfl, ⟨fun _ => rfl, rfl⟩, ⟨fun _ => rfl, ⟨none, 0, rfl, Nat.le_refl _, by decide, .inl rfl⟩⟩, trivial⟩⟩, ⟨fun h => Bool.noConfusion h, ⟨_, rfl, rfl, ⟨fun _ => rfl, rfl⟩, ⟨fun _ => rfl, ⟨none, 0, rfl, Nat.le_refl _, by decide, .inl rfl⟩⟩, trivial⟩⟩, trivial⟩⟩, trivial⟩⟩
theorem bu49 : BuI Tryz.prog 49 (fun i => [(0, 2), (2, 2)][i]?) (.agg #[.bool false, .slice none 0 0, .bool false, .slice none 0 0]) := BuI.struct Tryz.underlying49 (by kernel_rfl) (by kernel_rfl)
theorem bu162 : BuI Tryz.prog 162 (fun i => [(0, 4)][i]?) (.agg #[.bool false, .slice none 0 0, .bool false, .slice none 0 0]) := BuI.struct Tryz.underlying162 (by kernel_rfl) (by kernel_rfl)
theorem isOne_iff {x : Wh} (hn : x.neg = false) (hl : x.l.length = 1) : decide (((x.l.getD 0 0 : Nat) : Int) = 1) = decide (x = ⟨false, [1]⟩) := by
  obtain ⟨n, l⟩ := x
  simp only at hn hl
  subst hn
  obtain ⟨a, rfl⟩ := List.length_eq_one_iff.1 hl
  simp
  omega
theorem neg_wh (z : Int) : wh (-z) = ⟨!(wh z).neg && decide (0 < (wh z).l.length), (wh z).l⟩ := by
  have h : (wh z).l.length = 0 ↔ z = 0 := by
    show (dig 65536 z.natAbs).length = 0 ↔ z = 0
    rw [List.length_eq_zero_iff, xg5 xb0]; omega
  have e1 : (wh (-z)).l = (wh z).l := by show dig 65536 (-z).natAbs = dig 65536 z.natAbs; rw [Int.natAbs_neg]
  have e2 : (wh (-z)).neg = (!(wh z).neg && decide (0 < (wh z).l.length)) := by
    show decide (-z < 0) = (!decide (z < 0) && decide (0 < (wh z).l.length))
    by_cases h0 : z = 0
    · subst h0; simp [wh_zero]
    · have : 0 < (wh z).l.length := by omega
      rw [decide_eq_true this, Bool.and_true, ← decide_not]
      exact decide_eq_decide.2 (by omega)
  have e3 : ∀ a : Wh, a = ⟨a.neg, a.l⟩ := fun _ => rfl
  rw [e3 (wh (-z)), e1, e2]
theorem c_isOne (x : Wh) :
  Ct Tryz.prog 175 [tWh x] (tB (decide (x = ⟨false, [1]⟩))) := by
 refine Ct.intro Tryz.func175 rfl Tryz.ntmps175 rfl ?_
 intro w F
 refine x6 ?_
 refine x8 ?_
 refine RE (xd4 (k := 1) ti47 rfl) ⟨rfl, trivial⟩ trivial ⟨rfl, trivial⟩ (R1 x5 rfl (x7 (by kernel_rfl) (x3 (x6 ?_))))
 refine x8 ?_
 refine R1 (x9 fo47_0 rfl) rfl (xa4 (0) ti4 rfl rfl rfl (At.g 0 rfl rfl) rfl (R1 xe2 rfl (R1 x4 rfl ?_)))
 refine RGcase (t := 6) rfl (fun h54 => ?_) (fun h54 => ?_)
 ·
  refine RGon h54 rfl (x9 fo47_1 rfl) rfl ⟨rfl, trivial⟩ trivial trivial (xd2 h54 rfl rfl (0) ti45 rfl rfl rfl (At.g 1 rfl rfl) rfl (RGon h54 rfl (xb7 Tryz.underlying45) rfl ⟨rfl, trivial⟩ trivial trivial (RGon h54 rfl d_eql rfl ⟨rfl, rfl, trivial⟩ trivial trivial (R2 (xb2 h54) rfl rfl (R1 x4 rfl ?_)))))
  refine RGcaseD (t := 12) rfl (fun h54_2 => ?_) (fun h54_2 => ?_)
  ·
   refine RGon (decide_eq_true h54_2) rfl (x9 fo47_1 rfl) rfl ⟨rfl, trivial⟩ trivial trivial (xd2 (decide_eq_true h54_2) rfl rfl (0) ti45 rfl rfl rfl (At.g 1 rfl rfl) rfl (RGon (decide_eq_true h54_2) rfl (xb6 sl45 (0) (by omega) (gN (by omega))) rfl ⟨rfl, rfl, trivial⟩ trivial trivial (RGon (decide_eq_true h54_2) rfl (xb8 ti166) rfl ⟨rfl, trivial⟩ trivial trivial (RGon (decide_eq_true h54_2) rfl d_eql rfl ⟨rfl, rfl, trivial⟩ trivial trivial (R2 (xb2 (decide_eq_true h54_2)) rfl rfl (R1 x5 rfl (x7 (by kernel_rfl) ?_)))))))
   refine x3 (xa2 ?_)
   exact xa9 Plain.mk' rfl rfl (Le.bool (isOne_iff (by simpa using h54) (by omega)))
  ·
   refine RGoff (decide_eq_false h54_2) rfl rfl (RGoff (decide_eq_false h54_2) rfl rfl (RGoff (decide_eq_false h54_2) rfl rfl (RGoff (decide_eq_false h54_2) rfl rfl (RGoff (decide_eq_false h54_2) rfl rfl (R2 (xc0 (decide_eq_false h54_2)) rfl rfl (R1 x5 rfl (x7 (by kernel_rfl) ?_)))))))
   refine x3 (xa2 ?_)
   exact xa9 Plain.mk' rfl rfl (Le.bool (decide_eq_false (fun h => h54_2 (by rw [h]; rfl))).symm)
 ·
  refine RGoff h54 rfl rfl (RGoff h54 rfl rfl (RGoff h54 rfl rfl (RGoff h54 rfl rfl (R2 (xc0 h54) rfl rfl (R1 x4 rfl (RGoff0 rfl rfl (RGoff0 rfl rfl ?_)))))))
  refine RGoff0 rfl rfl (RGoff0 rfl rfl (RGoff0 rfl rfl (R2 (xc0 rfl) rfl rfl (R1 x5 rfl (x7 (by kernel_rfl) (x3 (xa2 ?_)))))))
  exact xa9 Plain.mk' rfl rfl (Le.bool (decide_eq_false (fun h => by rw [h] at h54; simp at h54)).symm)
theorem c_Tlong (f : Fr) :
  Ct Tryz.prog 169 [tTm f] (tB (!f.sh)) := by
 refine Ct.intro Tryz.func169 rfl Tryz.ntmps169 rfl ?_
 intro w F
 refine x6 ?_
 refine x8 ?_
 refine RE (xd4 (k := 1) ti162 rfl) ⟨rfl, trivial⟩ trivial ⟨rfl, trivial⟩ (R1 x5 rfl (x7 (by kernel_rfl) (x3 (x6 ?_))))
 refine x8 ?_
 refine R1 (x9 fo162_0 rfl) rfl (R1 (x9 fo49_0 rfl) rfl (R1 (x9 fo47_1 rfl) rfl (xa4 (0) ti45 rfl rfl rfl (At.t (At.g 0 rfl rfl) (At.t (At.g 0 rfl rfl) (At.g 1 rfl rfl))) rfl (R1 (xb7 Tryz.underlying45) rfl (R2 xf2 rfl rfl (R1 x4 rfl ?_))))))
 refine RGcaseD (t := 9) rfl (fun h33 => ?_) (fun h33 => ?_)
 ·
  refine RGoff (decide_eq_true h33) rfl rfl (RGoff (decide_eq_true h33) rfl rfl (RGoff (decide_eq_true h33) rfl rfl (RGoff (decide_eq_true h33) rfl rfl (RGoff (decide_eq_true h33) rfl rfl (RGoff (decide_eq_true h33) rfl rfl (R2 (xb2 (decide_eq_true h33)) rfl rfl (R1 x5 rfl ?_)))))))
  refine x7 (by kernel_rfl) (x3 (xa2 ?_))
  exact xa9 Plain.mk' rfl rfl (Le.bool (by rw [Fr.sh, decide_eq_false (show ¬ f.n.l.length ≤ 256 by omega)]; rfl))
 ·
  refine RGon (decide_eq_false h33) rfl (x9 fo162_0 rfl) rfl ⟨rfl, trivial⟩ trivial trivial (RGon (decide_eq_false h33) rfl (x9 fo49_1 rfl) rfl ⟨rfl, trivial⟩ trivial trivial (RGon (decide_eq_false h33) rfl (x9 fo47_1 rfl) rfl ⟨rfl, trivial⟩ trivial trivial (xd2 (decide_eq_false h33) rfl rfl (0) ti45 rfl rfl rfl (At.t (At.g 0 rfl rfl) (At.t (At.g 1 rfl rfl) (At.g 1 rfl rfl))) rfl (RGon (decide_eq_false h33) rfl (xb7 Tryz.underlying45) rfl ⟨rfl, trivial⟩ trivial trivial (RGon (decide_eq_false h33) rfl xf2 rfl ⟨rfl, rfl, trivial⟩ trivial trivial (R2 (xc0 (decide_eq_false h33)) rfl rfl (R1 x5 rfl ?_)))))))
  refine x7 (by kernel_rfl) (x3 (xa2 ?_))
  exact xa9 Plain.mk' rfl rfl (Le.bool (by rw [Fr.sh, decide_eq_true (show f.n.l.length ≤ 256 by omega), Bool.true_and, ← decide_not]; exact decide_eq_decide.2 (by omega)))
theorem c_Tresult (f : Fr) :
  Ct Tryz.prog 121 [tTm f] (tT [tFr (if f.sh then f else fr0), tI (if f.sh then 0 else 3)]) := by
 refine Ct.intro Tryz.func121 rfl Tryz.ntmps121 rfl ?_
 intro w F
 refine x6 ?_
 refine x8 ?_
 refine RE (xd4 (k := 1) ti162 rfl) ⟨rfl, trivial⟩ trivial ⟨rfl, trivial⟩ (RE (xc4 (k := 2) (n := 4) (agg := true) zr49.1 zr49.2 rfl) trivial trivial ⟨rfl, trivial⟩ (R1 x5 rfl (x7 (by kernel_rfl) (x3 (x6 (x6 ?_))))))
 refine x8 ?_
 refine RE (xa7 (0) ti162 rfl rfl) ⟨rfl, trivial⟩ ⟨rfl, trivial⟩ trivial (R1 (xa0 (c_Tlong f) fi169 rfl) rfl (x7 (by kernel_rfl) (x3 ?_)))
 refine xf0 rfl (fun h46 => ?_) (fun h46 => ?_)
 ·
  have hs : f.sh = false := by simpa using h46
  refine x6 ?_
  refine x8 ?_
  refine R0 (xd9 (r := tS [⟨2, true, (tS [⟨1, false, (tE (.bool false))⟩, ⟨1, false, (tLm [])⟩])⟩, ⟨2, true, (tS [⟨1, false, (tE (.bool false))⟩, ⟨1, false, (tLm [])⟩])⟩]) (ts := []) bu49 zr49.2 ⟨_, rfl⟩ rfl Le.refl)  (RE (xa6 (es := 4) (agg := true) (0) ti49 rfl rfl rfl) ⟨rfl, rfl, trivial⟩ ⟨rfl, trivial⟩ trivial (R1 x5 rfl (x7 (by kernel_rfl) (x3 (xa2 (xa3 ?_))))))
  exact xf1 Plain.mk' (rs := [.cell 2 49, .tmp 3]) rfl rfl ⟨⟨_, _, _, _, _, rfl, rfl, ti49, (Le.of (by rw [hs]; rfl))⟩, ⟨_, rfl, (Le.int (by rw [hs]; rfl))⟩, trivial⟩
 ·
  have hs : f.sh = true := by simpa using h46
  refine xa5 (x3 (x6 ?_))
  refine x8 ?_
  refine R1 (x9 fo162_0 rfl) rfl (xa4 (0) ti49 rfl rfl rfl (At.g 0 rfl rfl) rfl (RE (xa6 (es := 4) (agg := true) (0) ti49 rfl rfl rfl) ⟨rfl, rfl, trivial⟩ ⟨rfl, trivial⟩ trivial (R1 x5 rfl (x7 (by kernel_rfl) (x3 (xa2 ?_))))))
  exact xf1 Plain.mk' (rs := [.cell 2 49, .tmp 3]) rfl rfl ⟨⟨_, _, _, _, _, rfl, rfl, ti49, (Le.of (by rw [hs]; rfl))⟩, ⟨_, rfl, (Le.int (by rw [hs]; rfl))⟩, trivial⟩
theorem c_Tintegral (f : Fr) :
  Ct Tryz.prog 174 [tTm f] (tB (decide (f.d = ⟨false, [1]⟩))) := by
 refine Ct.intro Tryz.func174 rfl Tryz.ntmps174 rfl ?_
 intro w F
 refine x6 ?_
 refine x8 ?_
 refine RE (xd4 (k := 1) ti162 rfl) ⟨rfl, trivial⟩ trivial ⟨rfl, trivial⟩ (R1 x5 rfl (x7 (by kernel_rfl) (x3 (x6 ?_))))
 refine x8 ?_
 refine R1 (x9 fo162_0 rfl) rfl (R1 (x9 fo49_1 rfl) rfl (xa4 (0) ti47 rfl rfl rfl (At.t (At.g 0 rfl rfl) (At.g 1 rfl rfl)) rfl (R1 (xa0 (c_isOne _) fi175 rfl) rfl (R1 x5 rfl (x7 (by kernel_rfl) (x3 (xa2 ?_)))))))
 exact xa9 Plain.mk' rfl rfl Le.refl
theorem c_Tzero (f : Fr) :
  Ct Tryz.prog 178 [tTm f] (tB (decide (f.n.l.length = 0))) := by
 refine Ct.intro Tryz.func178 rfl Tryz.ntmps178 rfl ?_
 intro w F
 refine x6 ?_
 refine x8 ?_
 refine RE (xd4 (k := 1) ti162 rfl) ⟨rfl, trivial⟩ trivial ⟨rfl, trivial⟩ (R1 x5 rfl (x7 (by kernel_rfl) (x3 (x6 ?_))))
 refine x8 ?_
 refine R1 (x9 fo162_0 rfl) rfl (R1 (x9 fo49_0 rfl) rfl (R1 (x9 fo47_1 rfl) rfl (xa4 (0) ti45 rfl rfl rfl (At.t (At.g 0 rfl rfl) (At.t (At.g 0 rfl rfl) (At.g 1 rfl rfl))) rfl (R1 (xb7 Tryz.underlying45) rfl (R2 d_eql rfl rfl (R1 x5 rfl (x7 (by kernel_rfl) ?_)))))))
 refine x3 (xa2 ?_)
 exact xa9 Plain.mk' rfl rfl (Le.bool (decide_eq_decide.2 (by omega)))
theorem c_Tnegative (f : Fr) :
  Ct Tryz.prog 179 [tTm f] (tB f.n.neg) := by
 refine Ct.intro Tryz.func179 rfl Tryz.ntmps179 rfl ?_
 intro w F
 refine x6 ?_
 refine x8 ?_
 refine RE (xd4 (k := 1) ti162 rfl) ⟨rfl, trivial⟩ trivial ⟨rfl, trivial⟩ (R1 x5 rfl (x7 (by kernel_rfl) (x3 (x6 ?_))))
 refine x8 ?_
 refine R1 (x9 fo162_0 rfl) rfl (R1 (x9 fo49_0 rfl) rfl (R1 (x9 fo47_0 rfl) rfl (xa4 (0) ti4 rfl rfl rfl (At.t (At.g 0 rfl rfl) (At.t (At.g 0 rfl rfl) (At.g 0 rfl rfl))) rfl (R1 x5 rfl (x7 (by kernel_rfl) (x3 (xa2 ?_)))))))
 exact xa9 Plain.mk' rfl rfl Le.refl
theorem c_divisor (x y : Int) (hx : len16 x ≤ 1024) (hy : len16 y ≤ 1024) :
  Ct Tryz.prog 167 [tWh (wh x), tWh (wh y)] (tWh (wh ((Int.gcd x y : Nat) : Int))) := by
 refine Ct.intro Tryz.func167 rfl Tryz.ntmps167 rfl ?_
 intro w F
 refine x6 ?_
 refine x8 ?_
 refine RE (xd4 (k := 2) ti47 rfl) ⟨rfl, trivial⟩ trivial ⟨rfl, trivial⟩ (RE (xd4 (k := 3) ti47 rfl) ⟨rfl, trivial⟩ trivial ⟨rfl, trivial⟩ (RE (xc4 (k := 4) (n := 2) (agg := true) zr47.1 zr47.2 rfl) trivial trivial ⟨rfl, trivial⟩ (x7 (by kernel_rfl) (x3 (x6 ?_)))))
 refine x8 ?_
 refine RE (xa7 (0) ti47 rfl rfl) ⟨rfl, trivial⟩ ⟨rfl, trivial⟩ trivial (RE (xa7 (0) ti47 rfl rfl) ⟨rfl, trivial⟩ ⟨rfl, trivial⟩ trivial (R2 (xa0 (c_Gcd x y hx hy) fi203 rfl) rfl rfl (R1 x4 rfl (R1 (xa8 rfl) rfl (R1 (xa8 rfl) rfl (RE (xc4 (k := 5) (n := 2) (agg := true) zr47.1 zr47.2 rfl) trivial trivial ⟨rfl, trivial⟩ (RE (xa6 (es := 2) (agg := true) (0) ti47 rfl rfl rfl) ⟨rfl, rfl, trivial⟩ ⟨rfl, trivial⟩ trivial ?_)))))))
 refine R1 x5 rfl (x7 (by kernel_rfl) (x3 (x6 ?_)))
 refine x8 ?_
 refine RE (xa7 (0) ti47 rfl rfl) ⟨rfl, trivial⟩ ⟨rfl, trivial⟩ trivial (RE (xa6 (es := 2) (agg := true) (0) ti47 rfl rfl rfl) ⟨rfl, rfl, trivial⟩ ⟨rfl, trivial⟩ trivial (x7 (by kernel_rfl) (x3 (xa2 ?_))))
 exact xg2 Plain.mk' rfl ⟨_, _, _, _, _, rfl, rfl, ti47, Le.refl⟩
theorem c_fplus (x y : Int) (hx : len16 x ≤ 1024) (hy : len16 y ≤ 1024) (hz : len16 (x + y) ≤ 1024) :
  Ct Tryz.prog 122 [tWh (wh x), tWh (wh y)] (tWh (wh (x + y))) := by
 refine Ct.intro Tryz.func122 rfl Tryz.ntmps122 rfl ?_
 intro w F
 refine x6 ?_
 refine x8 ?_
 refine RE (xd4 (k := 2) ti47 rfl) ⟨rfl, trivial⟩ trivial ⟨rfl, trivial⟩ (RE (xd4 (k := 3) ti47 rfl) ⟨rfl, trivial⟩ trivial ⟨rfl, trivial⟩ (RE (xc4 (k := 4) (n := 2) (agg := true) zr47.1 zr47.2 rfl) trivial trivial ⟨rfl, trivial⟩ (x7 (by kernel_rfl) (x3 (x6 ?_)))))
 refine x8 ?_
 refine RE (xa7 (0) ti47 rfl rfl) ⟨rfl, trivial⟩ ⟨rfl, trivial⟩ trivial (RE (xa7 (0) ti47 rfl rfl) ⟨rfl, trivial⟩ ⟨rfl, trivial⟩ trivial (R2 (xa0 (c_Add x y hx hy) fi170 rfl) rfl rfl (R1 x4 rfl (R1 (xa8 rfl) rfl (R1 (xa8 rfl) rfl (RE (xc4 (k := 5) (n := 2) (agg := true) zr47.1 zr47.2 rfl) trivial trivial ⟨rfl, trivial⟩ (RE (xa6 (es := 2) (agg := true) (0) ti47 rfl rfl rfl) ⟨rfl, rfl, trivial⟩ ⟨rfl, trivial⟩ trivial ?_)))))))
 refine R1 x5 rfl (x7 (by kernel_rfl) (x3 (x6 ?_)))
 refine x8 ?_
 refine RE (xa7 (0) ti47 rfl rfl) ⟨rfl, trivial⟩ ⟨rfl, trivial⟩ trivial (RE (xa6 (es := 2) (agg := true) (0) ti47 rfl rfl rfl) ⟨rfl, rfl, trivial⟩ ⟨rfl, trivial⟩ trivial (x7 (by kernel_rfl) (x3 (xa2 ?_))))
 exact xg2 Plain.mk' rfl ⟨_, _, _, _, _, rfl, rfl, ti47, (Le.of (by rw [resW, if_pos hz]))⟩
theorem c_ftimes (x y : Int) (hx : len16 x ≤ 1024) (hy : len16 y ≤ 1024) (hz : len16 (x * y) ≤ 1024) :
  Ct Tryz.prog 120 [tWh (wh x), tWh (wh y)] (tWh (wh (x * y))) := by
 refine Ct.intro Tryz.func120 rfl Tryz.ntmps120 rfl ?_
 intro w F
 refine x6 ?_
 refine x8 ?_
 refine RE (xd4 (k := 2) ti47 rfl) ⟨rfl, trivial⟩ trivial ⟨rfl, trivial⟩ (RE (xd4 (k := 3) ti47 rfl) ⟨rfl, trivial⟩ trivial ⟨rfl, trivial⟩ (RE (xc4 (k := 4) (n := 2) (agg := true) zr47.1 zr47.2 rfl) trivial trivial ⟨rfl, trivial⟩ (x7 (by kernel_rfl) (x3 (x6 ?_)))))
 refine x8 ?_
 refine RE (xa7 (0) ti47 rfl rfl) ⟨rfl, trivial⟩ ⟨rfl, trivial⟩ trivial (RE (xa7 (0) ti47 rfl rfl) ⟨rfl, trivial⟩ ⟨rfl, trivial⟩ trivial (R2 (xa0 (c_Mul x y hx hy) fi168 rfl) rfl rfl (R1 x4 rfl (R1 (xa8 rfl) rfl (R1 (xa8 rfl) rfl (RE (xc4 (k := 5) (n := 2) (agg := true) zr47.1 zr47.2 rfl) trivial trivial ⟨rfl, trivial⟩ (RE (xa6 (es := 2) (agg := true) (0) ti47 rfl rfl rfl) ⟨rfl, rfl, trivial⟩ ⟨rfl, trivial⟩ trivial ?_)))))))
 refine R1 x5 rfl (x7 (by kernel_rfl) (x3 (x6 ?_)))
 refine x8 ?_
 refine RE (xa7 (0) ti47 rfl rfl) ⟨rfl, trivial⟩ ⟨rfl, trivial⟩ trivial (RE (xa6 (es := 2) (agg := true) (0) ti47 rfl rfl rfl) ⟨rfl, rfl, trivial⟩ ⟨rfl, trivial⟩ trivial (x7 (by kernel_rfl) (x3 (xa2 ?_))))
 exact xg2 Plain.mk' rfl ⟨_, _, _, _, _, rfl, rfl, ti47, (Le.of (by rw [resW, if_pos hz]))⟩
theorem c_fdivide (x y : Int) (hx : len16 x ≤ 1024) (hy : len16 y ≤ 1024) (hy0 : 0 < y) :
  Ct Tryz.prog 139 [tWh (wh x), tWh (wh y)] (tT [tWh (wh (x / y)), tWh (wh (x % y))]) := by
 refine Ct.intro Tryz.func139 rfl Tryz.ntmps139 rfl ?_
 intro w F
 refine x6 ?_
 refine x8 ?_
 refine RE (xd4 (k := 2) ti47 rfl) ⟨rfl, trivial⟩ trivial ⟨rfl, trivial⟩ (RE (xd4 (k := 3) ti47 rfl) ⟨rfl, trivial⟩ trivial ⟨rfl, trivial⟩ (RE (xc4 (k := 4) (n := 2) (agg := true) zr47.1 zr47.2 rfl) trivial trivial ⟨rfl, trivial⟩ (RE (xc4 (k := 5) (n := 2) (agg := true) zr47.1 zr47.2 rfl) trivial trivial ⟨rfl, trivial⟩ (x7 (by kernel_rfl) (x3 (x6 ?_))))))
 refine x8 ?_
 refine RE (xa7 (0) ti47 rfl rfl) ⟨rfl, trivial⟩ ⟨rfl, trivial⟩ trivial (RE (xa7 (0) ti47 rfl rfl) ⟨rfl, trivial⟩ ⟨rfl, trivial⟩ trivial (R2 (xa0 (c_DivMod x y hx hy hy0) fi192 rfl) rfl rfl (R1 x4 rfl (R1 (xa8 rfl) rfl (R1 (xa8 rfl) rfl (R1 (xa8 rfl) rfl (RE (xa6 (es := 2) (agg := true) (0) ti47 rfl rfl rfl) ⟨rfl, rfl, trivial⟩ ⟨rfl, trivial⟩ trivial ?_)))))))
 refine RE (xa6 (es := 2) (agg := true) (0) ti47 rfl rfl rfl) ⟨rfl, rfl, trivial⟩ ⟨rfl, trivial⟩ trivial (x7 (by kernel_rfl) (x3 (x6 ?_)))
 refine xc9 mixed ?_
 refine RE (xa7 (0) ti47 rfl rfl) ⟨rfl, trivial⟩ ⟨rfl, trivial⟩ trivial (RE (xa7 (0) ti47 rfl rfl) ⟨rfl, trivial⟩ ⟨rfl, trivial⟩ trivial (RE (xa6 (es := 2) (agg := true) (0) ti47 rfl rfl rfl) ⟨rfl, rfl, trivial⟩ ⟨rfl, trivial⟩ trivial (RE (xa6 (es := 2) (agg := true) (0) ti47 rfl rfl rfl) ⟨rfl, rfl, trivial⟩ ⟨rfl, trivial⟩ trivial (xd1 (by kernel_rfl) (x3 (xa2 ?_))))))
 exact xf1 Plain.mk' (rs := [.cell 4 47, .cell 5 47]) rfl rfl ⟨⟨_, _, _, _, _, rfl, rfl, ti47, Le.refl⟩, ⟨_, _, _, _, _, rfl, rfl, ti47, Le.refl⟩, trivial⟩
theorem c_opposite (z : Int) (hz : len16 z ≤ 10000) :
  Ct Tryz.prog 123 [tWh (wh z)] (tWh (wh (-z))) := by
 have hzl : (wh z).l.length ≤ 10000 := hz
 refine Ct.intro Tryz.func123 rfl Tryz.ntmps123 rfl ?_
 intro w F
 refine x6 ?_
 refine x8 ?_
 refine RE (xd4 (k := 1) ti47 rfl) ⟨rfl, trivial⟩ trivial ⟨rfl, trivial⟩ (RE (xc4 (k := 2) (n := 2) (agg := true) zr47.1 zr47.2 rfl) trivial trivial ⟨rfl, trivial⟩ (x7 (by kernel_rfl) (x3 (x6 ?_))))
 refine xc9 mixed ?_
 refine R1 (x9 fo47_0 rfl) rfl (xa4 (0) ti4 rfl rfl rfl (At.g 0 rfl rfl) rfl (R1 xe2 rfl (R1 x4 rfl ?_)))
 refine RGcase (t := 6) rfl (fun h81 => ?_) (fun h81 => ?_)
 ·
  refine RGon h81 rfl (x9 fo47_1 rfl) rfl ⟨rfl, trivial⟩ trivial trivial (xd2 h81 rfl rfl (0) ti45 rfl rfl rfl (At.g 1 rfl rfl) rfl (RGon h81 rfl (xb7 Tryz.underlying45) rfl ⟨rfl, trivial⟩ trivial trivial (RGon h81 rfl xf2 rfl ⟨rfl, rfl, trivial⟩ trivial trivial (R2 (xb2 h81) rfl rfl (R1 (x9 fo47_1 rfl) rfl (xa4 (0) ti45 rfl rfl rfl (At.g 1 rfl rfl) rfl (R1 (xa0 (c_clone16V _ (by omega)) fi143 rfl) rfl ?_)))))))
  refine R2 (xd9 (r := tS [⟨1, false, tB (decide ((0 : Int) < ((wh z).l.length : Nat)))⟩, ⟨1, false, tLm (wh z).l⟩]) (ts := [(0, tB (decide ((0 : Int) < ((wh z).l.length : Nat)))), (1, tLm (wh z).l)]) bu47 zr47.2 ⟨_, rfl⟩ rfl ⟨_, _, _, _, rfl, Up.f (fs := [⟨1, false, (tE (.bool false))⟩, ⟨1, false, (tLm [])⟩]) (f := ⟨1, false, (tE (.bool false))⟩) (fs' := [⟨1, false, tB (decide ((0 : Int) < ((wh z).l.length : Nat)))⟩, ⟨1, false, (tLm [])⟩]) 0 rfl rfl rfl, inferInstance, ⟨_, _, _, _, rfl, Up.f (fs := [⟨1, false, tB (decide ((0 : Int) < ((wh z).l.length : Nat)))⟩, ⟨1, false, (tLm [])⟩]) (f := ⟨1, false, (tLm [])⟩) (fs' := [⟨1, false, tB (decide ((0 : Int) < ((wh z).l.length : Nat)))⟩, ⟨1, false, tLm (wh z).l⟩]) 1 rfl rfl rfl, inferInstance, Le.refl⟩⟩) rfl rfl (RE (xa6 (es := 2) (agg := true) (0) ti47 rfl rfl rfl) ⟨rfl, rfl, trivial⟩ ⟨rfl, trivial⟩ trivial (xd1 (by kernel_rfl) (x3 (xa2 ?_))))
  exact xg2 Plain.mk' rfl ⟨_, _, _, _, _, rfl, rfl, ti47, (Le.of (by rw [neg_wh, h81, Bool.true_and, decide_eq_decide.2 (show (0 : Int) < ((wh z).l.length : Nat) ↔ 0 < (wh z).l.length by omega)]))⟩
 ·
  refine RGoff h81 rfl rfl (RGoff h81 rfl rfl (RGoff h81 rfl rfl (RGoff h81 rfl rfl (R2 (xc0 h81) rfl rfl (R1 (x9 fo47_1 rfl) rfl (xa4 (0) ti45 rfl rfl rfl (At.g 1 rfl rfl) rfl (R1 (xa0 (c_clone16V _ (by omega)) fi143 rfl) rfl ?_)))))))
  refine R2 (xd9 (r := tS [⟨1, false, tB false⟩, ⟨1, false, tLm (wh z).l⟩]) (ts := [(0, tB false), (1, tLm (wh z).l)]) bu47 zr47.2 ⟨_, rfl⟩ rfl ⟨_, _, _, _, rfl, Up.f (fs := [⟨1, false, (tE (.bool false))⟩, ⟨1, false, (tLm [])⟩]) (f := ⟨1, false, (tE (.bool false))⟩) (fs' := [⟨1, false, tB false⟩, ⟨1, false, (tLm [])⟩]) 0 rfl rfl rfl, inferInstance, ⟨_, _, _, _, rfl, Up.f (fs := [⟨1, false, tB false⟩, ⟨1, false, (tLm [])⟩]) (f := ⟨1, false, (tLm [])⟩) (fs' := [⟨1, false, tB false⟩, ⟨1, false, tLm (wh z).l⟩]) 1 rfl rfl rfl, inferInstance, Le.refl⟩⟩) rfl rfl (RE (xa6 (es := 2) (agg := true) (0) ti47 rfl rfl rfl) ⟨rfl, rfl, trivial⟩ ⟨rfl, trivial⟩ trivial (xd1 (by kernel_rfl) (x3 (xa2 ?_))))
  exact xg2 Plain.mk' rfl ⟨_, _, _, _, _, rfl, rfl, ti47, (Le.of (by rw [neg_wh, h81, Bool.false_and]))⟩
theorem c_lowest (n d : Int) (hn : len16 n ≤ 1024) (hd : len16 d ≤ 1024) (hd0 : d ≠ 0) :
  Ct Tryz.prog 119 [tWh (wh n), tWh (wh d)] (tTm (fr (Rat.divInt n d))) := by
 refine Ct.intro Tryz.func119 rfl Tryz.ntmps119 rfl ?_
 intro w F
 refine x6 ?_
 refine x8 ?_
 refine RE (xd4 (k := 2) ti47 rfl) ⟨rfl, trivial⟩ trivial ⟨rfl, trivial⟩ (RE (xd4 (k := 3) ti47 rfl) ⟨rfl, trivial⟩ trivial ⟨rfl, trivial⟩ (RE (xc4 (k := 4) (n := 4) (agg := true) zr162.1 zr162.2 rfl) trivial trivial ⟨rfl, trivial⟩ (x7 (by kernel_rfl) (x3 ?_))))
 refine C_join (fun (fm : (Int) × (Int)) => (fun (m : Int) (e : Int) => (0 < e ∧ Rat.divInt m e = Rat.divInt n d) ∧ len16 m ≤ 1024 ∧ len16 e ≤ 1024) fm.1 fm.2) (fun (fm : (Int) × (Int)) => (fun (m : Int) (e : Int) => upd (upd (upd (fun _ => none) 2 (some (.own (.ptr 2 0)))) 3 (some (.own (.ptr 3 0)))) 4 (some (.own (.ptr 4 0)))) fm.1 fm.2) (fun (fm : (Int) × (Int)) => (fun (m : Int) (e : Int) => upd (upd (upd (fun _ => none) 2 (some (⟨47, 2, true, [.val (tWh (wh m))]⟩))) 3 (some (⟨47, 2, true, [.val (tWh (wh e))]⟩))) 4 (some (⟨162, 4, true, [.val (tTm fr0)]⟩))) fm.1 fm.2) (nm [2, 3, 4]) ?_ ?_
 ·
  refine x6 ?_
  refine x8 ?_
  refine R1 (x9 fo47_0 rfl) rfl (xa4 (0) ti4 rfl rfl rfl (At.g 0 rfl rfl) rfl (x7 (by kernel_rfl) (x3 ?_)))
  refine xf0 rfl (fun h86 => ?_) (fun h86 => ?_)
  ·
   refine xc9 mixed ?_
   refine RE (xa7 (0) ti47 rfl rfl) ⟨rfl, trivial⟩ ⟨rfl, trivial⟩ trivial (R1 (xa0 (c_opposite n (by omega)) fi123 rfl) rfl (RE (xa7 (0) ti47 rfl rfl) ⟨rfl, trivial⟩ ⟨rfl, trivial⟩ trivial (R1 (xa0 (c_opposite d (by omega)) fi123 rfl) rfl (RE (xa6 (es := 2) (agg := true) (0) ti47 rfl rfl rfl) ⟨rfl, rfl, trivial⟩ ⟨rfl, trivial⟩ trivial (RE (xa6 (es := 2) (agg := true) (0) ti47 rfl rfl rfl) ⟨rfl, rfl, trivial⟩ ⟨rfl, trivial⟩ trivial (xd1 (by kernel_rfl) ?_))))))
   exact xc6 ((-n, -d)) (by dsimp only; exact ⟨⟨by have := of_decide_eq_true h86; omega, Rat.neg_divInt_neg _ _⟩, by rw [len16_neg]; exact hn, by rw [len16_neg]; exact hd⟩) (Sub.cons rfl (Sub.cons rfl (Sub.cons rfl Sub.nil))) ((SubK.consI rfl ImpK.refl) ((SubK.consI rfl ImpK.refl) ((SubK.consI rfl ImpK.refl) SubK.nil))) (SupG.own rfl (SupG.own rfl (SupG.own rfl SupG.nil))) (SupH.cons rfl (supJL rfl) (SupH.cons rfl (supJL rfl) (SupH.cons rfl (supJL rfl) SupH.nil))) (lkOk rfl)
  ·
   refine xa5 ?_
   exact xc6 ((n, d)) (by dsimp only; exact ⟨⟨by have := of_decide_eq_false h86; omega, rfl⟩, hn, hd⟩) (Sub.cons rfl (Sub.cons rfl (Sub.cons rfl Sub.nil))) ((SubK.consI rfl ImpK.refl) ((SubK.consI rfl ImpK.refl) ((SubK.consI rfl ImpK.refl) SubK.nil))) (SupG.own rfl (SupG.own rfl (SupG.own rfl SupG.nil))) (SupH.cons rfl (supJL rfl) (SupH.cons rfl (supJL rfl) (SupH.cons rfl (supJL rfl) SupH.nil))) (lkOk rfl)
 ·
  intro fm hj
  obtain ⟨m, e⟩ := fm
  replace hj : (0 < e ∧ Rat.divInt m e = Rat.divInt n d) ∧ len16 m ≤ 1024 ∧ len16 e ≤ 1024 := hj
  show wc _ _ _ _ (upd (upd (upd (fun _ => none) 2 (some (.own (.ptr 2 0)))) 3 (some (.own (.ptr 3 0)))) 4 (some (.own (.ptr 4 0)))) (upd (upd (upd (fun _ => none) 2 (some (⟨47, 2, true, [.val (tWh (wh m))]⟩))) 3 (some (⟨47, 2, true, [.val (tWh (wh e))]⟩))) 4 (some (⟨162, 4, true, [.val (tTm fr0)]⟩))) _
  obtain ⟨⟨he, hq⟩, hm, hel⟩ := hj
  have hg0 : 0 < Int.gcd m e := Int.gcd_pos_of_ne_zero_right m (by omega)
  have hgl : len16 ((Int.gcd m e : Nat) : Int) ≤ 1024 := Nat.le_trans (len16_le (by simpa using Nat.le_of_dvd (by omega) (Int.gcd_dvd_natAbs_right m e))) hel
  refine x6 ?_
  refine x8 ?_
  refine RE (xa7 (0) ti47 rfl rfl) ⟨rfl, trivial⟩ ⟨rfl, trivial⟩ trivial (RE (xa7 (0) ti47 rfl rfl) ⟨rfl, trivial⟩ ⟨rfl, trivial⟩ trivial (R2 (xa0 (c_divisor m e hm hel) fi167 rfl) rfl rfl (RE (xc4 (k := 5) (n := 2) (agg := true) zr47.1 zr47.2 rfl) trivial trivial ⟨rfl, trivial⟩ (RE (xa6 (es := 2) (agg := true) (0) ti47 rfl rfl rfl) ⟨rfl, rfl, trivial⟩ ⟨rfl, trivial⟩ trivial (x7 (by kernel_rfl) (x3 (x6 ?_)))))))
  refine x8 ?_
  refine RE (xa7 (0) ti47 rfl rfl) ⟨rfl, trivial⟩ ⟨rfl, trivial⟩ trivial (RE (xa7 (0) ti47 rfl rfl) ⟨rfl, trivial⟩ ⟨rfl, trivial⟩ trivial (R2 (xa0 (c_fdivide m _ hm hgl (by omega)) fi139 rfl) rfl rfl (R1 x4 rfl (R1 (xa8 rfl) rfl (R1 (xa8 rfl) rfl (RE (xa6 (es := 2) (agg := true) (0) ti47 rfl rfl rfl) ⟨rfl, rfl, trivial⟩ ⟨rfl, trivial⟩ trivial (x7 (by kernel_rfl) ?_)))))))
  refine x3 (x6 ?_)
  refine x8 ?_
  refine RE (xa7 (0) ti47 rfl rfl) ⟨rfl, trivial⟩ ⟨rfl, trivial⟩ trivial (RE (xa7 (0) ti47 rfl rfl) ⟨rfl, trivial⟩ ⟨rfl, trivial⟩ trivial (R2 (xa0 (c_fdivide e _ hel hgl (by omega)) fi139 rfl) rfl rfl (R1 x4 rfl (R1 (xa8 rfl) rfl (R1 (xa8 rfl) rfl (RE (xa6 (es := 2) (agg := true) (0) ti47 rfl rfl rfl) ⟨rfl, rfl, trivial⟩ ⟨rfl, trivial⟩ trivial (x7 (by kernel_rfl) ?_)))))))
  refine x3 (x6 ?_)
  refine x8 ?_
  refine RE (xa7 (0) ti47 rfl rfl) ⟨rfl, trivial⟩ ⟨rfl, trivial⟩ trivial (RE (xa7 (0) ti47 rfl rfl) ⟨rfl, trivial⟩ ⟨rfl, trivial⟩ trivial (R2 (xd9 (r := tS [⟨2, true, tWh (wh (m / ((Int.gcd m e : Nat) : Int)))⟩, ⟨2, true, tWh (wh (e / ((Int.gcd m e : Nat) : Int)))⟩]) (ts := [(0, tWh (wh (m / ((Int.gcd m e : Nat) : Int)))), (1, tWh (wh (e / ((Int.gcd m e : Nat) : Int))))]) bu49 zr49.2 ⟨_, rfl⟩ rfl ⟨_, _, _, _, rfl, Up.f (fs := [⟨2, true, (tS [⟨1, false, (tE (.bool false))⟩, ⟨1, false, (tLm [])⟩])⟩, ⟨2, true, (tS [⟨1, false, (tE (.bool false))⟩, ⟨1, false, (tLm [])⟩])⟩]) (f := ⟨2, true, (tS [⟨1, false, (tE (.bool false))⟩, ⟨1, false, (tLm [])⟩])⟩) (fs' := [⟨2, true, tWh (wh (m / ((Int.gcd m e : Nat) : Int)))⟩, ⟨2, true, (tS [⟨1, false, (tE (.bool false))⟩, ⟨1, false, (tLm [])⟩])⟩]) 0 rfl rfl rfl, inferInstance, ⟨_, _, _, _, rfl, Up.f (fs := [⟨2, true, tWh (wh (m / ((Int.gcd m e : Nat) : Int)))⟩, ⟨2, true, (tS [⟨1, false, (tE (.bool false))⟩, ⟨1, false, (tLm [])⟩])⟩]) (f := ⟨2, true, (tS [⟨1, false, (tE (.bool false))⟩, ⟨1, false, (tLm [])⟩])⟩) (fs' := [⟨2, true, tWh (wh (m / ((Int.gcd m e : Nat) : Int)))⟩, ⟨2, true, tWh (wh (e / ((Int.gcd m e : Nat) : Int)))⟩]) 1 rfl rfl rfl, inferInstance, Le.refl⟩⟩) rfl rfl (R1 (xd9 (r := tS [⟨4, true, tFr ⟨wh (m / ((Int.gcd m e : Nat) : Int)), wh (e / ((Int.gcd m e : Nat) : Int))⟩⟩]) (ts := [(0, tFr ⟨wh (m / ((Int.gcd m e : Nat) : Int)), wh (e / ((Int.gcd m e : Nat) : Int))⟩)]) bu162 zr162.2 ⟨_, rfl⟩ rfl ⟨_, _, _, _, rfl, Up.f (fs := [⟨4, true, (tS [⟨2, true, (tS [⟨1, false, (tE (.bool false))⟩, ⟨1, false, (tLm [])⟩])⟩, ⟨2, true, (tS [⟨1, false, (tE (.bool false))⟩, ⟨1, false, (tLm [])⟩])⟩])⟩]) (f := ⟨4, true, (tS [⟨2, true, (tS [⟨1, false, (tE (.bool false))⟩, ⟨1, false, (tLm [])⟩])⟩, ⟨2, true, (tS [⟨1, false, (tE (.bool false))⟩, ⟨1, false, (tLm [])⟩])⟩])⟩) (fs' := [⟨4, true, tFr ⟨wh (m / ((Int.gcd m e : Nat) : Int)), wh (e / ((Int.gcd m e : Nat) : Int))⟩⟩]) 0 rfl rfl rfl, inferInstance, Le.refl⟩) rfl (RE (xa6 (es := 4) (agg := true) (0) ti162 rfl rfl rfl) ⟨rfl, rfl, trivial⟩ ⟨rfl, trivial⟩ trivial (x7 (by kernel_rfl) (x3 (xa2 ?_)))))))
  exact xg2 Plain.mk' rfl ⟨_, _, _, _, _, rfl, rfl, ti162, (Le.of (by rw [← hq, lowest_eq he]))⟩
end An.S

/- Package frac: validity, arithmetic. -/
namespace An.S
open Go Go.Proofs An
set_option maxHeartbeats 2000000
theorem sl57 : SlI Tryz.prog 57 49 4 true := ⟨Tryz.underlying57, ti49⟩
theorem fi78 : FnI Tryz.prog 78 := ⟨_, Tryz.func78, by kernel_rfl, rfl⟩
theorem fi90 : FnI Tryz.prog 90 := ⟨_, Tryz.func90, by kernel_rfl, rfl⟩
theorem fi91 : FnI Tryz.prog 91 := ⟨_, Tryz.func91, by kernel_rfl, rfl⟩
theorem fi92 : FnI Tryz.prog 92 := ⟨_, Tryz.func92, by kernel_rfl, rfl⟩
theorem fi118 : FnI Tryz.prog 118 := ⟨_, Tryz.func118, by kernel_rfl, rfl⟩
theorem fi119 : FnI Tryz.prog 119 := ⟨_, Tryz.func119, by kernel_rfl, rfl⟩
theorem fi120 : FnI Tryz.prog 120 := ⟨_, Tryz.func120, by kernel_rfl, rfl⟩
theorem fi121 : FnI Tryz.prog 121 := ⟨_, Tryz.func121, by kernel_rfl, rfl⟩
theorem fi122 : FnI Tryz.prog 122 := ⟨_, Tryz.func122, by kernel_rfl, rfl⟩
theorem fi128 : FnI Tryz.prog 128 := ⟨_, Tryz.func128, by kernel_rfl, rfl⟩
theorem fi165 : FnI Tryz.prog 165 := ⟨_, Tryz.func165, by kernel_rfl, rfl⟩
theorem fi166 : FnI Tryz.prog 166 := ⟨_, Tryz.func166, by kernel_rfl, rfl⟩
theorem fi174 : FnI Tryz.prog 174 := ⟨_, Tryz.func174, by kernel_rfl, rfl⟩
theorem fi202 : FnI Tryz.prog 202 := ⟨_, Tryz.func202, by kernel_rfl, rfl⟩
theorem el49 : ElI Tryz.prog 49 4 64 true (.agg #[.bool false, .slice none 0 0, .bool false, .slice none 0 0]) := ⟨ti49, by kernel_rfl, by kernel_rfl⟩
theorem zf49 : Flat 4 true (.agg #[.bool false, .slice none 0 0, .bool false, .slice none 0 0]) := flat_agg (by intro u hu; simp at hu; rcases hu with rfl | rfl | rfl | rfl <;> rfl)
theorem gcd_one_dec {x y : Int} : decide (wh ((Int.gcd x y : Nat) : Int) = ⟨false, [1]⟩) = decide (Int.gcd x y = 1) := by
  rw [← wh_one]
  refine decide_eq_decide.2 ⟨fun h' => ?_, fun h' => by rw [h']; rfl⟩
  have := wh_inj h'; omega
theorem pos_of_wh {y : Int} (h1 : (wh y).neg = false) (h2 : ¬ (wh y).l.length = 0) : 0 < y := by
  have h3 : ¬ y < 0 := of_decide_eq_false h1
  have h4 : y ≠ 0 := fun h => h2 (by rw [h, wh_zero]; rfl)
  omega
theorem c_Tvalid (f : Fr) (hn : Dig 65536 f.n.l) (hd : Dig 65536 f.d.l) :
  Ct Tryz.prog 128 [tTm f] (tB f.valid) := by
 obtain ⟨n, d⟩ := f
 replace hn : Dig 65536 n.l := hn
 replace hd : Dig 65536 d.l := hd
 refine Ct.intro Tryz.func128 rfl Tryz.ntmps128 rfl ?_
 intro w F
 refine x6 ?_
 refine x8 ?_
 refine RE (xd4 (k := 1) ti162 rfl) ⟨rfl, trivial⟩ trivial ⟨rfl, trivial⟩ (R1 x5 rfl (x7 (by kernel_rfl) (x3 (x6 (x6 ?_)))))
 refine x8 ?_
 refine RE (xa7 (0) ti162 rfl rfl) ⟨rfl, trivial⟩ ⟨rfl, trivial⟩ trivial (R1 (xa0 (c_Tlong _) fi169 rfl) rfl (R1 x4 rfl ?_))
 refine RGcase (t := 5) rfl (fun h38 => ?_) (fun h38 => ?_)
 ·
  have hs : (⟨n, d⟩ : Fr).sh = false := by simpa using h38
  refine RGoff h38 rfl rfl (RGoff h38 rfl rfl (RGoff h38 rfl rfl (RGoff h38 rfl rfl (RGoff h38 rfl rfl (R2 (xb2 h38) rfl rfl (R1 x4 rfl (RGoff1 rfl rfl ?_)))))))
  refine RGoff1 rfl rfl (RGoff1 rfl rfl (RGoff1 rfl rfl (RGoff1 rfl rfl (R2 (xb2 rfl) rfl rfl (R1 x4 rfl (RGoff1 rfl rfl (RGoff1 rfl rfl ?_)))))))
  refine RGoff1 rfl rfl (RGoff1 rfl rfl (R2 (xb2 rfl) rfl rfl (R1 x4 rfl (RGoff1 rfl rfl (RGoff1 rfl rfl (RGoff1 rfl rfl (RGoff1 rfl rfl ?_)))))))
  refine RGoff1 rfl rfl (RGoff1 rfl rfl (R2 (xb2 rfl) rfl rfl (x7 (by kernel_rfl) (x3 (C_bT rfl rfl (x6 ?_))))))
  refine x8 ?_
  refine R1 x5 rfl (x7 (by kernel_rfl) (x3 (xa2 (xa3 ?_))))
  exact xa9 Plain.mk' rfl rfl (Le.bool (by simp only [Fr.valid, hs, Bool.false_and]))
 ·
  have hs : (⟨n, d⟩ : Fr).sh = true := by simpa using h38
  refine RGon h38 rfl (x9 fo162_0 rfl) rfl ⟨rfl, trivial⟩ trivial trivial (RGon h38 rfl (x9 fo49_0 rfl) rfl ⟨rfl, trivial⟩ trivial trivial (xd2 h38 rfl rfl (0) ti47 rfl rfl rfl (At.t (At.g 0 rfl rfl) (At.g 0 rfl rfl)) rfl (RGon h38 rfl (xa0 (c_WValid n) fi144 rfl) rfl ⟨rfl, trivial⟩ trivial trivial (RGon h38 rfl xe2 rfl ⟨rfl, trivial⟩ trivial trivial (R2 (xc0 h38) rfl rfl (R1 x4 rfl ?_))))))
  refine RGcase (t := 12) rfl (fun h38_2 => ?_) (fun h38_2 => ?_)
  ·
   have hv1 : n.valid = false := by simpa using h38_2
   refine RGoff h38_2 rfl rfl (RGoff h38_2 rfl rfl (RGoff h38_2 rfl rfl (RGoff h38_2 rfl rfl (RGoff h38_2 rfl rfl (R2 (xb2 h38_2) rfl rfl (R1 x4 rfl (RGoff1 rfl rfl ?_)))))))
   refine RGoff1 rfl rfl (RGoff1 rfl rfl (RGoff1 rfl rfl (R2 (xb2 rfl) rfl rfl (R1 x4 rfl (RGoff1 rfl rfl (RGoff1 rfl rfl (RGoff1 rfl rfl ?_)))))))
   refine RGoff1 rfl rfl (RGoff1 rfl rfl (RGoff1 rfl rfl (R2 (xb2 rfl) rfl rfl (x7 (by kernel_rfl) (x3 (C_bT rfl rfl (x6 ?_)))))))
   refine x8 ?_
   refine R1 x5 rfl (x7 (by kernel_rfl) (x3 (xa2 (xa3 ?_))))
   exact xa9 Plain.mk' rfl rfl (Le.bool (by simp only [Fr.valid, hv1, Bool.and_false, Bool.false_and]))
  ·
   have hv1 : n.valid = true := by simpa using h38_2
   refine RGon h38_2 rfl (x9 fo162_0 rfl) rfl ⟨rfl, trivial⟩ trivial trivial (RGon h38_2 rfl (x9 fo49_1 rfl) rfl ⟨rfl, trivial⟩ trivial trivial (xd2 h38_2 rfl rfl (0) ti47 rfl rfl rfl (At.t (At.g 0 rfl rfl) (At.g 1 rfl rfl)) rfl (RGon h38_2 rfl (xa0 (c_WValid d) fi144 rfl) rfl ⟨rfl, trivial⟩ trivial trivial (RGon h38_2 rfl xe2 rfl ⟨rfl, trivial⟩ trivial trivial (R2 (xc0 h38_2) rfl rfl (R1 x4 rfl ?_))))))
   refine RGcase (t := 19) rfl (fun h38_3 => ?_) (fun h38_3 => ?_)
   ·
    have hv2 : d.valid = false := by simpa using h38_3
    refine RGoff h38_3 rfl rfl (RGoff h38_3 rfl rfl (RGoff h38_3 rfl rfl (RGoff h38_3 rfl rfl (R2 (xb2 h38_3) rfl rfl (R1 x4 rfl (RGoff1 rfl rfl (RGoff1 rfl rfl ?_)))))))
    refine RGoff1 rfl rfl (RGoff1 rfl rfl (RGoff1 rfl rfl (RGoff1 rfl rfl (R2 (xb2 rfl) rfl rfl (x7 (by kernel_rfl) (x3 (C_bT rfl rfl ?_)))))))
    refine x6 ?_
    refine x8 ?_
    refine R1 x5 rfl (x7 (by kernel_rfl) (x3 (xa2 (xa3 ?_))))
    exact xa9 Plain.mk' rfl rfl (Le.bool (by simp only [Fr.valid, hv2, Bool.and_false, Bool.false_and]))
   ·
    have hv2 : d.valid = true := by simpa using h38_3
    obtain ⟨x, rfl, hxl⟩ := Wh.of_valid hn hv1
    obtain ⟨y, rfl, hyl⟩ := Wh.of_valid hd hv2
    have ix := int_wh x
    have iy := int_wh y
    refine RGon h38_3 rfl (x9 fo162_0 rfl) rfl ⟨rfl, trivial⟩ trivial trivial (RGon h38_3 rfl (x9 fo49_1 rfl) rfl ⟨rfl, trivial⟩ trivial trivial (RGon h38_3 rfl (x9 fo47_0 rfl) rfl ⟨rfl, trivial⟩ trivial trivial (xd2 h38_3 rfl rfl (0) ti4 rfl rfl rfl (At.t (At.g 0 rfl rfl) (At.t (At.g 1 rfl rfl) (At.g 0 rfl rfl))) rfl (R2 (xc0 h38_3) rfl rfl (R1 x4 rfl ?_)))))
    refine RGcase (t := 25) rfl (fun h38_4 => ?_) (fun h38_4 => ?_)
    ·
     have hy0 : ¬ 0 < y := by have : y < 0 := of_decide_eq_true h38_4; omega
     refine RGoff h38_4 rfl rfl (RGoff h38_4 rfl rfl (RGoff h38_4 rfl rfl (RGoff h38_4 rfl rfl (RGoff h38_4 rfl rfl (RGoff h38_4 rfl rfl (R2 (xb2 h38_4) rfl rfl (x7 (by kernel_rfl) ?_)))))))
     refine x3 (C_bT rfl rfl (x6 ?_))
     refine x8 ?_
     refine R1 x5 rfl (x7 (by kernel_rfl) (x3 (xa2 (xa3 ?_))))
     exact xa9 Plain.mk' rfl rfl (Le.bool (by simp only [Fr.valid, ix, iy, decide_eq_false hy0, Bool.and_false, Bool.false_and]))
    ·
     refine RGon h38_4 rfl (x9 fo162_0 rfl) rfl ⟨rfl, trivial⟩ trivial trivial (RGon h38_4 rfl (x9 fo49_1 rfl) rfl ⟨rfl, trivial⟩ trivial trivial (RGon h38_4 rfl (x9 fo47_1 rfl) rfl ⟨rfl, trivial⟩ trivial trivial (xd2 h38_4 rfl rfl (0) ti45 rfl rfl rfl (At.t (At.g 0 rfl rfl) (At.t (At.g 1 rfl rfl) (At.g 1 rfl rfl))) rfl (RGon h38_4 rfl (xb7 Tryz.underlying45) rfl ⟨rfl, trivial⟩ trivial trivial (RGon h38_4 rfl d_eql rfl ⟨rfl, rfl, trivial⟩ trivial trivial (R2 (xc0 h38_4) rfl rfl (x7 (by kernel_rfl) ?_)))))))
     refine x3 ?_
     refine xc5 rfl (fun h38_5 => ?_) (fun h38_5 => ?_)
     ·
      have hy0 : ¬ 0 < y := fun h => by
       have h5 : (((wh y).l.length : Nat) : Int) = 0 := h38_5
       have h2 : (wh y).l.length = 0 := by omega
       have h3 : y.natAbs = 0 := (xg5 xb0).1 (List.length_eq_zero_iff.1 h2)
       omega
      refine x6 ?_
      refine x8 ?_
      refine R1 x5 rfl (x7 (by kernel_rfl) (x3 (xa2 (xa3 ?_))))
      exact xa9 Plain.mk' rfl rfl (Le.bool (by simp only [Fr.valid, ix, iy, decide_eq_false hy0, Bool.and_false, Bool.false_and]))
     ·
      have h5 : ¬ (((wh y).l.length : Nat) : Int) = 0 := h38_5
      have hy0 : 0 < y := pos_of_wh h38_4 (by omega)
      refine xa5 (x3 (x6 (C_key (k := 1) (e' := ⟨162, 4, true, [.val (tTm ⟨wh x, wh y⟩)]⟩) rfl rfl ?_)))
      refine x8 ?_
      refine RE (xa7 (0) ti162 rfl rfl) ⟨rfl, trivial⟩ ⟨rfl, trivial⟩ trivial (R1 (xa0 (c_Tintegral _) fi174 rfl) rfl (R1 x4 rfl ?_))
      refine RGcase (t := 35) rfl (fun h41 => ?_) (fun h41 => ?_)
      ·
       have hy1 : y = 1 := by have h := of_decide_eq_true h41; exact wh_inj (h.trans wh_one.symm)
       refine RGoff h41 rfl rfl (RGoff h41 rfl rfl (RGoff h41 rfl rfl (RGoff h41 rfl rfl (RGoff h41 rfl rfl (RGoff h41 rfl rfl (RGoff h41 rfl rfl (RGoff h41 rfl rfl ?_)))))))
       refine R2 (xb2 h41) rfl rfl (R1 x5 rfl (x7 (by kernel_rfl) (x3 (xa2 ?_))))
       exact xa9 Plain.mk' rfl rfl (Le.bool (by simp only [Fr.valid, ix, iy, hs, hv1, hv2, Bool.true_and]; rw [hy1]; simp))
      ·
       have hy1 : ¬ y = 1 := fun h => of_decide_eq_false h41 (by show wh y = _; rw [h, wh_one])
       refine RGon h41 rfl (x9 fo162_0 rfl) rfl ⟨rfl, trivial⟩ trivial trivial (RGon h41 rfl (x9 fo49_0 rfl) rfl ⟨rfl, trivial⟩ trivial trivial (xd2 h41 rfl rfl (0) ti47 rfl rfl rfl (At.t (At.g 0 rfl rfl) (At.g 0 rfl rfl)) rfl (RGon h41 rfl (x9 fo162_0 rfl) rfl ⟨rfl, trivial⟩ trivial trivial (RGon h41 rfl (x9 fo49_1 rfl) rfl ⟨rfl, trivial⟩ trivial trivial (xd2 h41 rfl rfl (0) ti47 rfl rfl rfl (At.t (At.g 0 rfl rfl) (At.g 1 rfl rfl)) rfl (RGon h41 rfl (xa0 (c_divisor x y hxl hyl) fi167 rfl) rfl ⟨rfl, rfl, trivial⟩ trivial trivial (RGon h41 rfl (xa0 (c_isOne _) fi175 rfl) rfl ⟨rfl, trivial⟩ trivial trivial ?_)))))))
       refine R2 (xc0 h41) rfl rfl (R1 x5 rfl (x7 (by kernel_rfl) (x3 (xa2 ?_))))
       exact xa9 Plain.mk' rfl rfl (Le.bool (by simp only [Fr.valid, ix, iy, hs, hv1, hv2, decide_eq_true hy0, Bool.true_and]; exact gcd_one_dec))
theorem c_FValid (f : Fr) (hn : Dig 65536 f.n.l) (hd : Dig 65536 f.d.l) :
  Ct Tryz.prog 78 [tFr f] (tB f.valid) := by
 refine Ct.intro Tryz.func78 rfl Tryz.ntmps78 rfl ?_
 intro w F
 refine x6 ?_
 refine x8 ?_
 refine RE (xd4 (k := 1) ti49 rfl) ⟨rfl, trivial⟩ trivial ⟨rfl, trivial⟩ (R1 x5 rfl (x7 (by kernel_rfl) (x3 (x6 ?_))))
 refine x8 ?_
 refine RE (xa7 (0) ti49 rfl rfl) ⟨rfl, trivial⟩ ⟨rfl, trivial⟩ trivial (R1 (xd9 (r := tS [⟨4, true, tFr f⟩]) (ts := [(0, tFr f)]) bu162 zr162.2 ⟨_, rfl⟩ rfl ⟨_, _, _, _, rfl, Up.f (fs := [⟨4, true, (tS [⟨2, true, (tS [⟨1, false, (tE (.bool false))⟩, ⟨1, false, (tLm [])⟩])⟩, ⟨2, true, (tS [⟨1, false, (tE (.bool false))⟩, ⟨1, false, (tLm [])⟩])⟩])⟩]) (f := ⟨4, true, (tS [⟨2, true, (tS [⟨1, false, (tE (.bool false))⟩, ⟨1, false, (tLm [])⟩])⟩, ⟨2, true, (tS [⟨1, false, (tE (.bool false))⟩, ⟨1, false, (tLm [])⟩])⟩])⟩) (fs' := [⟨4, true, tFr f⟩]) 0 rfl rfl rfl, inferInstance, Le.refl⟩) rfl (R1 (xa0 (c_Tvalid f hn hd) fi128 rfl) rfl (R1 x5 rfl (x7 (by kernel_rfl) (x3 (xa2 ?_))))))
 exact xa9 Plain.mk' rfl rfl Le.refl
theorem c_FValidQ (q : Rat) (h : short q) : Ct Tryz.prog 78 [tFr (fr q)] (tB true) := by
  have := c_FValid (fr q) (xe6 xb0 _) (xe6 xb0 _)
  rw [valid_fr h] at this; exact this
theorem c_FallValid1 (q : Rat) (h : short q) :
  Ct Tryz.prog 166 [tFr (fr q)] (tB false) := by
 refine Ct.intro Tryz.func166 rfl Tryz.ntmps166 rfl ?_
 intro w F
 refine x6 ?_
 refine x8 ?_
 refine RE (xd4 (k := 1) ti49 rfl) ⟨rfl, trivial⟩ trivial ⟨rfl, trivial⟩ (R1 x5 rfl (x7 (by kernel_rfl) (x3 (x6 ?_))))
 refine x8 ?_
 refine RE (xa7 (0) ti49 rfl rfl) ⟨rfl, trivial⟩ ⟨rfl, trivial⟩ trivial (R1 (xa0 (c_FValidQ q h) fi78 rfl) rfl (R1 xe2 rfl (R1 x5 rfl (x7 (by kernel_rfl) (x3 (xa2 ?_))))))
 exact xa9 Plain.mk' rfl rfl Le.refl
theorem getD_mem {α : Type} {l : List α} {i : Nat} {d : α} (h : i < l.length) : l.getD i d ∈ l := by
  rw [List.getD_eq_getElem?_getD, List.getElem?_eq_getElem h]; exact List.getElem_mem h
theorem c_FIndex (qs : List Rat) (h : ∀ q ∈ qs, short q) :
  Ct Tryz.prog 202 [tL 4 true (fun q : Rat => tFr (fr q)) qs, tE (.func (.func 166) #[] #[])] (tI (-1)) := by
 refine Ct.intro Tryz.func202 rfl Tryz.ntmps202 rfl ?_
 intro w F
 refine C_len (s := 0) rfl (fun hl0 => ?_)
 refine x6 ?_
 refine x8 ?_
 refine R1 x5 rfl (x7 (by kernel_rfl) (x3 (x6 (x6 ?_))))
 refine x8 ?_
 refine R1 x4 rfl (R1 (xb7 Tryz.underlying57) rfl (R1 x4 rfl (x7 (by kernel_rfl) (x3 (xb3 ?_)))))
 refine xe0 (fun (i : Nat) => i ≤ qs.length) (fun (i : Nat) => upd (upd (upd (upd (fun _ => none) 0 (some (.val (tL 4 true (fun q : Rat => tFr (fr q)) qs)))) 1 (some (.val (tE (.func (.func 166) #[] #[]))))) 7 (some (.val (tI qs.length)))) 8 (some (.val (tI i)))) (fun (i : Nat) => fun _ => none) (nm []) (fun (i : Nat) => qs.length - i) (0) (Nat.zero_le _) (Sub.int rfl (by first | omega | rfl | (dsimp only; omega)) (Sub.int rfl (by first | omega | rfl | (dsimp only; omega)) (Sub.cons rfl (Sub.cons rfl Sub.nil)))) SubK.nil (SupG.val (SupG.val (SupG.val (SupG.val SupG.nil)))) SupH.nil (lkOk rfl) ?_
 intro i hI
 refine x6 ?_
 refine x8 ?_
 refine R2 xd7 rfl rfl (x7 (by kernel_rfl) (x3 (x6 ?_)))
 refine xc5 rfl (fun h108 => ?_) (fun h108 => ?_)
 ·
  refine xa5 (x3 (x6 (xb3 (x6 ?_))))
  refine x8 ?_
  refine R1 x4 rfl (R1 x5 rfl (x7 (by kernel_rfl) (x3 (x6 ?_))))
  refine x8 ?_
  refine R1 x4 rfl (R1 x4 rfl (R1 x4 rfl (R2 (xb6 sl57 i (by omega) (gD (l := qs) (n := i) (d := 0) (by omega))) rfl rfl (R1 (xb8 ti49) rfl (R2 (d_callF (c_FallValid1 (qs.getD i 0) (h _ (getD_mem (by omega)))) fi166 rfl) rfl rfl (x7 (by kernel_rfl) (x3 ?_)))))))
  refine C_bF rfl rfl (xa5 (xc8 (x3 ?_)))
  refine x8 ?_
  refine R2 (xc2 (wr64 (by omega) (by omega))) rfl rfl (R1 x4 rfl (x7 (by kernel_rfl) ?_))
  exact xc6 (i + 1) ⟨(by omega), (by omega)⟩ (Sub.int rfl (by first | omega | rfl | (dsimp only; omega)) (Sub.int rfl (by first | omega | rfl | (dsimp only; omega)) (Sub.cons rfl (Sub.cons rfl Sub.nil)))) SubK.nil (SupG.val (SupG.val (SupG.val (SupG.val SupG.nil)))) SupH.nil (lkOk rfl)
 ·
  refine xd8 (xc1 (xc1 (xe3 (x3 (x6 ?_)))))
  refine x8 ?_
  refine R1 x5 rfl (x7 (by kernel_rfl) (x3 (xa2 ?_)))
  exact xa9 Plain.mk' rfl rfl Le.refl
theorem c_FContains (qs : List Rat) (h : ∀ q ∈ qs, short q) :
  Ct Tryz.prog 165 [tL 4 true (fun q : Rat => tFr (fr q)) qs, tE (.func (.func 166) #[] #[])] (tB false) := by
 refine Ct.intro Tryz.func165 rfl Tryz.ntmps165 rfl ?_
 intro w F
 refine x6 ?_
 refine x8 ?_
 refine R1 x5 rfl (x7 (by kernel_rfl) (x3 (x6 ?_)))
 refine x8 ?_
 refine R1 x4 rfl (R1 x4 rfl (R2 (xa0 (c_FIndex qs h) fi202 rfl) rfl rfl (R2 d_geq rfl rfl (R1 x5 rfl (x7 (by kernel_rfl) (x3 (xa2 ?_)))))))
 exact xa9 Plain.mk' rfl rfl (Le.bool rfl)
theorem c_FallValid (qs : List Rat) (h : ∀ q ∈ qs, short q) :
  Ct Tryz.prog 118 [tL 4 true (fun q : Rat => tFr (fr q)) qs] (tB true) := by
 refine Ct.intro Tryz.func118 rfl Tryz.ntmps118 rfl ?_
 intro w F
 refine x6 ?_
 refine x8 ?_
 refine R1 x5 rfl (x7 (by kernel_rfl) (x3 (x6 ?_)))
 refine x8 ?_
 refine R1 x4 rfl (R2 (xa0 (c_FContains qs h) fi165 rfl) rfl rfl (R1 xe2 rfl (R1 x5 rfl (x7 (by kernel_rfl) (x3 (xa2 ?_))))))
 exact xa9 Plain.mk' rfl rfl Le.refl
theorem mul_divInt (a b : Rat) : Rat.divInt (a.num * b.num) ((a.den : Int) * (b.den : Int)) = a * b := by
  rw [Rat.mul_def, ← Int.natCast_mul, Rat.divInt_ofNat, Rat.normalize_eq_mkRat]
theorem sub_divInt (a b : Rat) : Rat.divInt (a.num * (b.den : Int) + -(b.num * (a.den : Int))) ((a.den : Int) * (b.den : Int)) = a - b := by
  rw [Rat.sub_def, ← Int.natCast_mul, Rat.divInt_ofNat, Rat.normalize_eq_mkRat, Int.sub_eq_add_neg]
theorem den_mul_ne {a b : Rat} : ((a.den : Int) * (b.den : Int)) ≠ 0 := by
  have h1 := a.den_nz; have h2 := b.den_nz
  exact Int.mul_ne_zero (by omega) (by omega)
theorem c_FMul (a b : Rat) (ha : short a) (hb : short b) :
  Ct Tryz.prog 73 [tFr (fr a), tFr (fr b)] (tT [tFr (resF (a * b)), tI (resFE (a * b))]) := by
 obtain ⟨an, ad⟩ := ha
 obtain ⟨bn, bd⟩ := hb
 have hbd := b.den_nz
 have had := a.den_nz
 have m1 : len16 (a.num * b.num) ≤ 256 + 256 := len16_mul an bn
 have m2 : len16 ((a.den : Int) * (b.den : Int)) ≤ 256 + 256 := len16_mul ad bd
 have ha : short a := ⟨an, ad⟩
 have hb : short b := ⟨bn, bd⟩
 refine Ct.intro Tryz.func73 rfl Tryz.ntmps73 rfl ?_
 intro w F
 refine x6 ?_
 refine x8 ?_
 refine RE (xd4 (k := 2) ti49 rfl) ⟨rfl, trivial⟩ trivial ⟨rfl, trivial⟩ (RE (xd4 (k := 3) ti49 rfl) ⟨rfl, trivial⟩ trivial ⟨rfl, trivial⟩ (RE (xc4 (k := 4) (n := 4) (agg := true) zr49.1 zr49.2 rfl) trivial trivial ⟨rfl, trivial⟩ (R1 x5 rfl (x7 (by kernel_rfl) (x3 (x6 (x6 ?_)))))))
 refine x8 ?_
 refine RE (xa7 (0) ti49 rfl rfl) ⟨rfl, trivial⟩ ⟨rfl, trivial⟩ trivial (RE (xa7 (0) ti49 rfl rfl) ⟨rfl, trivial⟩ ⟨rfl, trivial⟩ trivial (R2 (xf3 (n := 2) (f := fun q : Rat => tFr (fr q)) [a, b] Tryz.underlying57 el49 zf49 rfl (fun _ => inferInstance) rfl rfl rfl) rfl rfl (R1 (xa0 (c_FallValid [a, b] (by simp; exact ⟨ha, hb⟩)) fi118 rfl) rfl (R1 xe2 rfl (x7 (by kernel_rfl) (x3 (C_bF rfl rfl ?_)))))))
 refine xa5 (x3 (x6 ?_))
 refine xc9 mixed ?_
 refine R1 (x9 fo49_0 rfl) rfl (xa4 (0) ti47 rfl rfl rfl (At.g 0 rfl rfl) rfl (R1 (x9 fo49_0 rfl) rfl (xa4 (0) ti47 rfl rfl rfl (At.g 0 rfl rfl) rfl (R2 (xa0 (c_ftimes (a.num) (b.num) (by omega) (by omega) (by omega)) fi120 rfl) rfl rfl (R1 (x9 fo49_1 rfl) rfl (xa4 (0) ti47 rfl rfl rfl (At.g 1 rfl rfl) rfl (R1 (x9 fo49_1 rfl) rfl ?_)))))))
 refine xa4 (0) ti47 rfl rfl rfl (At.g 1 rfl rfl) rfl (R2 (xa0 (c_ftimes ((a.den : Int)) ((b.den : Int)) (by omega) (by omega) (by omega)) fi120 rfl) rfl rfl (R2 (xa0 (c_lowest _ _ (by omega) (by omega) den_mul_ne) fi119 rfl) rfl rfl (R1 (xa0 (c_Tresult _) fi121 rfl) rfl (R1 (xa8 rfl) rfl (R1 (xa8 rfl) rfl (RE (xa6 (es := 4) (agg := true) (0) ti49 rfl rfl rfl) ⟨rfl, rfl, trivial⟩ ⟨rfl, trivial⟩ trivial (R1 x5 rfl ?_)))))))
 refine xd1 (by kernel_rfl) (x3 (xa2 ?_))
 exact xf1 Plain.mk' (rs := [.cell 4 49, .tmp 5]) rfl rfl ⟨⟨_, _, _, _, _, rfl, rfl, ti49, (Le.of (by rw [sh_fr, mul_divInt]; by_cases hs : short (a * b) <;> simp [resF, hs]))⟩, ⟨_, rfl, (Le.int (by rw [sh_fr, mul_divInt]; by_cases hs : short (a * b) <;> simp [resFE, hs]))⟩, trivial⟩
theorem c_FSub (a b : Rat) (ha : short a) (hb : short b) :
  Ct Tryz.prog 74 [tFr (fr a), tFr (fr b)] (tT [tFr (resF (a - b)), tI (resFE (a - b))]) := by
 obtain ⟨an, ad⟩ := ha
 obtain ⟨bn, bd⟩ := hb
 have hbd := b.den_nz
 have had := a.den_nz
 have m1 : len16 (a.num * (b.den : Int)) ≤ 256 + 256 := len16_mul an bd
 have m2 : len16 (b.num * (a.den : Int)) ≤ 256 + 256 := len16_mul bn ad
 have m3 : len16 ((a.den : Int) * (b.den : Int)) ≤ 256 + 256 := len16_mul ad bd
 have m2n := len16_neg (b.num * (a.den : Int))
 have m4 := len16_add m1 (m2n ▸ m2)
 have ha : short a := ⟨an, ad⟩
 have hb : short b := ⟨bn, bd⟩
 refine Ct.intro Tryz.func74 rfl Tryz.ntmps74 rfl ?_
 intro w F
 refine x6 ?_
 refine x8 ?_
 refine RE (xd4 (k := 2) ti49 rfl) ⟨rfl, trivial⟩ trivial ⟨rfl, trivial⟩ (RE (xd4 (k := 3) ti49 rfl) ⟨rfl, trivial⟩ trivial ⟨rfl, trivial⟩ (RE (xc4 (k := 4) (n := 4) (agg := true) zr49.1 zr49.2 rfl) trivial trivial ⟨rfl, trivial⟩ (R1 x5 rfl (x7 (by kernel_rfl) (x3 (x6 (x6 ?_)))))))
 refine x8 ?_
 refine RE (xa7 (0) ti49 rfl rfl) ⟨rfl, trivial⟩ ⟨rfl, trivial⟩ trivial (RE (xa7 (0) ti49 rfl rfl) ⟨rfl, trivial⟩ ⟨rfl, trivial⟩ trivial (R2 (xf3 (n := 2) (f := fun q : Rat => tFr (fr q)) [a, b] Tryz.underlying57 el49 zf49 rfl (fun _ => inferInstance) rfl rfl rfl) rfl rfl (R1 (xa0 (c_FallValid [a, b] (by simp; exact ⟨ha, hb⟩)) fi118 rfl) rfl (R1 xe2 rfl (x7 (by kernel_rfl) (x3 (C_bF rfl rfl ?_)))))))
 refine xa5 (x3 (x6 ?_))
 refine xc9 mixed ?_
 refine R1 (x9 fo49_0 rfl) rfl (xa4 (0) ti47 rfl rfl rfl (At.g 0 rfl rfl) rfl (R1 (x9 fo49_1 rfl) rfl (xa4 (0) ti47 rfl rfl rfl (At.g 1 rfl rfl) rfl (R2 (xa0 (c_ftimes (a.num) ((b.den : Int)) (by omega) (by omega) (by omega)) fi120 rfl) rfl rfl (R1 (x9 fo49_0 rfl) rfl (xa4 (0) ti47 rfl rfl rfl (At.g 0 rfl rfl) rfl (R1 (x9 fo49_1 rfl) rfl ?_)))))))
 refine xa4 (0) ti47 rfl rfl rfl (At.g 1 rfl rfl) rfl (R2 (xa0 (c_ftimes (b.num) ((a.den : Int)) (by omega) (by omega) (by omega)) fi120 rfl) rfl rfl (R1 (xa0 (c_opposite (b.num * (a.den : Int)) (by omega)) fi123 rfl) rfl (R2 (xa0 (c_fplus (a.num * (b.den : Int)) (-(b.num * (a.den : Int))) (by omega) (by omega) (by omega)) fi122 rfl) rfl rfl (R1 (x9 fo49_1 rfl) rfl (xa4 (0) ti47 rfl rfl rfl (At.g 1 rfl rfl) rfl (R1 (x9 fo49_1 rfl) rfl (xa4 (0) ti47 rfl rfl rfl (At.g 1 rfl rfl) rfl ?_)))))))
 refine R2 (xa0 (c_ftimes ((a.den : Int)) ((b.den : Int)) (by omega) (by omega) (by omega)) fi120 rfl) rfl rfl (R2 (xa0 (c_lowest _ _ (by omega) (by omega) den_mul_ne) fi119 rfl) rfl rfl (R1 (xa0 (c_Tresult _) fi121 rfl) rfl (R1 (xa8 rfl) rfl (R1 (xa8 rfl) rfl (RE (xa6 (es := 4) (agg := true) (0) ti49 rfl rfl rfl) ⟨rfl, rfl, trivial⟩ ⟨rfl, trivial⟩ trivial (R1 x5 rfl (xd1 (by kernel_rfl) ?_)))))))
 refine x3 (xa2 ?_)
 exact xf1 Plain.mk' (rs := [.cell 4 49, .tmp 5]) rfl rfl ⟨⟨_, _, _, _, _, rfl, rfl, ti49, (Le.of (by rw [sh_fr, sub_divInt]; by_cases hs : short (a - b) <;> simp [resF, hs]))⟩, ⟨_, rfl, (Le.int (by rw [sh_fr, sub_divInt]; by_cases hs : short (a - b) <;> simp [resFE, hs]))⟩, trivial⟩
theorem c_FCmp (a b : Rat) (ha : short a) (hb : short b) :
  Ct Tryz.prog 79 [tFr (fr a), tFr (fr b)] (tI (cmpQ a b)) := by
 obtain ⟨an, ad⟩ := ha
 obtain ⟨bn, bd⟩ := hb
 have hbd := b.den_nz
 have had := a.den_nz
 have m1 : len16 (a.num * (b.den : Int)) ≤ 256 + 256 := len16_mul an bd
 have m2 : len16 (b.num * (a.den : Int)) ≤ 256 + 256 := len16_mul bn ad
 have ha : short a := ⟨an, ad⟩
 have hb : short b := ⟨bn, bd⟩
 refine Ct.intro Tryz.func79 rfl Tryz.ntmps79 rfl ?_
 intro w F
 refine x6 ?_
 refine x8 ?_
 refine RE (xd4 (k := 2) ti49 rfl) ⟨rfl, trivial⟩ trivial ⟨rfl, trivial⟩ (RE (xd4 (k := 3) ti49 rfl) ⟨rfl, trivial⟩ trivial ⟨rfl, trivial⟩ (R1 x5 rfl (x7 (by kernel_rfl) (x3 (x6 (x6 ?_))))))
 refine x8 ?_
 refine RE (xa7 (0) ti49 rfl rfl) ⟨rfl, trivial⟩ ⟨rfl, trivial⟩ trivial (RE (xa7 (0) ti49 rfl rfl) ⟨rfl, trivial⟩ ⟨rfl, trivial⟩ trivial (R2 (xf3 (n := 2) (f := fun q : Rat => tFr (fr q)) [a, b] Tryz.underlying57 el49 zf49 rfl (fun _ => inferInstance) rfl rfl rfl) rfl rfl (R1 (xa0 (c_FallValid [a, b] (by simp; exact ⟨ha, hb⟩)) fi118 rfl) rfl (R1 xe2 rfl (x7 (by kernel_rfl) (x3 (C_bF rfl rfl ?_)))))))
 refine xa5 (x3 (x6 ?_))
 refine xc9 mixed ?_
 refine R1 (x9 fo49_0 rfl) rfl (xa4 (0) ti47 rfl rfl rfl (At.g 0 rfl rfl) rfl (R1 (x9 fo49_1 rfl) rfl (xa4 (0) ti47 rfl rfl rfl (At.g 1 rfl rfl) rfl (R2 (xa0 (c_ftimes (a.num) ((b.den : Int)) (by omega) (by omega) (by omega)) fi120 rfl) rfl rfl (R1 (x9 fo49_0 rfl) rfl (xa4 (0) ti47 rfl rfl rfl (At.g 0 rfl rfl) rfl (R1 (x9 fo49_1 rfl) rfl ?_)))))))
 refine xa4 (0) ti47 rfl rfl rfl (At.g 1 rfl rfl) rfl (R2 (xa0 (c_ftimes (b.num) ((a.den : Int)) (by omega) (by omega) (by omega)) fi120 rfl) rfl rfl (R2 (xa0 (c_Cmp (a.num * (b.den : Int)) (b.num * (a.den : Int)) (by omega) (by omega)) fi90 rfl) rfl rfl (R1 x5 rfl (xd1 (by kernel_rfl) (x3 (xa2 ?_))))))
 exact xa9 Plain.mk' rfl rfl (Le.int (cmpQ_eq a b))
theorem c_FFromInt (n : Int) (h1 : -9223372036854775808 ≤ n) (h2 : n ≤ 9223372036854775807) :
  Ct Tryz.prog 71 [tI n] (tFr (fr (n : Rat))) := by
 refine Ct.intro Tryz.func71 rfl Tryz.ntmps71 rfl ?_
 intro w F
 refine x6 ?_
 refine x8 ?_
 refine RE (xc4 (k := 2) (n := 4) (agg := true) zr49.1 zr49.2 rfl) trivial trivial ⟨rfl, trivial⟩ (x7 (by kernel_rfl) (x3 (x6 ?_)))
 refine x8 ?_
 refine R1 x4 rfl (R1 (xa0 (c_FromInt n h1 h2) fi91 rfl) rfl (R1 (xa0 (c_FromInt 1 (by decide) (by decide)) fi91 rfl) rfl (R2 (xd9 (r := tS [⟨2, true, tWh (wh n)⟩, ⟨2, true, tWh (wh 1)⟩]) (ts := [(0, tWh (wh n)), (1, tWh (wh 1))]) bu49 zr49.2 ⟨_, rfl⟩ rfl ⟨_, _, _, _, rfl, Up.f (fs := [⟨2, true, (tS [⟨1, false, (tE (.bool false))⟩, ⟨1, false, (tLm [])⟩])⟩, ⟨2, true, (tS [⟨1, false, (tE (.bool false))⟩, ⟨1, false, (tLm [])⟩])⟩]) (f := ⟨2, true, (tS [⟨1, false, (tE (.bool false))⟩, ⟨1, false, (tLm [])⟩])⟩) (fs' := [⟨2, true, tWh (wh n)⟩, ⟨2, true, (tS [⟨1, false, (tE (.bool false))⟩, ⟨1, false, (tLm [])⟩])⟩]) 0 rfl rfl rfl, inferInstance, ⟨_, _, _, _, rfl, Up.f (fs := [⟨2, true, tWh (wh n)⟩, ⟨2, true, (tS [⟨1, false, (tE (.bool false))⟩, ⟨1, false, (tLm [])⟩])⟩]) (f := ⟨2, true, (tS [⟨1, false, (tE (.bool false))⟩, ⟨1, false, (tLm [])⟩])⟩) (fs' := [⟨2, true, tWh (wh n)⟩, ⟨2, true, tWh (wh 1)⟩]) 1 rfl rfl rfl, inferInstance, Le.refl⟩⟩) rfl rfl (RE (xa6 (es := 4) (agg := true) (0) ti49 rfl rfl rfl) ⟨rfl, rfl, trivial⟩ ⟨rfl, trivial⟩ trivial (x7 (by kernel_rfl) (x3 (xa2 ?_)))))))
 exact xg2 Plain.mk' rfl ⟨_, _, _, _, _, rfl, rfl, ti49, (Le.of (by rw [fr, Rat.num_intCast, Rat.den_intCast]; rfl))⟩
theorem c_FInt (q : Rat) (h : short q) :
  Ct Tryz.prog 133 [tFr (fr q)] (tT [tI (if q.den = 1 ∧ fits q.num = true then q.num else 0), tI (if q.den = 1 then (if fits q.num then 0 else 3) else 22)]) := by
 obtain ⟨qn, qd⟩ := h
 have h : short q := ⟨qn, qd⟩
 refine Ct.intro Tryz.func133 rfl Tryz.ntmps133 rfl ?_
 intro w F
 refine x6 ?_
 refine x8 ?_
 refine RE (xd4 (k := 1) ti49 rfl) ⟨rfl, trivial⟩ trivial ⟨rfl, trivial⟩ (R1 x5 rfl (R1 x5 rfl (x7 (by kernel_rfl) (x3 (x6 (x6 ?_))))))
 refine x8 ?_
 refine RE (xa7 (0) ti49 rfl rfl) ⟨rfl, trivial⟩ ⟨rfl, trivial⟩ trivial (R1 (xa0 (c_FValidQ q h) fi78 rfl) rfl (R1 xe2 rfl (x7 (by kernel_rfl) (x3 (C_bF rfl rfl (xa5 (x3 ?_)))))))
 refine x6 (x6 ?_)
 refine x8 ?_
 refine RE (xa7 (0) ti49 rfl rfl) ⟨rfl, trivial⟩ ⟨rfl, trivial⟩ trivial (R1 (xd9 (r := tS [⟨4, true, tFr (fr q)⟩]) (ts := [(0, tFr (fr q))]) bu162 zr162.2 ⟨_, rfl⟩ rfl ⟨_, _, _, _, rfl, Up.f (fs := [⟨4, true, (tS [⟨2, true, (tS [⟨1, false, (tE (.bool false))⟩, ⟨1, false, (tLm [])⟩])⟩, ⟨2, true, (tS [⟨1, false, (tE (.bool false))⟩, ⟨1, false, (tLm [])⟩])⟩])⟩]) (f := ⟨4, true, (tS [⟨2, true, (tS [⟨1, false, (tE (.bool false))⟩, ⟨1, false, (tLm [])⟩])⟩, ⟨2, true, (tS [⟨1, false, (tE (.bool false))⟩, ⟨1, false, (tLm [])⟩])⟩])⟩) (fs' := [⟨4, true, tFr (fr q)⟩]) 0 rfl rfl rfl, inferInstance, Le.refl⟩) rfl (R1 (xa0 (c_Tintegral _) fi174 rfl) rfl (R1 xe2 rfl (x7 (by kernel_rfl) (x3 ?_)))))
 refine xf0 rfl (fun h248 => ?_) (fun h248 => ?_)
 ·
  have hd1 : ¬ q.den = 1 := fun hh => by
   have e : (fr q).d = ⟨false, [1]⟩ := by show wh (q.den : Int) = _; rw [hh]; exact wh_one
   rw [e] at h248; simp at h248
  refine x6 ?_
  refine x8 ?_
  refine R1 x5 rfl (R1 x5 rfl (x7 (by kernel_rfl) (x3 (xa2 (xa3 ?_)))))
  exact xf6 Plain.mk' rfl rfl rfl (Le.int (by rw [if_neg (fun hh => hd1 hh.1)])) (Le.int (by rw [if_neg hd1]))
 ·
  have hd1 : q.den = 1 := by
   have e : (fr q).d = ⟨false, [1]⟩ := by simpa using h248
   have e2 : wh (q.den : Int) = wh 1 := e.trans wh_one.symm
   have := wh_inj e2; omega
  refine xa5 (x3 (x6 ?_))
  refine x8 ?_
  refine R1 (x9 fo49_0 rfl) rfl (xa4 (0) ti47 rfl rfl rfl (At.g 0 rfl rfl) rfl (R1 (xa0 (c_WInt q.num (by omega)) fi92 rfl) rfl (R1 (xa8 rfl) rfl (R1 (xa8 rfl) rfl (R1 x5 rfl (R1 x5 rfl (x7 (by kernel_rfl) ?_)))))))
  refine x3 (xa2 ?_)
  exact xf6 Plain.mk' rfl rfl rfl (Le.int (by by_cases hf : fits q.num = true <;> simp [hf, hd1])) (Le.int (by rw [if_pos hd1]))
end An.S

/- Package frac: rounding down. -/
namespace An.S
open Go Go.Proofs An
set_option maxHeartbeats 2000000
theorem ti205 : TyI Tryz.prog 205 3 true := ⟨by kernel_rfl, by kernel_rfl⟩
theorem ti206 : TyI Tryz.prog 206 1 false := ⟨by kernel_rfl, by kernel_rfl⟩
theorem ti207 : TyI Tryz.prog 207 6 true := ⟨by kernel_rfl, by kernel_rfl⟩
theorem fi178 : FnI Tryz.prog 178 := ⟨_, Tryz.func178, by kernel_rfl, rfl⟩
theorem fi179 : FnI Tryz.prog 179 := ⟨_, Tryz.func179, by kernel_rfl, rfl⟩
theorem fi180 : FnI Tryz.prog 180 := ⟨_, Tryz.func180, by kernel_rfl, rfl⟩
theorem fi209 : FnI Tryz.prog 209 := ⟨_, Tryz.func209, by kernel_rfl, rfl⟩
theorem zr205 : (Tryz.prog.info? 205).bind (·.zero) = some (.agg #[.bool false, .bool false, .int .i64 0]) ∧ ∀ F w, (tS [⟨1, false, (tE (.bool false))⟩, ⟨1, false, (tE (.bool false))⟩, ⟨1, false, (tE (.int .i64 0))⟩]).p F w (.agg #[.bool false, .bool false, .int .i64 0]) := ⟨by kernel_rfl, fun _ _ => ⟨_, rfl, rfl, ⟨fun _ => rfl, rfl⟩, ⟨fun _ => rfl, rfl⟩, ⟨fun _ => rfl, rfl⟩, trivial⟩⟩
theorem bu205 : BuI Tryz.prog 205 (fun i => [(0, 1), (1, 1), (2, 1)][i]?) (.agg #[.bool false, .bool false, .int .i64 0]) := BuI.struct Tryz.underlying205 (by kernel_rfl) (by kernel_rfl)
theorem zf207 : Flat 6 true (.agg #[.nilFunc, .nilFunc, .nilFunc, .nilFunc, .nilFunc, .nilFunc]) := flat_agg (by intro u hu; simp at hu; rcases hu with rfl | rfl | rfl | rfl | rfl | rfl <;> rfl)
theorem c_up3 (p q : Bool) (h : Int) :
  Ct Tryz.prog 209 [tS [⟨1, false, tB p⟩, ⟨1, false, tB q⟩, ⟨1, false, tI h⟩]] (tB false) := by
 refine Ct.intro Tryz.func209 rfl Tryz.ntmps209 rfl ?_
 intro w F
 refine x6 ?_
 refine x8 ?_
 refine RE (xd4 (k := 1) ti205 rfl) ⟨rfl, trivial⟩ trivial ⟨rfl, trivial⟩ (R1 x5 rfl (x7 (by kernel_rfl) (x3 (x6 ?_))))
 refine x8 ?_
 refine R1 x5 rfl (x7 (by kernel_rfl) (x3 (xa2 ?_)))
 exact xa9 Plain.mk' rfl rfl Le.refl
theorem flat_up : Flat 6 true (.agg #[.func (.func 207) #[] #[], .func (.func 208) #[] #[], .func (.func 209) #[] #[], .func (.func 210) #[] #[], .func (.func 211) #[] #[], .func (.func 212) #[] #[]]) := flat_agg (by intro u hu; simp at hu; rcases hu with rfl | rfl | rfl | rfl | rfl | rfl <;> rfl)
theorem c_upwards  :
  Ct Tryz.prog 180 [] (tE (.agg #[.func (.func 207) #[] #[], .func (.func 208) #[] #[], .func (.func 209) #[] #[], .func (.func 210) #[] #[], .func (.func 211) #[] #[], .func (.func 212) #[] #[]])) := by
 refine Ct.intro Tryz.func180 rfl Tryz.ntmps180 rfl ?_
 intro w F
 refine x6 ?_
 refine x8 ?_
 refine RE (xc4 (k := 0) (n := 6) (agg := true) (t := tE (.agg #[.nilFunc, .nilFunc, .nilFunc, .nilFunc, .nilFunc, .nilFunc])) (z := .agg #[.nilFunc, .nilFunc, .nilFunc, .nilFunc, .nilFunc, .nilFunc]) (by kernel_rfl) (fun _ _ => rfl) (he := shapeE zf207) rfl) trivial trivial ⟨rfl, trivial⟩ (x7 (by kernel_rfl) (x3 (x6 ?_)))
 refine x8 ?_
 refine RE (d_buildE (vs := [.func (.func 207) #[] #[], .func (.func 208) #[] #[], .func (.func 209) #[] #[], .func (.func 210) #[] #[], .func (.func 211) #[] #[], .func (.func 212) #[] #[]]) (r := .agg #[.func (.func 207) #[] #[], .func (.func 208) #[] #[], .func (.func 209) #[] #[], .func (.func 210) #[] #[], .func (.func 211) #[] #[], .func (.func 212) #[] #[]]) rfl (fun w => by kernel_rfl)) ⟨rfl, rfl, rfl, rfl, rfl, rfl, trivial⟩ trivial trivial (RE (xa6 (es := 6) (agg := true) (he := shapeEE flat_up) (0) ti207 rfl rfl rfl) ⟨rfl, rfl, trivial⟩ ⟨rfl, trivial⟩ trivial (x7 (by kernel_rfl) (x3 (xa2 ?_))))
 exact xg2 Plain.mk' rfl ⟨_, _, _, _, _, rfl, rfl, ti207, Le.refl⟩
theorem rnd_divInt (k : Int) (u : Rat) : Rat.divInt (k * u.num) (u.den : Int) = (k : Rat) * u := by
  have h := mul_divInt (k : Rat) u
  rw [Rat.num_intCast, Rat.den_intCast] at h
  rw [← h]; simp
theorem c_FRound3 (a u : Rat) (ha : short a) (hu : short u) (hun : 0 < u.num) :
  Ct Tryz.prog 132 [tFr (fr a), tFr (fr u), tE (.int .u8 3)] (tT [tFr (resF (((((a.num * (u.den : Int)) / ((a.den : Int) * u.num)) : Int) : Rat) * u)), tI (resFE (((((a.num * (u.den : Int)) / ((a.den : Int) * u.num)) : Int) : Rat) * u))]) := by
 obtain ⟨an, ad⟩ := ha
 obtain ⟨un, ud⟩ := hu
 have had := a.den_nz
 have hud := u.den_nz
 have hY : 0 < ((a.den : Int) * u.num) := Int.mul_pos (by omega) hun
 have m1 : len16 (a.num * (u.den : Int)) ≤ 256 + 256 := len16_mul an ud
 have m2 : len16 ((a.den : Int) * u.num) ≤ 256 + 256 := len16_mul ad un
 have m3 : len16 ((a.num * (u.den : Int)) / ((a.den : Int) * u.num)) ≤ 512 := len16_div m1
 have m4 : len16 ((a.num * (u.den : Int)) % ((a.den : Int) * u.num)) ≤ 512 := Nat.le_trans (len16_le (by have h1 := Int.emod_nonneg (a.num * (u.den : Int)) (Int.ne_of_gt hY); have h2 := Int.emod_lt_of_pos (a.num * (u.den : Int)) hY; omega)) m2
 have m5 : len16 (((a.num * (u.den : Int)) % ((a.den : Int) * u.num)) + ((a.num * (u.den : Int)) % ((a.den : Int) * u.num))) ≤ 512 + 1 := len16_add m4 m4
 have m6 : len16 (((a.num * (u.den : Int)) / ((a.den : Int) * u.num)) * u.num) ≤ 512 + 256 := len16_mul m3 un
 have ha : short a := ⟨an, ad⟩
 have hu : short u := ⟨un, ud⟩
 refine Ct.intro Tryz.func132 rfl Tryz.ntmps132 rfl ?_
 intro w F
 refine x6 ?_
 refine x8 ?_
 refine RE (xd4 (k := 3) ti49 rfl) ⟨rfl, trivial⟩ trivial ⟨rfl, trivial⟩ (RE (xd4 (k := 4) ti49 rfl) ⟨rfl, trivial⟩ trivial ⟨rfl, trivial⟩ (RE (xc4 (k := 6) (n := 4) (agg := true) zr49.1 zr49.2 rfl) trivial trivial ⟨rfl, trivial⟩ (R1 x5 rfl (x7 (by kernel_rfl) (x3 (x6 (x6 ?_)))))))
 refine x8 ?_
 refine RE (xa7 (0) ti49 rfl rfl) ⟨rfl, trivial⟩ ⟨rfl, trivial⟩ trivial (RE (xa7 (0) ti49 rfl rfl) ⟨rfl, trivial⟩ ⟨rfl, trivial⟩ trivial (R2 (xf3 (n := 2) (f := fun q : Rat => tFr (fr q)) [a, u] Tryz.underlying57 el49 zf49 rfl (fun _ => inferInstance) rfl rfl rfl) rfl rfl (R1 (xa0 (c_FallValid [a, u] (by simp; exact ⟨ha, hu⟩)) fi118 rfl) rfl (R1 xe2 rfl (R1 x4 rfl (RGon rfl rfl x4 rfl ⟨rfl, trivial⟩ trivial trivial (RGon rfl rfl xd7 rfl ⟨rfl, rfl, trivial⟩ trivial trivial ?_)))))))
 refine R2 (xc0 rfl) rfl rfl (R1 x4 rfl (RGon (decide_eq_false (by omega)) rfl x4 rfl ⟨rfl, trivial⟩ trivial trivial (RGon (decide_eq_false (by omega)) rfl xf2 rfl ⟨rfl, rfl, trivial⟩ trivial trivial (R2 (xc0 (decide_eq_false (by omega))) rfl rfl (x7 (by kernel_rfl) (x3 (C_bF rfl (decide_eq_false (by omega)) ?_)))))))
 refine xa5 (x3 (x6 (x6 ?_)))
 refine x8 ?_
 refine RE (xa7 (0) ti49 rfl rfl) ⟨rfl, trivial⟩ ⟨rfl, trivial⟩ trivial (R1 (xd9 (r := tS [⟨4, true, tFr (fr u)⟩]) (ts := [(0, tFr (fr u))]) bu162 zr162.2 ⟨_, rfl⟩ rfl ⟨_, _, _, _, rfl, Up.f (fs := [⟨4, true, (tS [⟨2, true, (tS [⟨1, false, (tE (.bool false))⟩, ⟨1, false, (tLm [])⟩])⟩, ⟨2, true, (tS [⟨1, false, (tE (.bool false))⟩, ⟨1, false, (tLm [])⟩])⟩])⟩]) (f := ⟨4, true, (tS [⟨2, true, (tS [⟨1, false, (tE (.bool false))⟩, ⟨1, false, (tLm [])⟩])⟩, ⟨2, true, (tS [⟨1, false, (tE (.bool false))⟩, ⟨1, false, (tLm [])⟩])⟩])⟩) (fs' := [⟨4, true, tFr (fr u)⟩]) 0 rfl rfl rfl, inferInstance, Le.refl⟩) rfl (R1 (xa0 (c_Tzero _) fi178 rfl) rfl (R1 x4 rfl (RGon (decide_eq_false (by (intro h; have h2 : u.num.natAbs = 0 := (xg5 xb0).1 (List.length_eq_zero_iff.1 h); omega))) rfl (xa7 (0) ti49 rfl rfl) rfl ⟨rfl, trivial⟩ ⟨rfl, trivial⟩ trivial (RGon (decide_eq_false (by (intro h; have h2 : u.num.natAbs = 0 := (xg5 xb0).1 (List.length_eq_zero_iff.1 h); omega))) rfl (xd9 (r := tS [⟨4, true, tFr (fr u)⟩]) (ts := [(0, tFr (fr u))]) bu162 zr162.2 ⟨_, rfl⟩ rfl ⟨_, _, _, _, rfl, Up.f (fs := [⟨4, true, (tS [⟨2, true, (tS [⟨1, false, (tE (.bool false))⟩, ⟨1, false, (tLm [])⟩])⟩, ⟨2, true, (tS [⟨1, false, (tE (.bool false))⟩, ⟨1, false, (tLm [])⟩])⟩])⟩]) (f := ⟨4, true, (tS [⟨2, true, (tS [⟨1, false, (tE (.bool false))⟩, ⟨1, false, (tLm [])⟩])⟩, ⟨2, true, (tS [⟨1, false, (tE (.bool false))⟩, ⟨1, false, (tLm [])⟩])⟩])⟩) (fs' := [⟨4, true, tFr (fr u)⟩]) 0 rfl rfl rfl, inferInstance, Le.refl⟩) rfl ⟨rfl, trivial⟩ trivial trivial (RGon (decide_eq_false (by (intro h; have h2 : u.num.natAbs = 0 := (xg5 xb0).1 (List.length_eq_zero_iff.1 h); omega))) rfl (xa0 (c_Tnegative _) fi179 rfl) rfl ⟨rfl, trivial⟩ trivial trivial (R2 (xc0 (decide_eq_false (by (intro h; have h2 : u.num.natAbs = 0 := (xg5 xb0).1 (List.length_eq_zero_iff.1 h); omega)))) rfl rfl ?_)))))))
 refine x7 (by kernel_rfl) (x3 (C_bF rfl (by (exact decide_eq_false (by omega))) (xa5 (x3 (x6 ?_)))))
 refine x8 ?_
 refine R1 (x9 fo49_1 rfl) rfl (xa4 (0) ti47 rfl rfl rfl (At.g 1 rfl rfl) rfl (R1 (x9 fo49_0 rfl) rfl (xa4 (0) ti47 rfl rfl rfl (At.g 0 rfl rfl) rfl (R2 (xa0 (c_ftimes (a.den : Int) u.num (by omega) (by omega) (by omega)) fi120 rfl) rfl rfl (RE (xc4 (k := 8) (n := 2) (agg := true) zr47.1 zr47.2 rfl) trivial trivial ⟨rfl, trivial⟩ (RE (xa6 (es := 2) (agg := true) (0) ti47 rfl rfl rfl) ⟨rfl, rfl, trivial⟩ ⟨rfl, trivial⟩ trivial (x7 (by kernel_rfl) ?_)))))))
 refine x3 (x6 ?_)
 refine xc9 mixed ?_
 refine R1 (x9 fo49_0 rfl) rfl (xa4 (0) ti47 rfl rfl rfl (At.g 0 rfl rfl) rfl (R1 (x9 fo49_1 rfl) rfl (xa4 (0) ti47 rfl rfl rfl (At.g 1 rfl rfl) rfl (R2 (xa0 (c_ftimes a.num (u.den : Int) (by omega) (by omega) (by omega)) fi120 rfl) rfl rfl (RE (xa7 (0) ti47 rfl rfl) ⟨rfl, trivial⟩ ⟨rfl, trivial⟩ trivial (R2 (xa0 (c_fdivide (a.num * (u.den : Int)) ((a.den : Int) * u.num) (by omega) (by omega) hY) fi139 rfl) rfl rfl (R1 x4 rfl ?_)))))))
 refine R1 (xa8 rfl) rfl (R1 (xa8 rfl) rfl (RE (xc4 (k := 9) (n := 2) (agg := true) zr47.1 zr47.2 rfl) trivial trivial ⟨rfl, trivial⟩ (RE (xc4 (k := 10) (n := 2) (agg := true) zr47.1 zr47.2 rfl) trivial trivial ⟨rfl, trivial⟩ (RE (xa6 (es := 2) (agg := true) (0) ti47 rfl rfl rfl) ⟨rfl, rfl, trivial⟩ ⟨rfl, trivial⟩ trivial (RE (xa6 (es := 2) (agg := true) (0) ti47 rfl rfl rfl) ⟨rfl, rfl, trivial⟩ ⟨rfl, trivial⟩ trivial (xd1 (by kernel_rfl) (x3 ?_)))))))
 refine C_join (fun (_j : Unit) => True) (fun (_j : Unit) => upd (upd (upd (upd (fun _ => none) 3 (some (.own (.ptr 3 0)))) 4 (some (.own (.ptr 4 0)))) 6 (some (.own (.ptr 6 0)))) 9 (some (.own (.ptr 9 0)))) (fun (_j : Unit) => upd (upd (upd (upd (fun _ => none) 3 (some (⟨49, 4, true, [.val (tFr (fr a))]⟩))) 4 (some (⟨49, 4, true, [.val (tFr (fr u))]⟩))) 6 (some (⟨49, 4, true, [.val (tFr fr0)]⟩))) 9 (some (⟨47, 2, true, [.val (tWh (wh ((a.num * (u.den : Int)) / ((a.den : Int) * u.num))))]⟩))) (nm [3, 4, 6, 9]) ?_ ?_
 ·
  refine x6 ?_
  refine x8 ?_
  refine R1 (x9 fo47_1 rfl) rfl (xa4 (0) ti45 rfl rfl rfl (At.g 1 rfl rfl) rfl (R1 (xb7 Tryz.underlying45) rfl (R2 xf2 rfl rfl (x7 (by kernel_rfl) (x3 ?_)))))
  refine xc5 rfl (fun h37 => ?_) (fun h37 => ?_)
  ·
   refine x6 ?_
   refine xc9 mixed ?_
   refine RE (xa7 (0) ti49 rfl rfl) ⟨rfl, trivial⟩ ⟨rfl, trivial⟩ trivial (R1 (xd9 (r := tS [⟨4, true, tFr (fr a)⟩]) (ts := [(0, tFr (fr a))]) bu162 zr162.2 ⟨_, rfl⟩ rfl ⟨_, _, _, _, rfl, Up.f (fs := [⟨4, true, (tS [⟨2, true, (tS [⟨1, false, (tE (.bool false))⟩, ⟨1, false, (tLm [])⟩])⟩, ⟨2, true, (tS [⟨1, false, (tE (.bool false))⟩, ⟨1, false, (tLm [])⟩])⟩])⟩]) (f := ⟨4, true, (tS [⟨2, true, (tS [⟨1, false, (tE (.bool false))⟩, ⟨1, false, (tLm [])⟩])⟩, ⟨2, true, (tS [⟨1, false, (tE (.bool false))⟩, ⟨1, false, (tLm [])⟩])⟩])⟩) (fs' := [⟨4, true, tFr (fr a)⟩]) 0 rfl rfl rfl, inferInstance, Le.refl⟩) rfl (R1 (xa0 (c_Tnegative _) fi179 rfl) rfl (R1 (x9 fo47_1 rfl) rfl (xa4 (0) ti45 rfl rfl rfl (At.g 1 rfl rfl) rfl (R1 (xb7 Tryz.underlying45) rfl (R2 xf2 rfl rfl (R1 x4 rfl ?_)))))))
   refine RGcaseD (t := 61) rfl (fun h38 => ?_) (fun h38 => ?_)
   ·
    refine RGon (decide_eq_true h38) rfl (x9 fo47_1 rfl) rfl ⟨rfl, trivial⟩ trivial trivial (xd2 (decide_eq_true h38) rfl rfl (0) ti45 rfl rfl rfl (At.g 1 rfl rfl) rfl (RGon (decide_eq_true h38) rfl (xb6 sl45 (0) (by omega) (gN (by omega))) rfl ⟨rfl, rfl, trivial⟩ trivial trivial (RGon (decide_eq_true h38) rfl (xb8 ti166) rfl ⟨rfl, trivial⟩ trivial trivial (RGon (decide_eq_true h38) rfl (d_remP (by omega) (by omega)) rfl ⟨rfl, rfl, trivial⟩ trivial trivial (RGon (decide_eq_true h38) rfl d_eql rfl ⟨rfl, rfl, trivial⟩ trivial trivial (R2 (xb2 (decide_eq_true h38)) rfl rfl (RE (xa7 (0) ti47 rfl rfl) ⟨rfl, trivial⟩ ⟨rfl, trivial⟩ trivial ?_)))))))
    refine RE (xa7 (0) ti47 rfl rfl) ⟨rfl, trivial⟩ ⟨rfl, trivial⟩ trivial (R2 (xa0 (c_fplus ((a.num * (u.den : Int)) % ((a.den : Int) * u.num)) ((a.num * (u.den : Int)) % ((a.den : Int) * u.num)) (by omega) (by omega) (by omega)) fi122 rfl) rfl rfl (RE (xa7 (0) ti47 rfl rfl) ⟨rfl, trivial⟩ ⟨rfl, trivial⟩ trivial (R2 (xa0 (c_Cmp (((a.num * (u.den : Int)) % ((a.den : Int) * u.num)) + ((a.num * (u.den : Int)) % ((a.den : Int) * u.num))) ((a.den : Int) * u.num) (by omega) (by omega)) fi90 rfl) rfl rfl (R3 (xd9 (r := tS [⟨1, false, tB (fr a).n.neg⟩, ⟨1, false, tB (decide (((((wh ((a.num * (u.den : Int)) / ((a.den : Int) * u.num))).l.getD 0 0 : Nat) : Int) % 2) = 1))⟩, ⟨1, false, tI (cmpZ (((a.num * (u.den : Int)) % ((a.den : Int) * u.num)) + ((a.num * (u.den : Int)) % ((a.den : Int) * u.num))) ((a.den : Int) * u.num))⟩]) (ts := [(0, tB (fr a).n.neg), (1, tB (decide (((((wh ((a.num * (u.den : Int)) / ((a.den : Int) * u.num))).l.getD 0 0 : Nat) : Int) % 2) = 1))), (2, tI (cmpZ (((a.num * (u.den : Int)) % ((a.den : Int) * u.num)) + ((a.num * (u.den : Int)) % ((a.den : Int) * u.num))) ((a.den : Int) * u.num)))]) bu205 zr205.2 ⟨_, rfl⟩ rfl ⟨_, _, _, _, rfl, Up.f (fs := [⟨1, false, (tE (.bool false))⟩, ⟨1, false, (tE (.bool false))⟩, ⟨1, false, (tE (.int .i64 0))⟩]) (f := ⟨1, false, (tE (.bool false))⟩) (fs' := [⟨1, false, tB (fr a).n.neg⟩, ⟨1, false, (tE (.bool false))⟩, ⟨1, false, (tE (.int .i64 0))⟩]) 0 rfl rfl rfl, inferInstance, ⟨_, _, _, _, rfl, Up.f (fs := [⟨1, false, tB (fr a).n.neg⟩, ⟨1, false, (tE (.bool false))⟩, ⟨1, false, (tE (.int .i64 0))⟩]) (f := ⟨1, false, (tE (.bool false))⟩) (fs' := [⟨1, false, tB (fr a).n.neg⟩, ⟨1, false, tB (decide (((((wh ((a.num * (u.den : Int)) / ((a.den : Int) * u.num))).l.getD 0 0 : Nat) : Int) % 2) = 1))⟩, ⟨1, false, (tE (.int .i64 0))⟩]) 1 rfl rfl rfl, inferInstance, ⟨_, _, _, _, rfl, Up.f (fs := [⟨1, false, tB (fr a).n.neg⟩, ⟨1, false, tB (decide (((((wh ((a.num * (u.den : Int)) / ((a.den : Int) * u.num))).l.getD 0 0 : Nat) : Int) % 2) = 1))⟩, ⟨1, false, (tE (.int .i64 0))⟩]) (f := ⟨1, false, (tE (.int .i64 0))⟩) (fs' := [⟨1, false, tB (fr a).n.neg⟩, ⟨1, false, tB (decide (((((wh ((a.num * (u.den : Int)) / ((a.den : Int) * u.num))).l.getD 0 0 : Nat) : Int) % 2) = 1))⟩, ⟨1, false, tI (cmpZ (((a.num * (u.den : Int)) % ((a.den : Int) * u.num)) + ((a.num * (u.den : Int)) % ((a.den : Int) * u.num))) ((a.den : Int) * u.num))⟩]) 2 rfl rfl rfl, inferInstance, Le.refl⟩⟩⟩) rfl rfl rfl (RE (xc4 (k := 11) (n := 3) (agg := true) zr205.1 zr205.2 rfl) trivial trivial ⟨rfl, trivial⟩ (RE (xa6 (es := 3) (agg := true) (0) ti205 rfl rfl rfl) ⟨rfl, rfl, trivial⟩ ⟨rfl, trivial⟩ trivial (xd1 (by kernel_rfl) ?_)))))))
    refine x3 (x6 ?_)
    refine xc9 mixed ?_
    refine R0 (xa0 c_upwards fi180 rfl)  (R1 x4 rfl (R2 (xe4 (r := 2) (by decide)) rfl rfl (R2 (d_idxA 2 Tryz.underlying207 ti206 rfl (by decide) rfl) rfl rfl (RE (xa7 (0) ti205 rfl rfl) ⟨rfl, trivial⟩ ⟨rfl, trivial⟩ trivial (R2 (d_callF (c_up3 _ _ _) fi209 rfl) rfl rfl (xd1 (by kernel_rfl) (x3 ?_)))))))
    refine C_bF rfl rfl (xa5 ?_)
    exact xc6 (()) trivial (Sub.cons rfl (Sub.cons rfl (Sub.cons rfl (Sub.cons rfl Sub.nil)))) ((SubK.consI rfl ImpK.refl) ((SubK.consI rfl ImpK.refl) ((SubK.consI rfl ImpK.refl) ((SubK.consI rfl ImpK.refl) SubK.nil)))) (SupG.own rfl (SupG.own rfl (SupG.own rfl (SupG.own rfl SupG.nil)))) (SupH.cons rfl (supJL rfl) (SupH.cons rfl (supJL rfl) (SupH.cons rfl (supJL rfl) (SupH.cons rfl (supJL rfl) SupH.nil)))) (lkOk rfl)
   ·
    refine RGoff (decide_eq_false h38) rfl rfl (RGoff (decide_eq_false h38) rfl rfl (RGoff (decide_eq_false h38) rfl rfl (RGoff (decide_eq_false h38) rfl rfl (RGoff (decide_eq_false h38) rfl rfl (RGoff (decide_eq_false h38) rfl rfl (R2 (xc0 (decide_eq_false h38)) rfl rfl (RE (xa7 (0) ti47 rfl rfl) ⟨rfl, trivial⟩ ⟨rfl, trivial⟩ trivial ?_)))))))
    refine RE (xa7 (0) ti47 rfl rfl) ⟨rfl, trivial⟩ ⟨rfl, trivial⟩ trivial (R2 (xa0 (c_fplus ((a.num * (u.den : Int)) % ((a.den : Int) * u.num)) ((a.num * (u.den : Int)) % ((a.den : Int) * u.num)) (by omega) (by omega) (by omega)) fi122 rfl) rfl rfl (RE (xa7 (0) ti47 rfl rfl) ⟨rfl, trivial⟩ ⟨rfl, trivial⟩ trivial (R2 (xa0 (c_Cmp (((a.num * (u.den : Int)) % ((a.den : Int) * u.num)) + ((a.num * (u.den : Int)) % ((a.den : Int) * u.num))) ((a.den : Int) * u.num) (by omega) (by omega)) fi90 rfl) rfl rfl (R3 (xd9 (r := tS [⟨1, false, tB (fr a).n.neg⟩, ⟨1, false, tB false⟩, ⟨1, false, tI (cmpZ (((a.num * (u.den : Int)) % ((a.den : Int) * u.num)) + ((a.num * (u.den : Int)) % ((a.den : Int) * u.num))) ((a.den : Int) * u.num))⟩]) (ts := [(0, tB (fr a).n.neg), (1, tB false), (2, tI (cmpZ (((a.num * (u.den : Int)) % ((a.den : Int) * u.num)) + ((a.num * (u.den : Int)) % ((a.den : Int) * u.num))) ((a.den : Int) * u.num)))]) bu205 zr205.2 ⟨_, rfl⟩ rfl ⟨_, _, _, _, rfl, Up.f (fs := [⟨1, false, (tE (.bool false))⟩, ⟨1, false, (tE (.bool false))⟩, ⟨1, false, (tE (.int .i64 0))⟩]) (f := ⟨1, false, (tE (.bool false))⟩) (fs' := [⟨1, false, tB (fr a).n.neg⟩, ⟨1, false, (tE (.bool false))⟩, ⟨1, false, (tE (.int .i64 0))⟩]) 0 rfl rfl rfl, inferInstance, ⟨_, _, _, _, rfl, Up.f (fs := [⟨1, false, tB (fr a).n.neg⟩, ⟨1, false, (tE (.bool false))⟩, ⟨1, false, (tE (.int .i64 0))⟩]) (f := ⟨1, false, (tE (.bool false))⟩) (fs' := [⟨1, false, tB (fr a).n.neg⟩, ⟨1, false, tB false⟩, ⟨1, false, (tE (.int .i64 0))⟩]) 1 rfl rfl rfl, inferInstance, ⟨_, _, _, _, rfl, Up.f (fs := [⟨1, false, tB (fr a).n.neg⟩, ⟨1, false, tB false⟩, ⟨1, false, (tE (.int .i64 0))⟩]) (f := ⟨1, false, (tE (.int .i64 0))⟩) (fs' := [⟨1, false, tB (fr a).n.neg⟩, ⟨1, false, tB false⟩, ⟨1, false, tI (cmpZ (((a.num * (u.den : Int)) % ((a.den : Int) * u.num)) + ((a.num * (u.den : Int)) % ((a.den : Int) * u.num))) ((a.den : Int) * u.num))⟩]) 2 rfl rfl rfl, inferInstance, Le.refl⟩⟩⟩) rfl rfl rfl (RE (xc4 (k := 11) (n := 3) (agg := true) zr205.1 zr205.2 rfl) trivial trivial ⟨rfl, trivial⟩ (RE (xa6 (es := 3) (agg := true) (0) ti205 rfl rfl rfl) ⟨rfl, rfl, trivial⟩ ⟨rfl, trivial⟩ trivial (xd1 (by kernel_rfl) ?_)))))))
    refine x3 (x6 ?_)
    refine xc9 mixed ?_
    refine R0 (xa0 c_upwards fi180 rfl)  (R1 x4 rfl (R2 (xe4 (r := 2) (by decide)) rfl rfl (R2 (d_idxA 2 Tryz.underlying207 ti206 rfl (by decide) rfl) rfl rfl (RE (xa7 (0) ti205 rfl rfl) ⟨rfl, trivial⟩ ⟨rfl, trivial⟩ trivial (R2 (d_callF (c_up3 _ _ _) fi209 rfl) rfl rfl (xd1 (by kernel_rfl) (x3 ?_)))))))
    refine C_bF rfl rfl (xa5 ?_)
    exact xc6 (()) trivial (Sub.cons rfl (Sub.cons rfl (Sub.cons rfl (Sub.cons rfl Sub.nil)))) ((SubK.consI rfl ImpK.refl) ((SubK.consI rfl ImpK.refl) ((SubK.consI rfl ImpK.refl) ((SubK.consI rfl ImpK.refl) SubK.nil)))) (SupG.own rfl (SupG.own rfl (SupG.own rfl (SupG.own rfl SupG.nil)))) (SupH.cons rfl (supJL rfl) (SupH.cons rfl (supJL rfl) (SupH.cons rfl (supJL rfl) (SupH.cons rfl (supJL rfl) SupH.nil)))) (lkOk rfl)
  ·
   refine xa5 ?_
   exact xc6 (()) trivial (Sub.cons rfl (Sub.cons rfl (Sub.cons rfl (Sub.cons rfl Sub.nil)))) ((SubK.consI rfl ImpK.refl) ((SubK.consI rfl ImpK.refl) ((SubK.consI rfl ImpK.refl) ((SubK.consI rfl ImpK.refl) SubK.nil)))) (SupG.own rfl (SupG.own rfl (SupG.own rfl (SupG.own rfl SupG.nil)))) (SupH.cons rfl (supJL rfl) (SupH.cons rfl (supJL rfl) (SupH.cons rfl (supJL rfl) (SupH.cons rfl (supJL rfl) SupH.nil)))) (lkOk rfl)
 ·
  intro _j hj
  refine x6 ?_
  refine xc9 mixed ?_
  refine RE (xa7 (0) ti47 rfl rfl) ⟨rfl, trivial⟩ ⟨rfl, trivial⟩ trivial (R1 (x9 fo49_0 rfl) rfl (xa4 (0) ti47 rfl rfl rfl (At.g 0 rfl rfl) rfl (R2 (xa0 (c_ftimes ((a.num * (u.den : Int)) / ((a.den : Int) * u.num)) u.num (by omega) (by omega) (by omega)) fi120 rfl) rfl rfl (R1 (x9 fo49_1 rfl) rfl (xa4 (0) ti47 rfl rfl rfl (At.g 1 rfl rfl) rfl (R2 (xa0 (c_lowest _ _ (by omega) (by omega) (by omega)) fi119 rfl) rfl rfl (R1 (xa0 (c_Tresult _) fi121 rfl) rfl ?_)))))))
  refine R1 (xa8 rfl) rfl (R1 (xa8 rfl) rfl (RE (xa6 (es := 4) (agg := true) (0) ti49 rfl rfl rfl) ⟨rfl, rfl, trivial⟩ ⟨rfl, trivial⟩ trivial (R1 x5 rfl (xd1 (by kernel_rfl) (x3 (xa2 ?_))))))
  exact xf1 Plain.mk' (rs := [.cell 6 49, .tmp 7]) rfl rfl ⟨⟨_, _, _, _, _, rfl, rfl, ti49, (Le.of (by rw [sh_fr, rnd_divInt]; by_cases hs : short (((((a.num * (u.den : Int)) / ((a.den : Int) * u.num)) : Int) : Rat) * u) <;> simp [resF, hs]))⟩, ⟨_, rfl, (Le.int (by rw [sh_fr, rnd_divInt]; by_cases hs : short (((((a.num * (u.den : Int)) / ((a.den : Int) * u.num)) : Int) : Rat) * u) <;> simp [resFE, hs]))⟩, trivial⟩
end An.S

/- Layer 24: deals and states. Plain data. -/
namespace An
open Go
structure Deal where
  lo : Int
  hi : Int
  share : Fr
  acc : Int
def deal0 : Deal := ⟨0, 0, fr0, 0⟩
abbrev tDeal (d : Deal) : Ty := tS [⟨1, false, tI d.lo⟩, ⟨1, false, tI d.hi⟩, ⟨4, true, tFr d.share⟩, ⟨1, false, tI d.acc⟩]
abbrev tState (o : Int) (b p : List Int) : Ty := tS [⟨1, false, tI o⟩, ⟨1, false, tIs b⟩, ⟨1, false, tIs p⟩]
/-- The limbs are limbs. -/
def Fr.dig (f : Fr) : Prop := Dig 65536 f.n.l ∧ Dig 65536 f.d.l
def Fr.rat (f : Fr) : Rat := Rat.divInt f.n.int f.d.int
theorem rat_fr (q : Rat) : (fr q).rat = q := by
  have e1 : (fr q).n.int = q.num := int_wh _
  have e2 : (fr q).d.int = (q.den : Int) := int_wh _
  rw [Fr.rat, e1, e2, Rat.divInt_ofNat, Rat.mkRat_self]
theorem Fr.of_valid' {f : Fr} (hD : f.dig) (h : f.valid = true) : f = fr f.rat ∧ short f.rat := by
  obtain ⟨q, hq, hs⟩ := Fr.of_valid hD.1 hD.2 h
  subst hq
  rw [rat_fr]; exact ⟨rfl, hs⟩
def Deal.valid (d : Deal) : Bool := decide (0 ≤ d.lo) && decide (d.lo ≤ d.hi) && decide (d.hi ≤ 1048576) && d.share.valid && !d.share.n.neg && decide (d.share.rat ≤ 1) && decide (d.share.n.l.length ≤ 4) && decide (d.share.d.l.length ≤ 4) && decide (1 ≤ d.acc) && decide (d.acc ≤ 1099511627776)
theorem Deal.valid_iff {d : Deal} : d.valid = true ↔ 0 ≤ d.lo ∧ d.lo ≤ d.hi ∧ d.hi ≤ 1048576 ∧ d.share.valid = true ∧ d.share.n.neg = false ∧ d.share.rat ≤ 1 ∧ d.share.n.l.length ≤ 4 ∧ d.share.d.l.length ≤ 4 ∧ 1 ≤ d.acc ∧ d.acc ≤ 1099511627776 := by
  simp only [Deal.valid, Bool.and_eq_true, decide_eq_true_eq, Bool.not_eq_true', and_assoc]
def validL (l : List Deal) : Bool := decide (l.length ≤ 16) && l.all Deal.valid
def wIn (n : Int) : Bool := decide (-1099511627776 ≤ n) && decide (n ≤ 1099511627776)
theorem xe8 {n : Int} : wIn n = true ↔ -1099511627776 ≤ n ∧ n ≤ 1099511627776 := by simp [wIn]
/-- A share of a sum, rounded down. -/
def take (q : Rat) (n : Int) : Int := (q * (n : Rat)).floor
theorem floor_parts (q : Rat) : (q.num * ((1 : Rat).den : Int)) / ((q.den : Int) * (1 : Rat).num) = q.floor := by
  rw [Rat.floor_def]; simp
theorem short_int {n : Int} (h : len16 n ≤ 256) : short (n : Rat) := by
  refine ⟨by rw [Rat.num_intCast]; exact h, ?_⟩
  rw [Rat.den_intCast]
  show (wh 1).l.length ≤ 256
  rw [wh_one]; decide
theorem mul_parts (a b : Rat) : (a * b).num = a.num * b.num / ((Int.gcd (a.num * b.num) ((a.den : Int) * (b.den : Int)) : Nat) : Int) ∧ ((a * b).den : Int) = (a.den : Int) * (b.den : Int) / ((Int.gcd (a.num * b.num) ((a.den : Int) * (b.den : Int)) : Nat) : Int) := by
  have h := lowest_eq (n := a.num * b.num) (d := (a.den : Int) * (b.den : Int)) (Int.mul_pos (by have := a.den_nz; omega) (by have := b.den_nz; omega))
  have e : Rat.divInt (a.num * b.num) ((a.den : Int) * (b.den : Int)) = a * b := by
    rw [Rat.mul_def, ← Int.natCast_mul, Rat.divInt_ofNat, Rat.normalize_eq_mkRat]
  rw [e, fr] at h
  injection h with h1 h2
  exact ⟨wh_inj h1, wh_inj h2⟩
theorem len_mul_parts {a b : Rat} {k l m n : Nat} (ha : len16 a.num ≤ k) (hb : len16 b.num ≤ l) (ha2 : len16 a.den ≤ m) (hb2 : len16 b.den ≤ n) : len16 (a * b).num ≤ k + l ∧ len16 ((a * b).den : Int) ≤ m + n := by
  obtain ⟨h1, h2⟩ := mul_parts a b
  exact ⟨h1 ▸ len16_div (len16_mul ha hb), h2 ▸ len16_div (len16_mul ha2 hb2)⟩
theorem len16_64 {n : Int} (h1 : -9223372036854775808 ≤ n) (h2 : n ≤ 9223372036854775807) : len16 n ≤ 4 := wh_len _ (by omega)
theorem take_bd {q : Rat} {n : Int} (h0 : 0 ≤ q) (h1 : q ≤ 1) : (0 ≤ n → 0 ≤ take q n ∧ take q n ≤ n) ∧ (n ≤ 0 → n ≤ take q n ∧ take q n ≤ 0) := by
  have key : ∀ (x : Rat) (m : Int), (m : Rat) ≤ x → m ≤ x.floor := fun x m h => by
    rcases Int.lt_or_le x.floor m with h' | h'
    · exact absurd h (Rat.not_le.2 (Rat.floor_lt_iff.1 h'))
    · exact h'
  have key2 : ∀ (x : Rat) (m : Int), x ≤ (m : Rat) → x.floor ≤ m := fun x m h => by
    have := Rat.floor_monotone h
    rwa [Rat.floor_intCast] at this
  refine ⟨fun hn => ?_, fun hn => ?_⟩
  · have hn' : (0 : Rat) ≤ (n : Rat) := by exact_mod_cast hn
    refine ⟨key _ _ ?_, key2 _ _ ?_⟩
    · simpa using Rat.mul_nonneg h0 hn'
    · have := Rat.mul_le_mul_of_nonneg_right h1 hn'
      simpa using this
  · have hn' : (0 : Rat) ≤ ((-n : Int) : Rat) := by exact_mod_cast (show 0 ≤ -n by omega)
    have e : ((-n : Int) : Rat) = -(n : Rat) := by simp
    rw [e] at hn'
    refine ⟨key _ _ ?_, key2 _ _ ?_⟩
    · have := Rat.mul_le_mul_of_nonneg_right h1 hn'
      grind
    · have := Rat.mul_nonneg h0 hn'
      simp
      grind
def rightL (l : List Deal) (o : Int) (b p : List Int) : Bool :=
  validL l && decide (b.length = l.length) && decide (p.length = l.length) && wIn o && (List.range l.length).all fun i => wIn (b.getD i 0) && decide (p.getD i 0 = take (l.getD i deal0).share.rat (b.getD i 0))
end An

/- Package split: what is valid. -/
namespace An.S
open Go Go.Proofs An
set_option maxHeartbeats 2000000
theorem ti56 : TyI Tryz.prog 56 7 true := ⟨by kernel_rfl, by kernel_rfl⟩
theorem sl22 : SlI Tryz.prog 22 56 7 true := ⟨Tryz.underlying22, ti56⟩
theorem fo56_0 : fieldO Tryz.prog 56 0 = some 0 := by kernel_rfl
theorem fo56_1 : fieldO Tryz.prog 56 1 = some 1 := by kernel_rfl
theorem fo56_2 : fieldO Tryz.prog 56 2 = some 2 := by kernel_rfl
theorem fo56_3 : fieldO Tryz.prog 56 3 = some 6 := by kernel_rfl
theorem fi71 : FnI Tryz.prog 71 := ⟨_, Tryz.func71, by kernel_rfl, rfl⟩
theorem fi73 : FnI Tryz.prog 73 := ⟨_, Tryz.func73, by kernel_rfl, rfl⟩
theorem fi79 : FnI Tryz.prog 79 := ⟨_, Tryz.func79, by kernel_rfl, rfl⟩
theorem fi132 : FnI Tryz.prog 132 := ⟨_, Tryz.func132, by kernel_rfl, rfl⟩
theorem fi133 : FnI Tryz.prog 133 := ⟨_, Tryz.func133, by kernel_rfl, rfl⟩
theorem zr56 : (Tryz.prog.info? 56).bind (·.zero) = some (.agg #[.int .i64 0, .int .i64 0, .bool false, .slice none 0 0, .bool false, .slice none 0 0, .int .i64 0]) ∧ ∀ F w, (tS [⟨1, false, (tE (.int .i64 0))⟩, ⟨1, false, (tE (.int .i64 0))⟩, ⟨4, true, (tS [⟨2, true, (tS [⟨1, false, (tE (.bool false))⟩, ⟨1, false, (tLm [])⟩])⟩, ⟨2, true, (tS [⟨1, false, (tE (.bool false))⟩, ⟨1, false, (tLm [])⟩])⟩])⟩, ⟨1, false, (tE (.int .i64 0))⟩]).p F w (.agg #[.int .i64 0, .int .i64 0, .bool false, .slice none 0 0, .bool false, .slice none 0 0, .int .i64 0]) := ⟨by kernel_rfl, fun _ _ => ⟨_, rfl, rfl, ⟨fun _ => rfl, rfl⟩, ⟨fun _ => rfl, rfl⟩, ⟨fun h => Bool.noConfusion h, ⟨_, rfl, rfl, ⟨fun h => Bool.noConfusion h, ⟨_, rfl, rfl, ⟨fun _ => rfl, rfl⟩, ⟨fun _ => rfl, ⟨none, 0, rfl, Nat.le_refl _, by decide, .inl rfl⟩⟩, trivial⟩⟩, ⟨fun h => Bool.noConfusion h, ⟨_, rfl, rfl, ⟨fun _ => rfl, rfl⟩, ⟨fun _ => rfl, ⟨none, 0, rfl, Nat.le_refl _, by decide, .inl rfl⟩⟩, trivial⟩⟩, trivial⟩⟩, ⟨fun _ => rfl, rfl⟩, trivial⟩⟩
theorem c_FCmpV (f g : Fr) (hf : f.dig) (hg : g.dig) (vf : f.valid = true) (vg : g.valid = true) : Ct Tryz.prog 79 [tFr f, tFr g] (tI (cmpQ f.rat g.rat)) := by
  obtain ⟨e1, s1⟩ := Fr.of_valid' hf vf
  obtain ⟨e2, s2⟩ := Fr.of_valid' hg vg
  have h := c_FCmp f.rat g.rat s1 s2
  rw [← e1, ← e2] at h; exact h
theorem short_one : short (1 : Rat) := short_int (n := 1) (by show (wh 1).l.length ≤ 256; rw [wh_one]; decide)
theorem c_FCmp1 (f : Fr) (hf : f.dig) (vf : f.valid = true) : Ct Tryz.prog 79 [tFr f, tFr (fr ((1 : Int) : Rat))] (tI (cmpQ f.rat 1)) := by
  have h := c_FCmpV f (fr ((1 : Int) : Rat)) hf ⟨xe6 xb0 _, xe6 xb0 _⟩ vf (valid_fr short_one)
  rw [rat_fr] at h; exact h
theorem cmpQ_pos {a b : Rat} : 0 < cmpQ a b ↔ ¬ a ≤ b := by
  simp only [cmpQ]
  split
  · rename_i h; simp [Rat.le_of_lt h]
  · rename_i h
    split
    · rename_i h2; subst h2; simp
    · rename_i h2
      simp only [Int.zero_lt_one, true_iff]
      intro h3
      rcases Rat.le_iff_lt_or_eq.1 h3 with h4 | h4
      · exact h h4
      · exact h2 h4
theorem c_within (n : Int) :
  Ct Tryz.prog 31 [tI n] (tB (wIn n)) := by
 refine Ct.intro Tryz.func31 rfl Tryz.ntmps31 rfl ?_
 intro w F
 refine x6 ?_
 refine x8 ?_
 refine R1 x5 rfl (x7 (by kernel_rfl) (x3 (x6 ?_)))
 refine x8 ?_
 refine R1 x4 rfl (R2 d_leq rfl rfl (R1 x4 rfl ?_))
 refine RGcaseD (t := 5) rfl (fun h67 => ?_) (fun h67 => ?_)
 ·
  refine RGon (decide_eq_true h67) rfl x4 rfl ⟨rfl, trivial⟩ trivial trivial (RGon (decide_eq_true h67) rfl d_leq rfl ⟨rfl, rfl, trivial⟩ trivial trivial (R2 (xb2 (decide_eq_true h67)) rfl rfl (R1 x5 rfl (x7 (by kernel_rfl) (x3 (xa2 ?_))))))
  exact xa9 Plain.mk' rfl rfl (Le.bool (by simp [wIn, *]))
 ·
  refine RGoff (decide_eq_false h67) rfl rfl (RGoff (decide_eq_false h67) rfl rfl (R2 (xc0 (decide_eq_false h67)) rfl rfl (R1 x5 rfl (x7 (by kernel_rfl) (x3 (xa2 ?_))))))
  exact xa9 Plain.mk' rfl rfl (Le.bool (by simp [wIn, *]))
theorem c_SValid (l : List Deal) (hD : ∀ d ∈ l, d.share.dig) :
  Ct Tryz.prog 28 [tL 7 true tDeal l] (tB (validL l)) := by
 refine Ct.intro Tryz.func28 rfl Tryz.ntmps28 rfl ?_
 intro w F
 refine C_len (s := 0) rfl (fun hl0 => ?_)
 refine x6 ?_
 refine x8 ?_
 refine R1 x5 rfl (x7 (by kernel_rfl) (x3 (x6 (x6 ?_))))
 refine x8 ?_
 refine R1 x4 rfl (R1 (xb7 Tryz.underlying22) rfl (R2 xf2 rfl rfl (x7 (by kernel_rfl) (x3 ?_))))
 refine xc5 rfl (fun h45 => ?_) (fun h45 => ?_)
 ·
  refine x6 ?_
  refine x8 ?_
  refine R1 x5 rfl (x7 (by kernel_rfl) (x3 (xa2 (xa3 ?_))))
  exact xa9 Plain.mk' rfl rfl (Le.bool (by rw [validL, decide_eq_false (by omega), Bool.false_and]))
 ·
  refine xa5 (x3 (x6 (x6 ?_)))
  refine x8 ?_
  refine R1 x4 rfl (R1 (xb7 Tryz.underlying22) rfl (R1 x4 rfl (x7 (by kernel_rfl) (x3 (xb3 ?_)))))
  refine xe0 (fun (i : Nat) => i ≤ l.length ∧ (l.take i).all Deal.valid = true) (fun (i : Nat) => upd (upd (upd (fun _ => none) 8 (some (.val (tL 7 true tDeal l)))) 9 (some (.val (tI l.length)))) 10 (some (.val (tI i)))) (fun (i : Nat) => fun _ => none) (nm []) (fun (i : Nat) => l.length - i) (0) ⟨Nat.zero_le _, rfl⟩ (Sub.int rfl (by first | omega | rfl | (dsimp only; omega)) (Sub.int rfl (by first | omega | rfl | (dsimp only; omega)) (Sub.cons rfl Sub.nil))) SubK.nil (SupG.val (SupG.val (SupG.val SupG.nil))) SupH.nil (lkOk rfl) ?_
  intro i hI
  obtain ⟨hi, ha⟩ := hI
  refine x6 ?_
  refine x8 ?_
  refine R2 xd7 rfl rfl (x7 (by kernel_rfl) (x3 (x6 ?_)))
  refine xc5 rfl (fun h48 => ?_) (fun h48 => ?_)
  ·
   refine xa5 (x3 (x6 (xb3 (x6 ?_))))
   refine x8 ?_
   refine R2 (xb6 sl22 i (by omega) (gD (l := l) (n := i) (d := deal0) (by omega))) rfl rfl (R1 (xb8 ti56) rfl (RE (xc4 (k := 4) (n := 7) (agg := true) zr56.1 zr56.2 rfl) trivial trivial ⟨rfl, trivial⟩ (RE (xa6 (es := 7) (agg := true) (0) ti56 rfl rfl rfl) ⟨rfl, rfl, trivial⟩ ⟨rfl, trivial⟩ trivial (x7 (by kernel_rfl) (x3 (x6 (x6 ?_)))))))
   refine x8 ?_
   refine R1 (x9 fo56_0 rfl) rfl (xa4 (0) ti3 rfl rfl rfl (At.g 0 rfl rfl) rfl (R2 xd7 rfl rfl (R1 x4 rfl ?_)))
   refine RGcaseD (t := 17) rfl (fun h49 => ?_) (fun h49 => ?_)
   ·
    have hbad : (l.getD i deal0).valid = false := Bool.eq_false_iff.2 fun h => by have hv := Deal.valid_iff.1 h; omega
    refine RGoff (decide_eq_true h49) rfl rfl (RGoff (decide_eq_true h49) rfl rfl (RGoff (decide_eq_true h49) rfl rfl (RGoff (decide_eq_true h49) rfl rfl (RGoff (decide_eq_true h49) rfl rfl (R2 (xb2 (decide_eq_true h49)) rfl rfl (R1 x4 rfl (RGoff1 rfl rfl ?_)))))))
    refine RGoff1 rfl rfl (RGoff1 rfl rfl (R2 (xb2 rfl) rfl rfl (x7 (by kernel_rfl) (x3 (C_bT rfl rfl (x6 ?_))))))
    refine x8 ?_
    refine R1 x5 rfl (x7 (by kernel_rfl) (x3 (xa2 (xa3 (xc7 (xa3 (xa3 ?_)))))))
    refine xc7 (xa3 ?_)
    exact xa9 Plain.mk' rfl rfl (Le.bool (by rw [validL, xg0 (l := l) (i := i) (d := deal0) (by omega) hbad, Bool.and_false]))
   ·
    refine RGon (decide_eq_false h49) rfl (x9 fo56_1 rfl) rfl ⟨rfl, trivial⟩ trivial trivial (xd2 (decide_eq_false h49) rfl rfl (0) ti3 rfl rfl rfl (At.g 1 rfl rfl) rfl (RGon (decide_eq_false h49) rfl (x9 fo56_0 rfl) rfl ⟨rfl, trivial⟩ trivial trivial (xd2 (decide_eq_false h49) rfl rfl (0) ti3 rfl rfl rfl (At.g 0 rfl rfl) rfl (RGon (decide_eq_false h49) rfl xd7 rfl ⟨rfl, rfl, trivial⟩ trivial trivial (R2 (xc0 (decide_eq_false h49)) rfl rfl (R1 x4 rfl ?_))))))
    refine RGcaseD (t := 24) rfl (fun h49_2 => ?_) (fun h49_2 => ?_)
    ·
     have hbad : (l.getD i deal0).valid = false := Bool.eq_false_iff.2 fun h => by have hv := Deal.valid_iff.1 h; omega
     refine RGoff (decide_eq_true h49_2) rfl rfl (RGoff (decide_eq_true h49_2) rfl rfl (RGoff (decide_eq_true h49_2) rfl rfl (R2 (xb2 (decide_eq_true h49_2)) rfl rfl (x7 (by kernel_rfl) (x3 (C_bT rfl rfl (x6 ?_)))))))
     refine x8 ?_
     refine R1 x5 rfl (x7 (by kernel_rfl) (x3 (xa2 (xa3 (xc7 (xa3 (xa3 ?_)))))))
     refine xc7 (xa3 ?_)
     exact xa9 Plain.mk' rfl rfl (Le.bool (by rw [validL, xg0 (l := l) (i := i) (d := deal0) (by omega) hbad, Bool.and_false]))
    ·
     refine RGon (decide_eq_false h49_2) rfl (x9 fo56_1 rfl) rfl ⟨rfl, trivial⟩ trivial trivial (xd2 (decide_eq_false h49_2) rfl rfl (0) ti3 rfl rfl rfl (At.g 1 rfl rfl) rfl (RGon (decide_eq_false h49_2) rfl xf2 rfl ⟨rfl, rfl, trivial⟩ trivial trivial (R2 (xc0 (decide_eq_false h49_2)) rfl rfl (x7 (by kernel_rfl) (x3 ?_)))))
     refine xc5 rfl (fun h49_3 => ?_) (fun h49_3 => ?_)
     ·
      have hbad : (l.getD i deal0).valid = false := Bool.eq_false_iff.2 fun h => by have hv := Deal.valid_iff.1 h; omega
      refine x6 ?_
      refine x8 ?_
      refine R1 x5 rfl (x7 (by kernel_rfl) (x3 (xa2 (xa3 (xc7 (xa3 (xa3 ?_)))))))
      refine xc7 (xa3 ?_)
      exact xa9 Plain.mk' rfl rfl (Le.bool (by rw [validL, xg0 (l := l) (i := i) (d := deal0) (by omega) hbad, Bool.and_false]))
     ·
      refine xa5 (x3 (x6 (x6 ?_)))
      refine xc9 mixed ?_
      refine R1 (x9 fo56_2 rfl) rfl (xa4 (0) ti49 rfl rfl rfl (At.g 2 rfl rfl) rfl ?_)
      have hdg := hD _ (getD_mem (l := l) (i := i) (d := deal0) (by omega))
      refine R1 (xa0 (c_FValid _ hdg.1 hdg.2) fi78 rfl) rfl (R1 xe2 rfl (R1 x4 rfl ?_))
      refine RGcase (t := 33) rfl (fun h52 => ?_) (fun h52 => ?_)
      ·
       have hv : (l.getD i deal0).share.valid = false := by simpa using h52
       have hbad : (l.getD i deal0).valid = false := Bool.eq_false_iff.2 fun h => by have hv := Deal.valid_iff.1 h; have h4 := hv.2.2.2.1; simp_all
       refine RGoff h52 rfl rfl (RGoff h52 rfl rfl (RGoff h52 rfl rfl (RGoff h52 rfl rfl (R2 (xb2 h52) rfl rfl (R1 x4 rfl (RGoff1 rfl rfl (RGoff1 rfl rfl ?_)))))))
       refine RGoff1 rfl rfl (RGoff1 rfl rfl (RGoff1 rfl rfl (R2 (xb2 rfl) rfl rfl (xd1 (by kernel_rfl) (x3 (C_bT rfl rfl (x6 ?_)))))))
       refine x8 ?_
       refine R1 x5 rfl (x7 (by kernel_rfl) (x3 (xa2 (xa3 (xc7 (xa3 (xa3 ?_)))))))
       refine xc7 (xa3 ?_)
       exact xa9 Plain.mk' rfl rfl (Le.bool (by rw [validL, xg0 (l := l) (i := i) (d := deal0) (by omega) hbad, Bool.and_false]))
      ·
       have hv : (l.getD i deal0).share.valid = true := by simpa using h52
       refine RGon h52 rfl (x9 fo56_2 rfl) rfl ⟨rfl, trivial⟩ trivial trivial (RGon h52 rfl (x9 fo49_0 rfl) rfl ⟨rfl, trivial⟩ trivial trivial (RGon h52 rfl (x9 fo47_0 rfl) rfl ⟨rfl, trivial⟩ trivial trivial (xd2 h52 rfl rfl (0) ti4 rfl rfl rfl (At.t (At.g 2 rfl rfl) (At.t (At.g 0 rfl rfl) (At.g 0 rfl rfl))) rfl (R2 (xc0 h52) rfl rfl (R1 x4 rfl ?_)))))
       refine RGcase (t := 39) rfl (fun h52_2 => ?_) (fun h52_2 => ?_)
       ·
        have hbad : (l.getD i deal0).valid = false := Bool.eq_false_iff.2 fun h => by have hv := Deal.valid_iff.1 h; have h4 := hv.2.2.2.2.1; simp_all
        refine RGoff h52_2 rfl rfl (RGoff h52_2 rfl rfl (RGoff h52_2 rfl rfl (RGoff h52_2 rfl rfl (RGoff h52_2 rfl rfl (R2 (xb2 h52_2) rfl rfl (xd1 (by kernel_rfl) (x3 ?_)))))))
        refine C_bT rfl rfl (x6 ?_)
        refine x8 ?_
        refine R1 x5 rfl (x7 (by kernel_rfl) (x3 (xa2 (xa3 (xc7 (xa3 (xa3 ?_)))))))
        refine xc7 (xa3 ?_)
        exact xa9 Plain.mk' rfl rfl (Le.bool (by rw [validL, xg0 (l := l) (i := i) (d := deal0) (by omega) hbad, Bool.and_false]))
       ·
        have hng : (l.getD i deal0).share.n.neg = false := h52_2
        refine RGon h52_2 rfl (x9 fo56_2 rfl) rfl ⟨rfl, trivial⟩ trivial trivial (xd2 h52_2 rfl rfl (0) ti49 rfl rfl rfl (At.g 2 rfl rfl) rfl (RGon h52_2 rfl (xa0 (c_FFromInt 1 (by decide) (by decide)) fi71 rfl) rfl ⟨rfl, trivial⟩ trivial trivial (RGon h52_2 rfl (xa0 (c_FCmp1 _ hdg hv) fi79 rfl) rfl ⟨rfl, rfl, trivial⟩ trivial trivial (RGon h52_2 rfl xf2 rfl ⟨rfl, rfl, trivial⟩ trivial trivial (R2 (xc0 h52_2) rfl rfl (xd1 (by kernel_rfl) (x3 ?_)))))))
        refine xc5 rfl (fun h52_3 => ?_) (fun h52_3 => ?_)
        ·
         have hgt := cmpQ_pos.1 h52_3
         have hbad : (l.getD i deal0).valid = false := Bool.eq_false_iff.2 fun h => by have hv := Deal.valid_iff.1 h; exact hgt hv.2.2.2.2.2.1
         refine x6 ?_
         refine x8 ?_
         refine R1 x5 rfl (x7 (by kernel_rfl) (x3 (xa2 (xa3 (xc7 (xa3 (xa3 ?_)))))))
         refine xc7 (xa3 ?_)
         exact xa9 Plain.mk' rfl rfl (Le.bool (by rw [validL, xg0 (l := l) (i := i) (d := deal0) (by omega) hbad, Bool.and_false]))
        ·
         have hle : (l.getD i deal0).share.rat ≤ 1 := Classical.byContradiction fun h => h52_3 (cmpQ_pos.2 h)
         refine xa5 (x3 (x6 (x6 ?_)))
         refine x8 ?_
         refine R1 (x9 fo56_2 rfl) rfl (R1 (x9 fo49_0 rfl) rfl (R1 (x9 fo47_1 rfl) rfl (xa4 (0) ti45 rfl rfl rfl (At.t (At.g 2 rfl rfl) (At.t (At.g 0 rfl rfl) (At.g 1 rfl rfl))) rfl (R1 (xb7 Tryz.underlying45) rfl (R2 xf2 rfl rfl (R1 x4 rfl ?_))))))
         refine RGcaseD (t := 52) rfl (fun h55 => ?_) (fun h55 => ?_)
         ·
          have hbad : (l.getD i deal0).valid = false := Bool.eq_false_iff.2 fun h => by have hv := Deal.valid_iff.1 h; omega
          refine RGoff (decide_eq_true h55) rfl rfl (RGoff (decide_eq_true h55) rfl rfl (RGoff (decide_eq_true h55) rfl rfl (RGoff (decide_eq_true h55) rfl rfl (RGoff (decide_eq_true h55) rfl rfl (RGoff (decide_eq_true h55) rfl rfl (R2 (xb2 (decide_eq_true h55)) rfl rfl (x7 (by kernel_rfl) ?_)))))))
          refine x3 (C_bT rfl rfl (x6 ?_))
          refine x8 ?_
          refine R1 x5 rfl (x7 (by kernel_rfl) (x3 (xa2 (xa3 (xc7 (xa3 (xa3 ?_)))))))
          refine xc7 (xa3 ?_)
          exact xa9 Plain.mk' rfl rfl (Le.bool (by rw [validL, xg0 (l := l) (i := i) (d := deal0) (by omega) hbad, Bool.and_false]))
         ·
          refine RGon (decide_eq_false h55) rfl (x9 fo56_2 rfl) rfl ⟨rfl, trivial⟩ trivial trivial (RGon (decide_eq_false h55) rfl (x9 fo49_1 rfl) rfl ⟨rfl, trivial⟩ trivial trivial (RGon (decide_eq_false h55) rfl (x9 fo47_1 rfl) rfl ⟨rfl, trivial⟩ trivial trivial (xd2 (decide_eq_false h55) rfl rfl (0) ti45 rfl rfl rfl (At.t (At.g 2 rfl rfl) (At.t (At.g 1 rfl rfl) (At.g 1 rfl rfl))) rfl (RGon (decide_eq_false h55) rfl (xb7 Tryz.underlying45) rfl ⟨rfl, trivial⟩ trivial trivial (RGon (decide_eq_false h55) rfl xf2 rfl ⟨rfl, rfl, trivial⟩ trivial trivial (R2 (xc0 (decide_eq_false h55)) rfl rfl (x7 (by kernel_rfl) ?_)))))))
          refine x3 ?_
          refine xc5 rfl (fun h55_2 => ?_) (fun h55_2 => ?_)
          ·
           have hbad : (l.getD i deal0).valid = false := Bool.eq_false_iff.2 fun h => by have hv := Deal.valid_iff.1 h; omega
           refine x6 ?_
           refine x8 ?_
           refine R1 x5 rfl (x7 (by kernel_rfl) (x3 (xa2 (xa3 (xc7 (xa3 (xa3 ?_)))))))
           refine xc7 (xa3 ?_)
           exact xa9 Plain.mk' rfl rfl (Le.bool (by rw [validL, xg0 (l := l) (i := i) (d := deal0) (by omega) hbad, Bool.and_false]))
          ·
           refine xa5 (x3 (x6 ?_))
           refine x8 ?_
           refine R1 (x9 fo56_3 rfl) rfl (xa4 (0) ti3 rfl rfl rfl (At.g 3 rfl rfl) rfl (R2 xd7 rfl rfl (R1 x4 rfl ?_)))
           refine RGcaseD (t := 63) rfl (fun h58 => ?_) (fun h58 => ?_)
           ·
            have hbad : (l.getD i deal0).valid = false := Bool.eq_false_iff.2 fun h => by have hv := Deal.valid_iff.1 h; omega
            refine RGoff (decide_eq_true h58) rfl rfl (RGoff (decide_eq_true h58) rfl rfl (RGoff (decide_eq_true h58) rfl rfl (R2 (xb2 (decide_eq_true h58)) rfl rfl (x7 (by kernel_rfl) (x3 (C_bT rfl rfl (x6 ?_)))))))
            refine x8 ?_
            refine R1 x5 rfl (x7 (by kernel_rfl) (x3 (xa2 (xc7 (xa3 (xa3 (xc7 ?_)))))))
            refine xa3 ?_
            exact xa9 Plain.mk' rfl rfl (Le.bool (by rw [validL, xg0 (l := l) (i := i) (d := deal0) (by omega) hbad, Bool.and_false]))
           ·
            refine RGon (decide_eq_false h58) rfl (x9 fo56_3 rfl) rfl ⟨rfl, trivial⟩ trivial trivial (xd2 (decide_eq_false h58) rfl rfl (0) ti3 rfl rfl rfl (At.g 3 rfl rfl) rfl (RGon (decide_eq_false h58) rfl xf2 rfl ⟨rfl, rfl, trivial⟩ trivial trivial (R2 (xc0 (decide_eq_false h58)) rfl rfl (x7 (by kernel_rfl) (x3 ?_)))))
            refine xc5 rfl (fun h58_2 => ?_) (fun h58_2 => ?_)
            ·
             have hbad : (l.getD i deal0).valid = false := Bool.eq_false_iff.2 fun h => by have hv := Deal.valid_iff.1 h; omega
             refine x6 ?_
             refine x8 ?_
             refine R1 x5 rfl (x7 (by kernel_rfl) (x3 (xa2 (xc7 (xa3 (xa3 (xc7 ?_)))))))
             refine xa3 ?_
             exact xa9 Plain.mk' rfl rfl (Le.bool (by rw [validL, xg0 (l := l) (i := i) (d := deal0) (by omega) hbad, Bool.and_false]))
            ·
             refine xa5 (xc8 (x3 ?_))
             refine x8 ?_
             refine R2 (xc2 (wr64 (by omega) (by omega))) rfl rfl (R1 x4 rfl (x7 (by kernel_rfl) ?_))
             have hok : (l.getD i deal0).valid = true := Deal.valid_iff.2 ⟨by omega, by omega, by omega, hv, hng, hle, by omega, by omega, by omega, by omega⟩
             exact xc6 (i + 1) ⟨⟨by omega, by rw [all_take_succ (l := l) (i := i) (d := deal0) (by omega), ha, hok]; rfl⟩, (by omega)⟩ (Sub.int rfl (by first | omega | rfl | (dsimp only; omega)) (Sub.int rfl (by first | omega | rfl | (dsimp only; omega)) (Sub.cons rfl Sub.nil))) SubK.nil (SupG.val (SupG.val (SupG.val SupG.nil))) SupH.nil (lkOk rfl)
  ·
   refine xd8 (xc1 (xc1 (xe3 (x3 (x6 ?_)))))
   refine x8 ?_
   refine R1 x5 rfl (x7 (by kernel_rfl) (x3 (xa2 ?_)))
   exact xa9 Plain.mk' rfl rfl (Le.bool (by rw [validL, decide_eq_true (by omega), Bool.true_and, ← ha, show i = l.length by omega, List.take_length]))
theorem c_FMulS (q : Rat) (n : Int) (hq : short q) (hn : short (n : Rat)) (hp : short (q * (n : Rat))) : Ct Tryz.prog 73 [tFr (fr q), tFr (fr (n : Rat))] (tT [tFr (fr (q * (n : Rat))), tI 0]) := by
  have h := c_FMul q n hq hn
  rw [resF, resFE, if_pos hp, if_pos hp] at h; exact h
theorem c_FRoundFloor (a : Rat) (k : Int) (ha : short a) (hk : k = a.floor) (hs : short (k : Rat)) : Ct Tryz.prog 132 [tFr (fr a), tFr (fr ((1 : Int) : Rat)), tE (.int .u8 3)] (tT [tFr (fr (k : Rat)), tI 0]) := by
  have h := c_FRound3 a ((1 : Int) : Rat) ha short_one (by decide)
  have e : a.num * ((((1 : Int) : Rat).den : Nat) : Int) / ((a.den : Int) * ((1 : Int) : Rat).num) = a.floor := floor_parts a
  rw [e, ← hk] at h
  have e2 : (k : Rat) * ((1 : Int) : Rat) = (k : Rat) := by simp
  rw [e2, resF, resFE, if_pos hs, if_pos hs] at h; exact h
theorem c_FIntI (k : Int) (hs : short (k : Rat)) (hf : fits k = true) : Ct Tryz.prog 133 [tFr (fr (k : Rat))] (tT [tI k, tI 0]) := by
  have h := c_FInt (k : Rat) hs
  rw [Rat.num_intCast, Rat.den_intCast, hf, if_pos ⟨rfl, rfl⟩, if_pos rfl, if_pos rfl] at h
  exact h
theorem c_take (q : Rat) (n : Int) (hq1 : len16 q.num ≤ 4) (hq2 : len16 q.den ≤ 4) (h0 : 0 ≤ q) (h1 : q ≤ 1) (hn : -1099511627776 ≤ n) (hn2 : n ≤ 1099511627776) :
    Ct Tryz.prog 83 [tFr (fr q), tI n] (tI (take q n)) := by
  have hq : short q := ⟨by omega, by omega⟩
  have ln : len16 n ≤ 4 := len16_64 (by omega) (by omega)
  have hsn : short (n : Rat) := short_int (by omega)
  have lnn : len16 (n : Rat).num ≤ 4 := by rw [Rat.num_intCast]; exact ln
  have l1 : len16 1 ≤ 1 := by show (wh 1).l.length ≤ 1; rw [wh_one]; decide
  have lnd : len16 ((n : Rat).den : Int) ≤ 1 := by rw [Rat.den_intCast]; exact l1
  obtain ⟨p1, p2⟩ := len_mul_parts hq1 lnn hq2 lnd
  have hp : short (q * (n : Rat)) := ⟨by omega, by omega⟩
  obtain ⟨b1, b2⟩ := take_bd (n := n) h0 h1
  have hb : -1099511627776 ≤ take q n ∧ take q n ≤ 1099511627776 := by
    rcases Int.le_total 0 n with h | h
    · have := b1 h; omega
    · have := b2 h; omega
  have lt : len16 (take q n) ≤ 4 := len16_64 (by omega) (by omega)
  have hst : short ((take q n : Int) : Rat) := short_int (by omega)
  have hfit : fits (take q n) = true := by simp only [fits, Bool.and_eq_true, decide_eq_true_eq]; omega
  refine Ct.intro Tryz.func83 rfl Tryz.ntmps83 rfl ?_
  intro w F
  refine x6 ?_
  refine x8 ?_
  refine RE (xd4 (k := 2) ti49 rfl) ⟨rfl, trivial⟩ trivial ⟨rfl, trivial⟩ (R1 x5 rfl (x7 (by kernel_rfl) (x3 (x6 ?_))))
  refine xc9 mixed ?_
  refine RE (xa7 (0) ti49 rfl rfl) ⟨rfl, trivial⟩ ⟨rfl, trivial⟩ trivial (R1 x4 rfl (R1 (xa0 (c_FFromInt n (by omega) (by omega)) fi71 rfl) rfl (R2 (xa0 (c_FMulS q n hq hsn hp) fi73 rfl) rfl rfl (R1 x4 rfl (R1 (xa8 rfl) rfl (R1 (xa8 rfl) rfl (RE (xc4 (k := 5) (n := 4) (agg := true) zr49.1 zr49.2 rfl) trivial trivial ⟨rfl, trivial⟩ ?_)))))))
  refine RE (xa6 (es := 4) (agg := true) (0) ti49 rfl rfl rfl) ⟨rfl, rfl, trivial⟩ ⟨rfl, trivial⟩ trivial (R1 x5 rfl (xd1 (by kernel_rfl) (x3 (x6 ?_))))
  refine xc9 mixed ?_
  refine RE (xa7 (0) ti49 rfl rfl) ⟨rfl, trivial⟩ ⟨rfl, trivial⟩ trivial (R1 (xa0 (c_FFromInt 1 (by decide) (by decide)) fi71 rfl) rfl (R3 (xa0 (c_FRoundFloor (q * (n : Rat)) (take q n) hp rfl hst) fi132 rfl) rfl rfl rfl (R1 x4 rfl (R1 (xa8 rfl) rfl (R1 (xa8 rfl) rfl (RE (xc4 (k := 7) (n := 4) (agg := true) zr49.1 zr49.2 rfl) trivial trivial ⟨rfl, trivial⟩ (RE (xa6 (es := 4) (agg := true) (0) ti49 rfl rfl rfl) ⟨rfl, rfl, trivial⟩ ⟨rfl, trivial⟩ trivial ?_)))))))
  refine R1 x5 rfl (xd1 (by kernel_rfl) (x3 (x6 ?_)))
  refine x8 ?_
  refine RE (xa7 (0) ti49 rfl rfl) ⟨rfl, trivial⟩ ⟨rfl, trivial⟩ trivial (R1 (xa0 (c_FIntI (take q n) hst hfit) fi133 rfl) rfl (R1 x4 rfl (R1 (xa8 rfl) rfl (R1 (xa8 rfl) rfl (R1 x5 rfl (R1 x5 rfl (x7 (by kernel_rfl) ?_)))))))
  refine x3 (x6 ?_)
  refine x8 ?_
  refine R1 x4 rfl (R1 x5 rfl (x7 (by kernel_rfl) (x3 (xa2 ?_))))
  exact xa9 Plain.mk' rfl rfl Le.refl
end An.S

/- Package split: states. -/
namespace An.S
open Go Go.Proofs An
set_option maxHeartbeats 2000000
theorem ti23 : TyI Tryz.prog 23 1 false := ⟨by kernel_rfl, by kernel_rfl⟩
theorem ti27 : TyI Tryz.prog 27 3 true := ⟨by kernel_rfl, by kernel_rfl⟩
theorem sl23 : SlI Tryz.prog 23 3 1 false := ⟨Tryz.underlying23, ti3⟩
theorem fo27_0 : fieldO Tryz.prog 27 0 = some 0 := by kernel_rfl
theorem fo27_1 : fieldO Tryz.prog 27 1 = some 1 := by kernel_rfl
theorem fo27_2 : fieldO Tryz.prog 27 2 = some 2 := by kernel_rfl
theorem fi28 : FnI Tryz.prog 28 := ⟨_, Tryz.func28, by kernel_rfl, rfl⟩
theorem fi31 : FnI Tryz.prog 31 := ⟨_, Tryz.func31, by kernel_rfl, rfl⟩
theorem fi83 : FnI Tryz.prog 83 := ⟨_, Tryz.func83, by kernel_rfl, rfl⟩
theorem zr27 : (Tryz.prog.info? 27).bind (·.zero) = some (.agg #[.int .i64 0, .slice none 0 0, .slice none 0 0]) ∧ ∀ F w, (tS [⟨1, false, (tE (.int .i64 0))⟩, ⟨1, false, (tIs [])⟩, ⟨1, false, (tIs [])⟩]).p F w (.agg #[.int .i64 0, .slice none 0 0, .slice none 0 0]) := ⟨by kernel_rfl, fun _ _ => ⟨_, rfl, rfl, ⟨fun _ => rfl, rfl⟩, ⟨fun _ => rfl, ⟨none, 0, rfl, Nat.le_refl _, by decide, .inl rfl⟩⟩, ⟨fun _ => rfl, ⟨none, 0, rfl, Nat.le_refl _, by decide, .inl rfl⟩⟩, trivial⟩⟩
theorem bu27 : BuI Tryz.prog 27 (fun i => [(0, 1), (1, 1), (2, 1)][i]?) (.agg #[.int .i64 0, .slice none 0 0, .slice none 0 0]) := BuI.struct Tryz.underlying27 (by kernel_rfl) (by kernel_rfl)
theorem nonneg_of {f : Fr} (hD : f.dig) (hv : f.valid = true) (hn : f.n.neg = false) : 0 ≤ f.rat := by
  obtain ⟨e, _⟩ := Fr.of_valid' hD hv
  rw [e] at hn
  have h1 : ¬ f.rat.num < 0 := of_decide_eq_false hn
  exact Rat.num_nonneg.1 (by omega)
theorem c_takeV (d : Deal) (hD : d.share.dig) (hv : d.valid = true) (n : Int) (hn : wIn n = true) : Ct Tryz.prog 83 [tFr d.share, tI n] (tI (take d.share.rat n)) := by
  obtain ⟨_, _, _, v1, v2, v3, v4, v5, _⟩ := Deal.valid_iff.1 hv
  obtain ⟨e, _⟩ := Fr.of_valid' hD v1
  obtain ⟨n1, n2⟩ := xe8.1 hn
  have l1 : len16 d.share.rat.num ≤ 4 := by rw [e] at v4; exact v4
  have l2 : len16 d.share.rat.den ≤ 4 := by rw [e] at v5; exact v5
  have h := c_take d.share.rat n l1 l2 (nonneg_of hD v1 v2) v3 n1 n2
  rw [← e] at h; exact h
theorem range_stop {n i : Nat} {f : Nat → Bool} (hi : i < n) (h : f i = false) : (List.range n).all f = false := by
  rw [List.all_eq_false]
  exact ⟨i, List.mem_range.2 hi, by simp [h]⟩
theorem range_next {i : Nat} {f : Nat → Bool} : (List.range (i + 1)).all f = ((List.range i).all f && f i) := by
  rw [List.range_succ, List.all_append]; simp
theorem validL_get {l : List Deal} {i : Nat} (h : validL l = true) (hi : i < l.length) : (l.getD i deal0).valid = true := by
  simp only [validL, Bool.and_eq_true, List.all_eq_true] at h
  exact h.2 _ (getD_mem hi)
theorem xi6 {l : List Deal} (h : validL l = true) : l.length ≤ 16 := by
  simp only [validL, Bool.and_eq_true, decide_eq_true_eq] at h; exact h.1
theorem c_SRight (l : List Deal) (o : Int) (b p : List Int) (hD : ∀ d ∈ l, d.share.dig) :
  Ct Tryz.prog 30 [tL 7 true tDeal l, tState o b p] (tB (rightL l o b p)) := by
 refine Ct.intro Tryz.func30 rfl Tryz.ntmps30 rfl ?_
 intro w F
 refine C_len (s := 0) rfl (fun hl0 => ?_)
 refine x6 ?_
 refine x8 ?_
 refine RE (xd4 (k := 3) ti27 rfl) ⟨rfl, trivial⟩ trivial ⟨rfl, trivial⟩ (R1 x5 rfl (x7 (by kernel_rfl) (x3 (x6 (x6 ?_)))))
 refine x8 ?_
 refine R1 x4 rfl (R1 (xa0 (c_SValid l hD) fi28 rfl) rfl (R1 xe2 rfl (R1 x4 rfl ?_)))
 refine RGcase (t := 10) rfl (fun h80 => ?_) (fun h80 => ?_)
 ·
  have hvl : validL l = false := by simpa using h80
  refine RGoff h80 rfl rfl (RGoff h80 rfl rfl (RGoff h80 rfl rfl (RGoff h80 rfl rfl (RGoff h80 rfl rfl (RGoff h80 rfl rfl (R2 (xb2 h80) rfl rfl (R1 x4 rfl ?_)))))))
  refine RGoff1 rfl rfl (RGoff1 rfl rfl (RGoff1 rfl rfl (RGoff1 rfl rfl (RGoff1 rfl rfl (RGoff1 rfl rfl (R2 (xb2 rfl) rfl rfl (R1 x4 rfl ?_)))))))
  refine RGoff1 rfl rfl (RGoff1 rfl rfl (RGoff1 rfl rfl (RGoff1 rfl rfl (R2 (xb2 rfl) rfl rfl (x7 (by kernel_rfl) (x3 (C_bT rfl rfl ?_)))))))
  refine x6 ?_
  refine x8 ?_
  refine R1 x5 rfl (x7 (by kernel_rfl) (x3 (xa2 (xa3 ?_))))
  exact xa9 Plain.mk' rfl rfl (Le.bool (by rw [rightL, hvl]; rfl))
 ·
  have hvl : validL l = true := by simpa using h80
  refine RGon h80 rfl (x9 fo27_1 rfl) rfl ⟨rfl, trivial⟩ trivial trivial (xd2 h80 rfl rfl (0) ti23 rfl rfl rfl (At.g 1 rfl rfl) rfl (RGon h80 rfl (xb7 Tryz.underlying23) rfl ⟨rfl, trivial⟩ trivial trivial (RGon h80 rfl x4 rfl ⟨rfl, trivial⟩ trivial trivial (RGon h80 rfl (xb7 Tryz.underlying22) rfl ⟨rfl, trivial⟩ trivial trivial (RGon h80 rfl xg8 rfl ⟨rfl, rfl, trivial⟩ trivial trivial (R2 (xc0 h80) rfl rfl (R1 x4 rfl ?_)))))))
  refine RGcaseD (t := 18) rfl (fun h80_2 => ?_) (fun h80_2 => ?_)
  ·
   refine RGoff (decide_eq_true h80_2) rfl rfl (RGoff (decide_eq_true h80_2) rfl rfl (RGoff (decide_eq_true h80_2) rfl rfl (RGoff (decide_eq_true h80_2) rfl rfl (RGoff (decide_eq_true h80_2) rfl rfl (RGoff (decide_eq_true h80_2) rfl rfl (R2 (xb2 (decide_eq_true h80_2)) rfl rfl (R1 x4 rfl ?_)))))))
   refine RGoff1 rfl rfl (RGoff1 rfl rfl (RGoff1 rfl rfl (RGoff1 rfl rfl (R2 (xb2 rfl) rfl rfl (x7 (by kernel_rfl) (x3 (C_bT rfl rfl ?_)))))))
   refine x6 ?_
   refine x8 ?_
   refine R1 x5 rfl (x7 (by kernel_rfl) (x3 (xa2 (xa3 ?_))))
   exact xa9 Plain.mk' rfl rfl (Le.bool (by rw [rightL, hvl, decide_eq_false (show ¬ b.length = l.length by omega)]; rfl))
  ·
   refine RGon (decide_eq_false h80_2) rfl (x9 fo27_2 rfl) rfl ⟨rfl, trivial⟩ trivial trivial (xd2 (decide_eq_false h80_2) rfl rfl (0) ti23 rfl rfl rfl (At.g 2 rfl rfl) rfl (RGon (decide_eq_false h80_2) rfl (xb7 Tryz.underlying23) rfl ⟨rfl, trivial⟩ trivial trivial (RGon (decide_eq_false h80_2) rfl x4 rfl ⟨rfl, trivial⟩ trivial trivial (RGon (decide_eq_false h80_2) rfl (xb7 Tryz.underlying22) rfl ⟨rfl, trivial⟩ trivial trivial (RGon (decide_eq_false h80_2) rfl xg8 rfl ⟨rfl, rfl, trivial⟩ trivial trivial (R2 (xc0 (decide_eq_false h80_2)) rfl rfl (R1 x4 rfl ?_)))))))
   refine RGcaseD (t := 26) rfl (fun h80_3 => ?_) (fun h80_3 => ?_)
   ·
    refine RGoff (decide_eq_true h80_3) rfl rfl (RGoff (decide_eq_true h80_3) rfl rfl (RGoff (decide_eq_true h80_3) rfl rfl (RGoff (decide_eq_true h80_3) rfl rfl (R2 (xb2 (decide_eq_true h80_3)) rfl rfl (x7 (by kernel_rfl) (x3 (C_bT rfl rfl ?_)))))))
    refine x6 ?_
    refine x8 ?_
    refine R1 x5 rfl (x7 (by kernel_rfl) (x3 (xa2 (xa3 ?_))))
    exact xa9 Plain.mk' rfl rfl (Le.bool (by rw [rightL, hvl, decide_eq_false (show ¬ p.length = l.length by omega)]; simp))
   ·
    refine RGon (decide_eq_false h80_3) rfl (x9 fo27_0 rfl) rfl ⟨rfl, trivial⟩ trivial trivial (xd2 (decide_eq_false h80_3) rfl rfl (0) ti3 rfl rfl rfl (At.g 0 rfl rfl) rfl (RGon (decide_eq_false h80_3) rfl (xa0 (c_within _) fi31 rfl) rfl ⟨rfl, trivial⟩ trivial trivial (RGon (decide_eq_false h80_3) rfl xe2 rfl ⟨rfl, trivial⟩ trivial trivial (R2 (xc0 (decide_eq_false h80_3)) rfl rfl (x7 (by kernel_rfl) (x3 ?_))))))
    refine xf0 rfl (fun h80_4 => ?_) (fun h80_4 => ?_)
    ·
     have hwo : wIn o = false := by simpa using h80_4
     refine x6 ?_
     refine x8 ?_
     refine R1 x5 rfl (x7 (by kernel_rfl) (x3 (xa2 (xa3 ?_))))
     exact xa9 Plain.mk' rfl rfl (Le.bool (by rw [rightL, hwo]; simp))
    ·
     have hwo : wIn o = true := by simpa using h80_4
     refine xa5 (x3 (x6 (x6 ?_)))
     refine x8 ?_
     refine R1 x4 rfl (R1 (xb7 Tryz.underlying22) rfl (R1 x4 rfl (x7 (by kernel_rfl) (x3 (xb3 ?_)))))
     refine xe0 (fun (i : Nat) => i ≤ l.length ∧ (List.range i).all (fun i => wIn (b.getD i 0) && decide (p.getD i 0 = take (l.getD i deal0).share.rat (b.getD i 0))) = true) (fun (i : Nat) => upd (upd (upd (upd (fun _ => none) 3 (some (.own (.ptr 3 0)))) 32 (some (.val (tL 7 true tDeal l)))) 33 (some (.val (tI l.length)))) 34 (some (.val (tI i)))) (fun (i : Nat) => upd (fun _ => none) 3 (some (⟨27, 3, true, [.val (tState o b p)]⟩))) (nm [3]) (fun (i : Nat) => l.length - i) (0) ⟨Nat.zero_le _, rfl⟩ (Sub.int rfl (by first | omega | rfl | (dsimp only; omega)) (Sub.int rfl (by first | omega | rfl | (dsimp only; omega)) (Sub.cons rfl (Sub.cons rfl Sub.nil)))) ((SubK.consI rfl ImpK.refl) SubK.nil) (SupG.val (SupG.val (SupG.val (SupG.own rfl SupG.nil)))) (SupH.cons rfl (supJL rfl) SupH.nil) (lkOk rfl) ?_
     intro i hI
     obtain ⟨hi, ha⟩ := hI
     refine x6 ?_
     refine x8 ?_
     refine R2 xd7 rfl rfl (x7 (by kernel_rfl) (x3 (x6 ?_)))
     refine xc5 rfl (fun h83 => ?_) (fun h83 => ?_)
     ·
      refine xa5 (x3 (x6 (xb3 (x6 ?_))))
      refine x8 ?_
      refine R1 x4 rfl (R2 (xb6 sl22 i (by omega) (gD (l := l) (n := i) (d := deal0) (by omega))) rfl rfl (R1 (xb8 ti56) rfl (RE (xc4 (k := 6) (n := 7) (agg := true) zr56.1 zr56.2 rfl) trivial trivial ⟨rfl, trivial⟩ (R1 x5 rfl (RE (xa6 (es := 7) (agg := true) (0) ti56 rfl rfl rfl) ⟨rfl, rfl, trivial⟩ ⟨rfl, trivial⟩ trivial (x7 (by kernel_rfl) (x3 ?_)))))))
      refine x6 ?_
      refine xc9 mixed ?_
      refine R1 (x9 fo27_1 rfl) rfl (xa4 (0) ti23 rfl rfl rfl (At.g 1 rfl rfl) rfl (R1 x4 rfl (R2 (xb6 sl23 (i) (by omega) (gZ (by omega))) rfl rfl (R1 (xb8 ti3) rfl (R1 (xa0 (c_within _) fi31 rfl) rfl (R1 xe2 rfl (R1 x4 rfl ?_)))))))
      refine RGcase (t := 46) rfl (fun h84 => ?_) (fun h84 => ?_)
      ·
       have hbad : (fun i => wIn (b.getD i 0) && decide (p.getD i 0 = take (l.getD i deal0).share.rat (b.getD i 0))) i = false := by
        have hw : wIn (b.getD i 0) = false := by simpa using h84
        simp only [hw, Bool.false_and]
       refine RGoff h84 rfl rfl (RGoff h84 rfl rfl (RGoff h84 rfl rfl (RGoff h84 rfl rfl (RGoff h84 rfl rfl (RGoff h84 rfl rfl (RGoff h84 rfl rfl (RGoff h84 rfl rfl ?_)))))))
       refine RGoff h84 rfl rfl (RGoff h84 rfl rfl (RGoff h84 rfl rfl (RGoff h84 rfl rfl (RGoff h84 rfl rfl (RGoff h84 rfl rfl (R2 (xb2 h84) rfl rfl (xd1 (by kernel_rfl) ?_)))))))
       refine x3 (C_bT rfl rfl (x6 ?_))
       refine x8 ?_
       refine R1 x5 rfl (x7 (by kernel_rfl) (x3 (xa2 (xc7 (xa3 (xa3 (xc7 ?_)))))))
       refine xa3 ?_
       exact xa9 Plain.mk' rfl rfl (Le.bool (by rw [rightL, range_stop (i := i) (by omega) hbad, Bool.and_false]))
      ·
       have hw : wIn (b.getD i 0) = true := by simpa using h84
       refine RGon h84 rfl (x9 fo27_2 rfl) rfl ⟨rfl, trivial⟩ trivial trivial (xd2 h84 rfl rfl (0) ti23 rfl rfl rfl (At.g 2 rfl rfl) rfl (RGon h84 rfl x4 rfl ⟨rfl, trivial⟩ trivial trivial (RGon h84 rfl (xb6 sl23 (i) (by omega) (gZ (by omega))) rfl ⟨rfl, rfl, trivial⟩ trivial trivial (RGon h84 rfl (xb8 ti3) rfl ⟨rfl, trivial⟩ trivial trivial (RGon h84 rfl (x9 fo56_2 rfl) rfl ⟨rfl, trivial⟩ trivial trivial (xd2 h84 rfl rfl (0) ti49 rfl rfl rfl (At.g 2 rfl rfl) rfl (RGon h84 rfl (x9 fo27_1 rfl) rfl ⟨rfl, trivial⟩ trivial trivial ?_)))))))
       refine xd2 h84 rfl rfl (0) ti23 rfl rfl rfl (At.g 1 rfl rfl) rfl (RGon h84 rfl x4 rfl ⟨rfl, trivial⟩ trivial trivial (RGon h84 rfl (xb6 sl23 (i) (by omega) (gZ (by omega))) rfl ⟨rfl, rfl, trivial⟩ trivial trivial (RGon h84 rfl (xb8 ti3) rfl ⟨rfl, trivial⟩ trivial trivial (RGon h84 rfl (xa0 (c_takeV _ (hD _ (getD_mem (l := l) (i := i) (d := deal0) (by omega))) (validL_get hvl (by omega)) _ hw) fi83 rfl) rfl ⟨rfl, rfl, trivial⟩ trivial trivial (RGon h84 rfl xg8 rfl ⟨rfl, rfl, trivial⟩ trivial trivial (R2 (xc0 h84) rfl rfl (xd1 (by kernel_rfl) ?_)))))))
       refine x3 ?_
       refine xc5 rfl (fun h84_2 => ?_) (fun h84_2 => ?_)
       ·
        have hbad : (fun i => wIn (b.getD i 0) && decide (p.getD i 0 = take (l.getD i deal0).share.rat (b.getD i 0))) i = false := by
         simp only [decide_eq_false (show ¬ p.getD i 0 = take (l.getD i deal0).share.rat (b.getD i 0) by omega), Bool.and_false]
        refine x6 ?_
        refine x8 ?_
        refine R1 x5 rfl (x7 (by kernel_rfl) (x3 (xa2 (xc7 (xa3 (xa3 (xc7 ?_)))))))
        refine xa3 ?_
        exact xa9 Plain.mk' rfl rfl (Le.bool (by rw [rightL, range_stop (i := i) (by omega) hbad, Bool.and_false]))
       ·
        refine xa5 (xc8 (x3 ?_))
        refine x8 ?_
        refine R2 (xc2 (wr64 (by omega) (by omega))) rfl rfl (R1 x4 rfl (x7 (by kernel_rfl) ?_))
        exact xc6 (i + 1) ⟨⟨by omega, by rw [range_next, ha, Bool.true_and, hw, Bool.true_and, decide_eq_true (by omega)]⟩, (by omega)⟩ (Sub.int rfl (by first | omega | rfl | (dsimp only; omega)) (Sub.int rfl (by first | omega | rfl | (dsimp only; omega)) (Sub.cons rfl (Sub.cons rfl Sub.nil)))) ((SubK.consI rfl ImpK.refl) SubK.nil) (SupG.val (SupG.val (SupG.val (SupG.own rfl SupG.nil)))) (SupH.cons rfl (supJL rfl) SupH.nil) (lkOk rfl)
     ·
      refine xd8 (xc1 (xc1 (xe3 (x3 (x6 ?_)))))
      refine x8 ?_
      refine R1 x5 rfl (x7 (by kernel_rfl) (x3 (xa2 ?_)))
      exact xa9 Plain.mk' rfl rfl (Le.bool (by rw [rightL, hvl, hwo, decide_eq_true (show b.length = l.length by omega), decide_eq_true (show p.length = l.length by omega), ← show i = l.length by omega, ha]; rfl))
theorem c_SNew (l : List Deal) (hD : ∀ d ∈ l, d.share.dig) :
  Ct Tryz.prog 8 [tL 7 true tDeal l] (tT [tState 0 (if validL l then (List.replicate l.length (0 : Int)) else []) (if validL l then (List.replicate l.length (0 : Int)) else []), tI (if validL l then 0 else 2)]) := by
 refine Ct.intro Tryz.func8 rfl Tryz.ntmps8 rfl ?_
 intro w F
 refine x6 ?_
 refine x8 ?_
 refine RE (xc4 (k := 2) (n := 3) (agg := true) zr27.1 zr27.2 rfl) trivial trivial ⟨rfl, trivial⟩ (R1 x5 rfl (x7 (by kernel_rfl) (x3 (x6 (x6 ?_)))))
 refine x8 ?_
 refine R1 x4 rfl (R1 (xa0 (c_SValid l hD) fi28 rfl) rfl (R1 xe2 rfl (x7 (by kernel_rfl) (x3 ?_))))
 refine xf0 rfl (fun h93 => ?_) (fun h93 => ?_)
 ·
  have hvl : validL l = false := by simpa using h93
  refine x6 ?_
  refine x8 ?_
  refine R0 (xd9 (r := tS [⟨1, false, (tE (.int .i64 0))⟩, ⟨1, false, (tIs [])⟩, ⟨1, false, (tIs [])⟩]) (ts := []) bu27 zr27.2 ⟨_, rfl⟩ rfl Le.refl)  (RE (xa6 (es := 3) (agg := true) (0) ti27 rfl rfl rfl) ⟨rfl, rfl, trivial⟩ ⟨rfl, trivial⟩ trivial (R1 x5 rfl (x7 (by kernel_rfl) (x3 (xa2 (xa3 ?_))))))
  exact xf1 Plain.mk' (rs := [.cell 2 27, .tmp 3]) rfl rfl ⟨⟨_, _, _, _, _, rfl, rfl, ti27, (Le.of (by rw [hvl]; rfl))⟩, ⟨_, rfl, (Le.int (by rw [hvl]; rfl))⟩, trivial⟩
 ·
  have hvl : validL l = true := by simpa using h93
  have hl16 := xi6 hvl
  refine xa5 (x3 (x6 ?_))
  refine xc9 mixed ?_
  refine R1 x4 rfl (R1 (xb7 Tryz.underlying22) rfl (R2 (d_makeT (f := fun n : Int => tI n) (y0 := 0) (ys := (List.replicate l.length (0 : Int))) l.length l.length Tryz.underlying23 el3 (fun _ _ => rfl) inferInstance rfl rfl rfl (Nat.le_refl _) (by omega) (by omega) rfl) rfl rfl (R1 x4 rfl (R1 (xb7 Tryz.underlying22) rfl (R2 (d_makeT (f := fun n : Int => tI n) (y0 := 0) (ys := (List.replicate l.length (0 : Int))) l.length l.length Tryz.underlying23 el3 (fun _ _ => rfl) inferInstance rfl rfl rfl (Nat.le_refl _) (by omega) (by omega) rfl) rfl rfl (R2 (xd9 (r := tS [⟨1, false, (tE (.int .i64 0))⟩, ⟨1, false, tIs (List.replicate l.length (0 : Int))⟩, ⟨1, false, tIs (List.replicate l.length (0 : Int))⟩]) (ts := [(1, tIs (List.replicate l.length (0 : Int))), (2, tIs (List.replicate l.length (0 : Int)))]) bu27 zr27.2 ⟨_, rfl⟩ rfl ⟨_, _, _, _, rfl, Up.f (fs := [⟨1, false, (tE (.int .i64 0))⟩, ⟨1, false, (tIs [])⟩, ⟨1, false, (tIs [])⟩]) (f := ⟨1, false, (tIs [])⟩) (fs' := [⟨1, false, (tE (.int .i64 0))⟩, ⟨1, false, tIs (List.replicate l.length (0 : Int))⟩, ⟨1, false, (tIs [])⟩]) 1 rfl rfl rfl, inferInstance, ⟨_, _, _, _, rfl, Up.f (fs := [⟨1, false, (tE (.int .i64 0))⟩, ⟨1, false, tIs (List.replicate l.length (0 : Int))⟩, ⟨1, false, (tIs [])⟩]) (f := ⟨1, false, (tIs [])⟩) (fs' := [⟨1, false, (tE (.int .i64 0))⟩, ⟨1, false, tIs (List.replicate l.length (0 : Int))⟩, ⟨1, false, tIs (List.replicate l.length (0 : Int))⟩]) 2 rfl rfl rfl, inferInstance, Le.refl⟩⟩) rfl rfl (RE (xa6 (es := 3) (agg := true) (0) ti27 rfl rfl rfl) ⟨rfl, rfl, trivial⟩ ⟨rfl, trivial⟩ trivial ?_)))))))
  refine R1 x5 rfl (xd1 (by kernel_rfl) (x3 (xa2 ?_)))
  exact xf1 Plain.mk' (rs := [.cell 2 27, .tmp 3]) rfl rfl ⟨⟨_, _, _, _, _, rfl, rfl, ti27, (Le.of (by rw [hvl]; rfl))⟩, ⟨_, rfl, (Le.int (by rw [hvl]; rfl))⟩, trivial⟩
end An.S

/- Layer 24: the deals that apply for a month. Plain data. -/
namespace An
open Go
def Deal.on (d : Deal) (m : Int) : Bool := decide (d.lo ≤ m) && decide (m < d.hi)
/-- Of the first i deals, those that apply. -/
def apl1 (l : List Deal) (m : Int) (i : Nat) : List Nat := (List.range i).filter fun j => (l.getD j deal0).on m
def apl (l : List Deal) (m : Int) : List Nat := apl1 l m l.length
theorem apl1_yes {l : List Deal} {m : Int} {i : Nat} (h : (l.getD i deal0).on m = true) : apl1 l m (i + 1) = apl1 l m i ++ [i] := by
  rw [apl1, List.range_succ, List.filter_append, List.filter_cons_of_pos (by exact h), List.filter_nil]; rfl
theorem apl1_no {l : List Deal} {m : Int} {i : Nat} (h : (l.getD i deal0).on m = false) : apl1 l m (i + 1) = apl1 l m i := by
  rw [apl1, List.range_succ, List.filter_append, List.filter_cons_of_neg (by rw [h]; exact Bool.false_ne_true), List.filter_nil, List.append_nil]; rfl
theorem apl1_pre {l : List Deal} {m : Int} (i j : Nat) : ∃ r, apl1 l m (i + j) = apl1 l m i ++ r := by
  induction j with
  | zero => exact ⟨[], by simp⟩
  | succ j ih =>
    obtain ⟨r, hr⟩ := ih
    cases h : (l.getD (i + j) deal0).on m with
    | true => exact ⟨r ++ [i + j], by rw [← Nat.add_assoc, apl1_yes h, hr, List.append_assoc]⟩
    | false => exact ⟨r, by rw [← Nat.add_assoc, apl1_no h, hr]⟩
theorem apl_at {l : List Deal} {m : Int} {i : Nat} (hi : i < l.length) (h : (l.getD i deal0).on m = true) : (apl1 l m i).length < (apl l m).length ∧ (apl l m).getD (apl1 l m i).length 0 = i := by
  obtain ⟨r, hr⟩ := apl1_pre (l := l) (m := m) (i + 1) (l.length - (i + 1))
  rw [show i + 1 + (l.length - (i + 1)) = l.length by omega, apl1_yes h] at hr
  have hr : apl l m = apl1 l m i ++ [i] ++ r := hr
  rw [hr]
  constructor
  · simp only [List.length_append, List.length_singleton]; omega
  · simp [List.getD_eq_getElem?_getD]
theorem on_yes {d : Deal} {m : Int} (h1 : d.lo ≤ m) (h2 : m < d.hi) : d.on m = true := by simp [Deal.on, h1, h2]
theorem on_no1 {d : Deal} {m : Int} (h1 : ¬ d.lo ≤ m) : d.on m = false := by simp [Deal.on, h1]
theorem on_no2 {d : Deal} {m : Int} (h2 : ¬ m < d.hi) : d.on m = false := by simp [Deal.on, h2]
end An

/- Package split: the deals that apply; the divider. -/
namespace An.S
open Go Go.Proofs An
set_option maxHeartbeats 2000000
theorem ti22 : TyI Tryz.prog 22 1 false := ⟨by kernel_rfl, by kernel_rfl⟩
theorem c_applying (l : List Deal) (m : Int) :
  CtG Tryz.prog 72 [] [.val (tL 7 true tDeal l), .val (tI m)] (.own (.fn 117 [.ptr 2 0, .ptr 3 0])) [(2, ⟨22, 1, false, [.val (tL 7 true tDeal l)]⟩), (3, ⟨3, 1, false, [.val (tI m)]⟩)] [2, 3] := by
 refine CtG.intro [] Tryz.func72 rfl Tryz.ntmps72 rfl rfl trivial ?_
 intro w F η
 refine x6 ?_
 refine x8 ?_
 refine RE (xd4 (k := 2) ti22 rfl) ⟨rfl, trivial⟩ trivial ⟨rfl, trivial⟩ (RE (xd4 (k := 3) ti3 rfl) ⟨rfl, trivial⟩ trivial ⟨rfl, trivial⟩ (R1 x5 rfl (x7 (by kernel_rfl) (x3 (x6 ?_)))))
 refine x8 ?_
 refine R2 (d_makeFunc (ps := [.ptr 2 0, .ptr 3 0]) rfl) rfl rfl (R1 x5 rfl (x7 (by kernel_rfl) (x3 (xa2 ?_))))
 exact xi4 LentC.mk' rfl rfl Imp.refl ⟨rfl, rfl, trivial⟩ rfl ⟨⟨rfl, (SupX.lit rfl)⟩, ⟨rfl, (SupX.lit rfl)⟩, trivial⟩ rfl
theorem kq {m n : Nat} (h : m = n) : some (HEnt.mk (2 * m) 1 false []) = some (HEnt.mk (2 * n) 1 false []) := by rw [h]
theorem apl_le {l : List Deal} {m : Int} {i : Nat} (hi : i < l.length) (h : (l.getD i deal0).on m = true) : LeL [tI (i : Int), tDeal (l.getD i deal0)] ((fun k => [tI (((apl l m).getD k 0 : Nat) : Int), tDeal (l.getD ((apl l m).getD k 0) deal0)]) (apl1 l m i).length) := by
  show LeL _ [tI (((apl l m).getD (apl1 l m i).length 0 : Nat) : Int), tDeal (l.getD ((apl l m).getD (apl1 l m i).length 0) deal0)]
  rw [(apl_at hi h).2]
  exact ⟨Le.refl, Le.refl, trivial⟩
theorem i_applying (ds : List Deal) (m : Int) (hl : ds.length ≤ 16) :
  ItC Tryz.prog 117 [(1, ⟨22, 1, false, [.val (tL 7 true tDeal ds)]⟩), (2, ⟨3, 1, false, [.val (tI m)]⟩)] [.ptr 1 0, .ptr 2 0] ((apl ds m).length) (fun k => [tI (((apl ds m).getD k 0 : Nat) : Int), tDeal (ds.getD ((apl ds m).getD k 0) deal0)]) := by
 refine ItC.intro (K := 99) [1, 2] Tryz.func117 rfl Tryz.ntmps117 rfl rfl ⟨⟨rfl, (SupX.lit rfl)⟩, ⟨rfl, (SupX.lit rfl)⟩, trivial⟩ rfl ?_
 intro w F η l V J Jc hB
 refine x6 ?_
 refine x8 ?_
 refine RE (xa7 (0) ti22 rfl rfl) ⟨rfl, trivial⟩ ⟨rfl, trivial⟩ trivial (R1 (xb7 Tryz.underlying22) rfl (R1 x4 rfl (x7 (by kernel_rfl) (x3 (xb3 ?_)))))
 refine xe0 (fun (i : Nat) => i ≤ ds.length) (fun (i : Nat) => upd (upd (upd (upd (upd (upd (fun _ => none) 0 (some (.val (tE (.func (.yield l) #[] #[]))))) 1 (some (.own (.ptr 1 0)))) 2 (some (.own (.ptr 2 0)))) 6 (some (.val (tL 7 true tDeal ds)))) 7 (some (.val (tI ds.length)))) 8 (some (.val (tI i)))) (fun (i : Nat) => upd (upd (upd (fun _ => none) 1 (some (⟨22, 1, false, [.val (tL 7 true tDeal ds)]⟩))) 2 (some (⟨3, 1, false, [.val (tI m)]⟩))) 99 (some (⟨2 * (apl1 ds m i).length, 1, false, []⟩))) (nm [1, 2, 99]) (fun (i : Nat) => ds.length - i) (0) (Nat.zero_le _) (Sub.int rfl (by first | omega | rfl | (dsimp only; omega)) (Sub.int rfl (by first | omega | rfl | (dsimp only; omega)) (Sub.cons rfl (Sub.cons rfl (Sub.cons rfl (Sub.cons rfl Sub.nil)))))) (SubK.cons rfl (SubK.cons rfl (SubK.cons rfl SubK.nil))) (SupG.val (SupG.val (SupG.val (SupG.own rfl (SupG.own rfl (SupG.val SupG.nil)))))) (SupH.cons rfl (supJL rfl) (SupH.cons rfl (supJL rfl) (SupH.cons rfl (supJL rfl) SupH.nil))) (lkOk rfl) ?_
 intro i hI
 refine x6 ?_
 refine x8 ?_
 refine R2 xd7 rfl rfl (x7 (by kernel_rfl) (x3 (x6 ?_)))
 refine xc5 rfl (fun h102 => ?_) (fun h102 => ?_)
 ·
  refine xa5 (x3 (x6 (xb3 (x6 ?_))))
  refine x8 ?_
  refine R1 x4 rfl (R2 (xb6 sl22 i (by omega) (gD (l := ds) (n := i) (d := deal0) (by omega))) rfl rfl (R1 (xb8 ti56) rfl (RE (xc4 (k := 5) (n := 7) (agg := true) zr56.1 zr56.2 rfl) trivial trivial ⟨rfl, trivial⟩ (R1 x5 rfl (RE (xa6 (es := 7) (agg := true) (0) ti56 rfl rfl rfl) ⟨rfl, rfl, trivial⟩ ⟨rfl, trivial⟩ trivial (x7 (by kernel_rfl) (x3 ?_)))))))
  refine x6 ?_
  refine C_regY ?_
  refine xf8 (x9 fo56_0 rfl) ⟨rfl, trivial⟩ trivial trivial rfl (wl_loadF (0) ti3 rfl rfl rfl (At.g 0 rfl rfl) rfl rfl (xf8 (xa7 (0) ti3 rfl rfl) ⟨rfl, trivial⟩ ⟨rfl, trivial⟩ trivial rfl (xf8 d_leq ⟨rfl, rfl, trivial⟩ trivial trivial rfl (xf8 x4 ⟨rfl, trivial⟩ trivial trivial rfl ?_))))
  refine wl_caseD (t := 17) rfl (fun h103 => ?_) (fun h103 => ?_)
  ·
   refine wl_on (decide_eq_true h103) rfl (xa7 (0) ti3 rfl rfl) rfl ⟨rfl, trivial⟩ ⟨rfl, trivial⟩ trivial rfl (wl_on (decide_eq_true h103) rfl (x9 fo56_1 rfl) rfl ⟨rfl, trivial⟩ trivial trivial rfl (wlG_loadF (decide_eq_true h103) rfl rfl (0) ti3 rfl rfl rfl (At.g 1 rfl rfl) rfl rfl (wl_on (decide_eq_true h103) rfl xd7 rfl ⟨rfl, rfl, trivial⟩ trivial trivial rfl (xf8 (xb2 (decide_eq_true h103)) ⟨rfl, rfl, trivial⟩ trivial trivial rfl (xf8 x4 ⟨rfl, trivial⟩ trivial trivial rfl ?_)))))
   refine wl_caseD (t := 23) rfl (fun h103_2 => ?_) (fun h103_2 => ?_)
   ·
    refine wl_on (decide_eq_true h103_2) rfl x4 rfl ⟨rfl, trivial⟩ trivial trivial rfl (wl_on (decide_eq_true h103_2) rfl x4 rfl ⟨rfl, trivial⟩ trivial trivial rfl (wl_on (decide_eq_true h103_2) rfl (xa7 (0) ti56 rfl rfl) rfl ⟨rfl, trivial⟩ ⟨rfl, trivial⟩ trivial rfl ?_))
    have hon := on_yes h103 h103_2
    refine wl_yield (ts := [tI (i : Int), tDeal (ds.getD i deal0)]) hB (wanted_on rfl (decide_eq_true h103_2) rfl rfl) rfl rfl ⟨rfl, rfl, trivial⟩ rfl rfl (apl_at (by omega) hon).1 (apl_le (by omega) hon) ?_ ?_
    ·
     refine wl_on (decide_eq_true h103_2) rfl xe2 rfl ⟨rfl, trivial⟩ trivial trivial rfl (xf8 (xb2 (decide_eq_true h103_2)) ⟨rfl, rfl, trivial⟩ trivial trivial rfl (wl_nil (x3 (C_bF rfl rfl (xa5 (xc8 (x3 ?_)))))))
     refine x8 ?_
     refine R2 (xc2 (wr64 (by omega) (by omega))) rfl rfl (R1 x4 rfl (x7 (by kernel_rfl) ?_))
     exact xc6 (i + 1) ⟨(by omega), (by omega)⟩ (Sub.int rfl (by first | omega | rfl | (dsimp only; omega)) (Sub.int rfl (by first | omega | rfl | (dsimp only; omega)) (Sub.cons rfl (Sub.cons rfl (Sub.cons rfl (Sub.cons rfl Sub.nil)))))) ((SubK.cons (kq (by rw [apl1_yes hon, List.length_append, List.length_singleton]))) (SubK.cons rfl (SubK.cons rfl SubK.nil))) (SupG.val (SupG.val (SupG.val (SupG.own rfl (SupG.own rfl (SupG.val SupG.nil)))))) (SupH.cons rfl (supJL rfl) (SupH.cons rfl (supJL rfl) (SupH.cons rfl (supJL rfl) SupH.nil))) (lkOk rfl)
    ·
     refine wl_on (decide_eq_true h103_2) rfl xe2 rfl ⟨rfl, trivial⟩ trivial trivial rfl (xf8 (xb2 (decide_eq_true h103_2)) ⟨rfl, rfl, trivial⟩ trivial trivial rfl (wl_nil (x3 (C_bT rfl rfl (xa2 (xc7 (xa3 ?_)))))))
     refine xa3 (xc7 ?_)
     exact E_it hB rfl trivial rfl (.inl rfl) rfl (.inr ⟨(apl1 ds m i).length, (apl_at (by omega) hon).1, rfl⟩)
   ·
    refine wl_off (decide_eq_false h103_2) rfl rfl rfl (wl_off (decide_eq_false h103_2) rfl rfl rfl (wl_off (decide_eq_false h103_2) rfl rfl rfl (wl_off (decide_eq_false h103_2) rfl rfl rfl (wl_off (decide_eq_false h103_2) rfl rfl rfl (xf8 (xc0 (decide_eq_false h103_2)) ⟨rfl, rfl, trivial⟩ trivial trivial rfl (wl_nil (x3 ?_)))))))
    refine C_bF rfl rfl (xa5 (xc8 (x3 ?_)))
    refine x8 ?_
    refine R2 (xc2 (wr64 (by omega) (by omega))) rfl rfl (R1 x4 rfl (x7 (by kernel_rfl) ?_))
    exact xc6 (i + 1) ⟨(by omega), (by omega)⟩ (Sub.int rfl (by first | omega | rfl | (dsimp only; omega)) (Sub.int rfl (by first | omega | rfl | (dsimp only; omega)) (Sub.cons rfl (Sub.cons rfl (Sub.cons rfl (Sub.cons rfl Sub.nil)))))) ((SubK.cons (kq (by rw [apl1_no (on_no2 h103_2)]))) (SubK.cons rfl (SubK.cons rfl SubK.nil))) (SupG.val (SupG.val (SupG.val (SupG.own rfl (SupG.own rfl (SupG.val SupG.nil)))))) (SupH.cons rfl (supJL rfl) (SupH.cons rfl (supJL rfl) (SupH.cons rfl (supJL rfl) SupH.nil))) (lkOk rfl)
  ·
   refine wl_off (decide_eq_false h103) rfl rfl rfl (wl_off (decide_eq_false h103) rfl rfl rfl (wl_off (decide_eq_false h103) rfl rfl rfl (wl_off (decide_eq_false h103) rfl rfl rfl (xf8 (xc0 (decide_eq_false h103)) ⟨rfl, rfl, trivial⟩ trivial trivial rfl (xf8 x4 ⟨rfl, trivial⟩ trivial trivial rfl (wl_off rfl rfl rfl rfl (wl_off rfl rfl rfl rfl ?_)))))))
   refine wl_off rfl rfl rfl rfl (wl_off rfl rfl rfl rfl (wl_off rfl rfl rfl rfl (xf8 (xc0 rfl) ⟨rfl, rfl, trivial⟩ trivial trivial rfl (wl_nil (x3 (C_bF rfl rfl (xa5 ?_)))))))
   refine xc8 (x3 ?_)
   refine x8 ?_
   refine R2 (xc2 (wr64 (by omega) (by omega))) rfl rfl (R1 x4 rfl (x7 (by kernel_rfl) ?_))
   exact xc6 (i + 1) ⟨(by omega), (by omega)⟩ (Sub.int rfl (by first | omega | rfl | (dsimp only; omega)) (Sub.int rfl (by first | omega | rfl | (dsimp only; omega)) (Sub.cons rfl (Sub.cons rfl (Sub.cons rfl (Sub.cons rfl Sub.nil)))))) ((SubK.cons (kq (by rw [apl1_no (on_no1 h103)]))) (SubK.cons rfl (SubK.cons rfl SubK.nil))) (SupG.val (SupG.val (SupG.val (SupG.own rfl (SupG.own rfl (SupG.val SupG.nil)))))) (SupH.cons rfl (supJL rfl) (SupH.cons rfl (supJL rfl) (SupH.cons rfl (supJL rfl) SupH.nil))) (lkOk rfl)
 ·
  refine xd8 (xc1 (xc1 (xe3 ?_)))
  exact E_it hB rfl trivial rfl (.inr rfl) rfl (.inl (by rw [show i = ds.length by omega]; rfl))
end An.S

/- Layer 24: what the divider does. Plain data. -/
namespace An
open Go
/-- What was applied, what was paid, the parts, and the rest. -/
structure Dv where
  b : List Int
  p : List Int
  q : List Int
  r : Int
def shr (l : List Deal) (i : Nat) : Rat := (l.getD i deal0).share.rat
def Dv.n (s : Dv) (i : Nat) : Int := s.b.getD i 0 + s.r
def Dv.pd (l : List Deal) (s : Dv) (i : Nat) : Int := take (shr l i) (s.n i)
def dv1 (l : List Deal) (s : Dv) (i : Nat) : Dv := ⟨s.b.set i (s.n i), s.p.set i (s.pd l i), s.q.set (i + 1) (s.pd l i - s.p.getD i 0), s.r - (s.pd l i - s.p.getD i 0)⟩
def dvRun (l : List Deal) : Dv → List Nat → Dv × Bool
  | s, [] => (s, true)
  | s, i :: r => if wIn (s.n i) then dvRun l (dv1 l s i) r else (⟨s.b.set i (s.n i), s.p, s.q, s.r⟩, false)
structure DvI (l : List Deal) (k : Nat) (s : Dv) : Prop where
  b : s.b.length = l.length
  p : s.p.length = l.length
  q : s.q.length = l.length + 1
  w : ∀ i, i < l.length → wIn (s.b.getD i 0) = true ∧ wIn (s.p.getD i 0) = true
  r : -1099511627776 - (k : Int) * 2199023255552 ≤ s.r ∧ s.r ≤ 1099511627776 + (k : Int) * 2199023255552
theorem wIn_take {q : Rat} {n : Int} (h0 : 0 ≤ q) (h1 : q ≤ 1) (hn : wIn n = true) : wIn (take q n) = true := by
  obtain ⟨h2, h3⟩ := take_bd (n := n) h0 h1
  obtain ⟨h4, h5⟩ := xe8.1 hn
  rw [xe8]
  rcases Int.le_total 0 n with h | h
  · have := h2 h; omega
  · have := h3 h; omega
theorem getD_set_int {l : List Int} {i j : Nat} {x : Int} (h : i < l.length) : (l.set i x).getD j 0 = if j = i then x else l.getD j 0 := by
  rw [List.getD_eq_getElem?_getD, List.getD_eq_getElem?_getD, List.getElem?_set]
  by_cases hij : i = j
  · subst hij; simp [h]
  · rw [if_neg hij, if_neg (fun e => hij e.symm)]
theorem share_nonneg {d : Deal} (hD : d.share.dig) (hv : d.valid = true) : 0 ≤ d.share.rat ∧ d.share.rat ≤ 1 := by
  obtain ⟨_, _, _, v1, v2, v3, _⟩ := Deal.valid_iff.1 hv
  obtain ⟨e, _⟩ := Fr.of_valid' hD v1
  rw [e] at v2
  have h1 : ¬ d.share.rat.num < 0 := of_decide_eq_false v2
  exact ⟨Rat.num_nonneg.1 (by omega), v3⟩
theorem validL_at {l : List Deal} {i : Nat} (h : validL l = true) (hi : i < l.length) : (l.getD i deal0).valid = true := by
  simp only [validL, Bool.and_eq_true, List.all_eq_true] at h
  have e : l.getD i deal0 = l[i] := by simp [hi]
  rw [e]
  exact h.2 _ (List.getElem_mem hi)
theorem shr_bd {l : List Deal} {i : Nat} (hv : validL l = true) (hD : ∀ d ∈ l, d.share.dig) (hi : i < l.length) : 0 ≤ shr l i ∧ shr l i ≤ 1 := by
  have e : l.getD i deal0 = l[i] := by simp [hi]
  exact share_nonneg (by rw [e]; exact hD _ (List.getElem_mem hi)) (validL_at hv hi)
theorem DvI.pd {l : List Deal} {s : Dv} {i : Nat} (hv : validL l = true) (hD : ∀ d ∈ l, d.share.dig) (hi : i < l.length) (hw : wIn (s.n i) = true) : wIn (s.pd l i) = true := by
  obtain ⟨h0, h1⟩ := shr_bd hv hD hi
  exact wIn_take h0 h1 hw
theorem DvI.next {l : List Deal} {k : Nat} {s : Dv} {i : Nat} (h : DvI l k s) (hv : validL l = true) (hD : ∀ d ∈ l, d.share.dig) (hi : i < l.length) (hw : wIn (s.n i) = true) : DvI l (k + 1) (dv1 l s i) := by
  have hp := DvI.pd (s := s) hv hD hi hw
  obtain ⟨h1, h2, h3, h4, h5⟩ := h
  refine ⟨by simp [dv1, h1], by simp [dv1, h2], by simp [dv1, h3], fun j hj => ?_, ?_⟩
  · simp only [dv1]
    rw [getD_set_int (by omega), getD_set_int (by omega)]
    split
    · exact ⟨hw, hp⟩
    · exact h4 j hj
  · have h6 := xe8.1 (h4 i hi).2
    have h7 := xe8.1 hp
    simp only [dv1, Int.natCast_add]
    omega
theorem apl_lt {l : List Deal} {m : Int} {k : Nat} (hk : k < (apl l m).length) : (apl l m).getD k 0 < l.length ∧ (l.getD ((apl l m).getD k 0) deal0).on m = true := by
  have e : (apl l m).getD k 0 = (apl l m)[k] := by simp [hk]
  have h := List.getElem_mem hk
  rw [e]
  have h' := List.mem_filter.1 h
  exact ⟨List.mem_range.1 h'.1, h'.2⟩
theorem apl_len {l : List Deal} {m : Int} : (apl l m).length ≤ l.length := by
  have := List.length_filter_le (fun j => (l.getD j deal0).on m) (List.range l.length)
  rw [List.length_range] at this; exact this
theorem drop_at {is : List Nat} {k : Nat} (hk : k < is.length) : is.drop k = is.getD k 0 :: is.drop (k + 1) := by
  rw [List.drop_eq_getElem_cons hk]; simp [hk]
theorem run_yes {l : List Deal} {s : Dv} {is : List Nat} {k : Nat} {X : Dv × Bool} (hk : k < is.length) (h : dvRun l s (is.drop k) = X) (hw : wIn (s.n (is.getD k 0)) = true) : dvRun l (dv1 l s (is.getD k 0)) (is.drop (k + 1)) = X := by
  rw [drop_at hk, dvRun, if_pos hw] at h; exact h
theorem run_no {l : List Deal} {s : Dv} {is : List Nat} {k : Nat} {X : Dv × Bool} (hk : k < is.length) (h : dvRun l s (is.drop k) = X) (hw : wIn (s.n (is.getD k 0)) = false) : X = (⟨s.b.set (is.getD k 0) (s.n (is.getD k 0)), s.p, s.q, s.r⟩, false) := by
  rw [drop_at hk, dvRun, if_neg (by rw [hw]; exact Bool.false_ne_true)] at h; exact h.symm
theorem run_end {l : List Deal} {s : Dv} {is : List Nat} {X : Dv × Bool} (h : dvRun l s (is.drop is.length) = X) : X = (s, true) := by
  rw [List.drop_length, dvRun] at h; exact h.symm
end An

/- Package split: the divider. -/
namespace An.S
open Go Go.Proofs An
set_option maxHeartbeats 2000000
theorem ti127 : TyI Tryz.prog 127 1 false := ⟨by kernel_rfl, by kernel_rfl⟩
theorem fo71_0 : fieldO Tryz.prog 71 0 = some 0 := by kernel_rfl
theorem fo71_1 : fieldO Tryz.prog 71 1 = some 3 := by kernel_rfl
theorem fi72 : FnI Tryz.prog 72 := ⟨_, Tryz.func72, by kernel_rfl, rfl⟩
theorem fi117 : FnI Tryz.prog 117 := ⟨_, Tryz.func117, by kernel_rfl, rfl⟩
theorem zr3 : (Tryz.prog.info? 3).bind (·.zero) = some (.int .i64 0) ∧ ∀ F w, (tE (.int .i64 0)).p F w (.int .i64 0) := ⟨by kernel_rfl, fun _ _ => rfl⟩
theorem zr4 : (Tryz.prog.info? 4).bind (·.zero) = some (.bool false) ∧ ∀ F w, (tE (.bool false)).p F w (.bool false) := ⟨by kernel_rfl, fun _ _ => rfl⟩
theorem zr23 : (Tryz.prog.info? 23).bind (·.zero) = some (.slice none 0 0) ∧ ∀ F w, (tIs []).p F w (.slice none 0 0) := ⟨by kernel_rfl, fun _ _ => ⟨none, 0, rfl, Nat.le_refl _, by decide, .inl rfl⟩⟩
theorem rI_get_set {xs : List Int} {i : Nat} {m : Int} (h : i < xs.length) : (rI (xs.set i m))[i]? = some (.val (tI m)) := by
  rw [rI, List.getElem?_map, List.getElem?_set_self h]; rfl
def dvAll (l : List Deal) (m : Int) (b p : List Int) (a : Int) : Dv × Bool := dvRun l ⟨b, p, List.replicate (l.length + 1) 0, a⟩ (apl l m)
theorem c_divideS (l : List Deal) (m a o : Int) (b p : List Int) (hv : validL l = true) (hd : ∀ d ∈ l, d.share.dig) (hb : b.length = l.length) (hp : p.length = l.length) (hw0 : ∀ i, i < l.length → wIn (b.getD i 0) = true ∧ wIn (p.getD i 0) = true) (ho : wIn o = true) (ha : wIn a = true) :
  CtG Tryz.prog 33 [(100, ⟨71, 1, false, [.val (tI o), .own (.sl 101 1 0 l.length), .own (.sl 102 1 0 l.length), .val (tL 7 true tDeal l)]⟩), (101, ⟨3, 1, false, rI b⟩), (102, ⟨3, 1, false, rI p⟩)] [.own (.ptr 100 0), .val (tI m), .val (tI a)] (.val (tT [tIs (bif (dvAll l m b p a).2 then (dvAll l m b p a).1.q.set 0 (dvAll l m b p a).1.r else []), tB ((dvAll l m b p a).2 && wIn (o + (dvAll l m b p a).1.r))])) [(100, ⟨71, 1, false, [.val (tI (bif (dvAll l m b p a).2 then o + (dvAll l m b p a).1.r else o)), .own (.sl 101 1 0 l.length), .own (.sl 102 1 0 l.length), .val (tL 7 true tDeal l)]⟩), (101, ⟨3, 1, false, rI (dvAll l m b p a).1.b⟩), (102, ⟨3, 1, false, rI (dvAll l m b p a).1.p⟩)] [] := by
 refine CtG.intro [100, 101, 102] Tryz.func33 rfl Tryz.ntmps33 rfl rfl ⟨⟨rfl, (SupX.lit rfl)⟩, ⟨rfl, xh6⟩, ⟨rfl, xh6⟩, trivial⟩ ?_
 intro w F η
 have hl16 := xi6 hv
 obtain ⟨a1, a2⟩ := xe8.1 ha
 obtain ⟨o1, o2⟩ := xe8.1 ho
 have hI0 : DvI l 0 ⟨b, p, List.replicate (l.length + 1) 0, a⟩ := ⟨hb, hp, List.length_replicate, hw0, by simp only [Int.natCast_zero]; omega⟩
 refine x6 ?_
 refine x8 ?_
 refine RE (xd4 (k := 3) ti127 rfl) ⟨rfl, trivial⟩ trivial ⟨rfl, trivial⟩ (RE (xc4 (k := 6) (n := 1) (agg := false) zr23.1 zr23.2 rfl) trivial trivial ⟨rfl, trivial⟩ (RE (xc4 (k := 7) (n := 1) (agg := false) zr4.1 zr4.2 rfl) trivial trivial ⟨rfl, trivial⟩ (x7 (by kernel_rfl) (x3 (x6 ?_)))))
 refine x8 ?_
 refine RE (xa7 (0) ti127 rfl rfl) ⟨rfl, trivial⟩ ⟨rfl, trivial⟩ trivial (R1 xh0 rfl (R1 (x9 fo71_1 rfl) rfl (RE (xa7 (3) ti22 rfl rfl) ⟨rfl, trivial⟩ ⟨rfl, trivial⟩ trivial (R1 (xb7 Tryz.underlying22) rfl (R2 (xc2 (wr64 (by omega) (by omega))) rfl rfl (RE (d_makeO (k := 19) (t := tE (.int .i64 0)) (ts := rI (List.replicate (l.length + 1) 0)) (l.length + 1) (l.length + 1) Tryz.underlying23 el3 (fun _ _ => rfl) rfl (by omega) (by omega) (Nat.le_refl _) (by omega) (by omega) (rI_rep _)) ⟨rfl, rfl, trivial⟩ trivial ⟨rfl, trivial⟩ (RE (xc4 (k := 8) (n := 1) (agg := false) zr23.1 zr23.2 rfl) trivial trivial ⟨rfl, trivial⟩ ?_)))))))
 refine RE (xa6 (es := 1) (agg := false) (0) ti23 rfl rfl rfl) ⟨rfl, rfl, trivial⟩ ⟨rfl, trivial⟩ trivial (x7 (by kernel_rfl) (x3 (x6 ?_)))
 refine x8 ?_
 refine R1 x4 rfl (RE (xc4 (k := 9) (n := 1) (agg := false) zr3.1 zr3.2 rfl) trivial trivial ⟨rfl, trivial⟩ (RE (xa6 (es := 1) (agg := false) (0) ti3 rfl rfl rfl) ⟨rfl, rfl, trivial⟩ ⟨rfl, trivial⟩ trivial (x7 (by kernel_rfl) (x3 (x6 (x6 ?_))))))
 refine x8 ?_
 refine RE (xa7 (0) ti127 rfl rfl) ⟨rfl, trivial⟩ ⟨rfl, trivial⟩ trivial (R1 xh0 rfl (R1 (x9 fo71_1 rfl) rfl (RE (xa7 (3) ti22 rfl rfl) ⟨rfl, trivial⟩ ⟨rfl, trivial⟩ trivial (R1 x4 rfl (RE (xi0 (fun j => cond (Nat.beq j 2) 26 (1026)) (c_applying l m) fi72 rfl (krN (ρ := fun j => cond (Nat.beq j 2) 26 (1026))) (krC (ρ := fun j => cond (Nat.beq j 2) 26 (1026)) (k := 2) rfl (krC (ρ := fun j => cond (Nat.beq j 2) 26 (1026)) (k := 3) rfl (krN (ρ := fun j => cond (Nat.beq j 2) 26 (1026))))) ⟨⟨rfl, (SupX.lit rfl)⟩, ⟨rfl, (SupX.lit rfl)⟩, trivial⟩ rfl) ⟨rfl, rfl, trivial⟩ trivial ⟨rfl, rfl, trivial⟩ (x7 (by kernel_rfl) (x3 ?_)))))))
 refine xb3 ?_
 refine C_range (caps := [.ptr 1 0, .ptr 2 0]) (κ := Unit) (fun j => cond (Nat.beq j 2) 1026 (cond (Nat.beq j 1) 26 (j))) rfl (fun _ h => h) trivial (i_applying l m hl16) fi117 rfl ⟨rfl, rfl, trivial⟩ rfl rfl (fun _ _ => rfl) (upd (upd (upd (upd (upd (fun _ => none) 3 (some (.own (.ptr 3 0)))) 6 (some (.own (.ptr 6 0)))) 7 (some (.own (.ptr 7 0)))) 8 (some (.own (.ptr 8 0)))) 9 (some (.own (.ptr 9 0)))) [3, 6, 7, 8, 9, 19, 100, 101, 102] [3, 6, 7, 8, 9] (Sub.cons rfl (Sub.cons rfl (Sub.cons rfl (Sub.cons rfl (Sub.cons rfl Sub.nil))))) (SupG.own rfl (SupG.own rfl (SupG.own rfl (SupG.own rfl (SupG.own rfl SupG.nil))))) rfl (lkOk rfl) (fun (k : Nat) (s : Dv) => DvI l k s ∧ dvRun l s ((apl l m).drop k) = (dvAll l m b p a)) (fun (k : Nat) (s : Dv) => upd (upd (upd (upd (upd (upd (upd (upd (upd (fun _ => none) 3 (some (⟨127, 1, false, [.own (.ptr 100 0)]⟩))) 6 (some (⟨23, 1, false, [.val (tIs [])]⟩))) 7 (some (⟨4, 1, false, [.val (tE (.bool false))]⟩))) 8 (some (⟨23, 1, false, [.own (.sl 19 1 0 (l.length + 1))]⟩))) 9 (some (⟨3, 1, false, [.val (tI s.r)]⟩))) 19 (some (⟨3, 1, false, rI s.q⟩))) 100 (some (⟨71, 1, false, [.val (tI o), .own (.sl 101 1 0 l.length), .own (.sl 102 1 0 l.length), .val (tL 7 true tDeal l)]⟩))) 101 (some (⟨3, 1, false, rI s.b⟩))) 102 (some (⟨3, 1, false, rI s.p⟩))) (fun k x => (SupH.cons rfl (supJ xh6) (SupH.cons rfl (supJ xh6) (SupH.cons rfl (supJL rfl) (SupH.cons rfl (supJ xh6) (SupH.cons rfl (supJL rfl) (SupH.cons rfl (supJL rfl) (SupH.cons rfl (supJL rfl) (SupH.cons rfl (supJL rfl) (SupH.cons rfl (supJL rfl) SupH.nil)))))))))) (fun k x y hy => by simp only [List.mem_cons, List.not_mem_nil, or_false] at hy; rcases hy with rfl | rfl <;> rfl) (fun e (_ : Unit) => e = .ret ∧ (dvAll l m b p a).2 = false) (fun (_ : Unit) => upd (upd (upd (upd (upd (fun _ => none) 6 (some (⟨23, 1, false, [.val (tE (.slice none 0 0))]⟩))) 7 (some (⟨4, 1, false, [.val (tE (.bool false))]⟩))) 100 (some (⟨71, 1, false, [.val (tI o), .own (.sl 101 1 0 l.length), .own (.sl 102 1 0 l.length), .val (tL 7 true tDeal l)]⟩))) 101 (some (⟨3, 1, false, rI (dvAll l m b p a).1.b⟩))) 102 (some (⟨3, 1, false, rI (dvAll l m b p a).1.p⟩))) (fun _ _ h => .inl h.1) (⟨b, p, List.replicate (l.length + 1) 0, a⟩) ⟨hI0, rfl⟩ (SubK.cons rfl (SubK.cons rfl (SubK.cons rfl (SubK.cons rfl (SubK.cons rfl (SubK.cons rfl (SubK.cons rfl (SubK.cons rfl (SubK.cons rfl SubK.nil))))))))) ?_ ?_ ?_
 ·
  intro D lp o1 o2 O W lη lb V0 k s hk hI
  obtain ⟨hv1, hrun⟩ := hI
  have hbl := hv1.b
  have hpl := hv1.p
  have hql := hv1.q
  have hr := hv1.r
  have hN := apl_len (l := l) (m := m)
  obtain ⟨hi, hon⟩ := apl_lt hk
  have hbw := xe8.1 (hv1.w _ hi).1
  have hpw := xe8.1 (hv1.w _ hi).2
  apply rnd_mk
  ·
   refine x6 ?_
   refine x8 ?_
   refine R1 x5 rfl (x7 (by kernel_rfl) (x3 ?_))
   refine x8 ?_
   refine RE (xc4 (k := 11) (n := 7) (agg := true) zr56.1 zr56.2 rfl) trivial trivial ⟨rfl, trivial⟩ (RE (xa6 (es := 7) (agg := true) (0) ti56 rfl rfl rfl) ⟨rfl, rfl, trivial⟩ ⟨rfl, trivial⟩ trivial (x7 (by kernel_rfl) ?_))
   exact K_thenF fun _ _ h => h
  ·
   refine xb3 (x6 ?_)
   refine xc9 mixed ?_
   refine RE (xa7 (0) ti127 rfl rfl) ⟨rfl, trivial⟩ ⟨rfl, trivial⟩ trivial (R1 xh0 rfl (R1 (x9 fo71_0 rfl) rfl (R1 (x9 fo27_1 rfl) rfl (RE (xa7 (1) ti23 rfl rfl) ⟨rfl, trivial⟩ ⟨rfl, trivial⟩ trivial (R1 x4 rfl (R2 (xd0 sl23 (by omega) (by omega) rfl) rfl rfl (RE (xa7 (((apl l m).getD k 0)) ti3 (rI_get (by omega)) (by omega)) ⟨rfl, trivial⟩ ⟨rfl, trivial⟩ trivial ?_)))))))
   refine RE (xa7 (0) ti3 rfl rfl) ⟨rfl, trivial⟩ ⟨rfl, trivial⟩ trivial (R2 (xc2 (wr64 (by omega) (by omega))) rfl rfl (R2 (xd0 sl23 (by omega) (by omega) rfl) rfl rfl (RE (xa6 (((apl l m).getD k 0)) ti3 (rI_lt (by omega)) (by omega) (rI_set (m := (s.n ((apl l m).getD k 0))) rfl)) ⟨rfl, rfl, trivial⟩ ⟨rfl, trivial⟩ trivial (xd1 (by kernel_rfl) (x3 (x6 (x6 ?_)))))))
   refine x8 ?_
   refine RE (xa7 (0) ti127 rfl rfl) ⟨rfl, trivial⟩ ⟨rfl, trivial⟩ trivial (R1 xh0 rfl (R1 (x9 fo71_0 rfl) rfl (R1 (x9 fo27_1 rfl) rfl (RE (xa7 (1) ti23 rfl rfl) ⟨rfl, trivial⟩ ⟨rfl, trivial⟩ trivial (R1 x4 rfl (R2 (xd0 sl23 (by omega) (by omega) rfl) rfl rfl (RE (xa7 (((apl l m).getD k 0)) ti3 (rI_get_set (by omega)) (by omega)) ⟨rfl, trivial⟩ ⟨rfl, trivial⟩ trivial ?_)))))))
   refine R1 (xa0 (c_within _) fi31 rfl) rfl (R1 xe2 rfl (x7 (by kernel_rfl) (x3 ?_)))
   refine xf0 rfl (fun h116 => ?_) (fun h116 => ?_)
   ·
    have hw : wIn (s.n ((apl l m).getD k 0)) = false := by rw [Bool.not_eq_true'] at h116; exact h116
    refine x6 ?_
    refine x8 ?_
    refine RE (xa6 (es := 1) (agg := false) (0) ti23 rfl rfl rfl) ⟨rfl, rfl, trivial⟩ ⟨rfl, trivial⟩ trivial (RE (xa6 (es := 1) (agg := false) (0) ti4 rfl rfl rfl) ⟨rfl, rfl, trivial⟩ ⟨rfl, trivial⟩ trivial (x7 (by kernel_rfl) (x3 (xa2 (xa3 (xc7 ?_))))))
    exact K_rndX (()) (.inl rfl) (⟨rfl, by rw [run_no hk hrun hw]⟩) ((SubK.cons (by rw [run_no hk hrun hw]; rfl)) ((SubK.cons (by rw [run_no hk hrun hw]; rfl)) (SubK.cons rfl (SubK.cons rfl (SubK.cons rfl SubK.nil))))) (SupH.cons rfl (supJ xh6) (SupH.cons rfl (supJ xh6) (SupH.cons rfl (supJL rfl) (SupH.cons rfl (supJL rfl) (SupH.cons rfl (supJL rfl) SupH.nil))))) (lkOk rfl)
   ·
    have hw : wIn (s.n ((apl l m).getD k 0)) = true := by rw [Bool.not_eq_false'] at h116; exact h116
    have hpd2 := xe8.1 (DvI.pd (s := s) hv hd hi hw)
    have hpd : -1099511627776 ≤ take (l.getD ((apl l m).getD k 0) deal0).share.rat (s.n ((apl l m).getD k 0)) ∧ take (l.getD ((apl l m).getD k 0) deal0).share.rat (s.n ((apl l m).getD k 0)) ≤ 1099511627776 := xe8.1 (DvI.pd hv hd hi hw)
    refine xa5 (x3 (x6 ?_))
    refine xc9 mixed ?_
    refine R1 (x9 fo56_2 rfl) rfl (xa4 (0) ti49 rfl rfl rfl (At.g 2 rfl rfl) rfl (RE (xa7 (0) ti127 rfl rfl) ⟨rfl, trivial⟩ ⟨rfl, trivial⟩ trivial (R1 xh0 rfl (R1 (x9 fo71_0 rfl) rfl (R1 (x9 fo27_1 rfl) rfl (RE (xa7 (1) ti23 rfl rfl) ⟨rfl, trivial⟩ ⟨rfl, trivial⟩ trivial (R1 x4 rfl ?_)))))))
    refine R2 (xd0 sl23 (by omega) (by omega) rfl) rfl rfl (RE (xa7 (((apl l m).getD k 0)) ti3 (rI_get_set (by omega)) (by omega)) ⟨rfl, trivial⟩ ⟨rfl, trivial⟩ trivial (R2 (xa0 (c_takeV _ (hd _ (getD_mem (l := l) (i := ((apl l m).getD k 0)) (d := deal0) (by omega))) (validL_at hv (by omega)) _ hw) fi83 rfl) rfl rfl (R1 x5 rfl (xd1 (by kernel_rfl) (x3 (x6 ?_))))))
    refine xc9 mixed ?_
    refine RE (xa7 (0) ti23 rfl rfl) ⟨rfl, trivial⟩ ⟨rfl, trivial⟩ trivial (R1 x4 rfl (R2 (xc2 (wr64 (by omega) (by omega))) rfl rfl (R1 x4 rfl (RE (xa7 (0) ti127 rfl rfl) ⟨rfl, trivial⟩ ⟨rfl, trivial⟩ trivial (R1 xh0 rfl (R1 (x9 fo71_0 rfl) rfl (R1 (x9 fo27_2 rfl) rfl ?_)))))))
    refine RE (xa7 (2) ti23 rfl rfl) ⟨rfl, trivial⟩ ⟨rfl, trivial⟩ trivial (R1 x4 rfl (R2 (xd0 sl23 (by omega) (by omega) rfl) rfl rfl (RE (xa7 (((apl l m).getD k 0)) ti3 (rI_get (by omega)) (by omega)) ⟨rfl, trivial⟩ ⟨rfl, trivial⟩ trivial (R2 (xe4 (wr64 (by omega) (by omega))) rfl rfl (R2 (xd0 sl23 (by omega) (by omega) rfl) rfl rfl (RE (xa6 (((apl l m).getD k 0) + 1) ti3 (rI_lt (by omega)) (by omega) (rI_set (m := (s.pd l ((apl l m).getD k 0) - s.p.getD ((apl l m).getD k 0) 0)) rfl)) ⟨rfl, rfl, trivial⟩ ⟨rfl, trivial⟩ trivial (xd1 (by kernel_rfl) ?_)))))))
    refine x3 (x6 ?_)
    refine x8 ?_
    refine RE (xa7 (0) ti127 rfl rfl) ⟨rfl, trivial⟩ ⟨rfl, trivial⟩ trivial (R1 xh0 rfl (R1 (x9 fo71_0 rfl) rfl (R1 (x9 fo27_2 rfl) rfl (RE (xa7 (2) ti23 rfl rfl) ⟨rfl, trivial⟩ ⟨rfl, trivial⟩ trivial (R1 x4 rfl (R1 x4 rfl (R2 (xd0 sl23 (by omega) (by omega) rfl) rfl rfl ?_)))))))
    refine RE (xa6 (((apl l m).getD k 0)) ti3 (rI_lt (by omega)) (by omega) (rI_set (m := (s.pd l ((apl l m).getD k 0))) rfl)) ⟨rfl, rfl, trivial⟩ ⟨rfl, trivial⟩ trivial (x7 (by kernel_rfl) (x3 ?_))
    refine xc9 mixed ?_
    refine RE (xa7 (0) ti3 rfl rfl) ⟨rfl, trivial⟩ ⟨rfl, trivial⟩ trivial (RE (xa7 (0) ti23 rfl rfl) ⟨rfl, trivial⟩ ⟨rfl, trivial⟩ trivial (R1 x4 rfl (R2 (xc2 (wr64 (by omega) (by omega))) rfl rfl (R2 (xd0 sl23 (by omega) (by omega) rfl) rfl rfl (RE (xa7 (((apl l m).getD k 0) + 1) ti3 (rI_get_set (by omega)) (by omega)) ⟨rfl, trivial⟩ ⟨rfl, trivial⟩ trivial (R2 (xe4 (wr64 (by omega) (by omega))) rfl rfl (RE (xa6 (es := 1) (agg := false) (0) ti3 rfl rfl rfl) ⟨rfl, rfl, trivial⟩ ⟨rfl, trivial⟩ trivial ?_)))))))
    refine xd1 (by kernel_rfl) (xc8 ?_)
    exact K_rnd (dv1 l s ((apl l m).getD k 0)) ⟨hv1.next hv hd hi hw, run_yes hk hrun hw⟩ (SubK.cons rfl (SubK.cons rfl (SubK.cons rfl (SubK.cons rfl (SubK.cons rfl (SubK.cons rfl (SubK.cons rfl (SubK.cons rfl (SubK.cons rfl SubK.nil))))))))) (SupH.cons rfl (supJ xh6) (SupH.cons rfl (supJ xh6) (SupH.cons rfl (supJL rfl) (SupH.cons rfl (supJ xh6) (SupH.cons rfl (supJL rfl) (SupH.cons rfl (supJL rfl) (SupH.cons rfl (supJL rfl) (SupH.cons rfl (supJL rfl) (SupH.cons rfl (supJL rfl) SupH.nil))))))))) (lkOk rfl)
 ·
  intro D hD s hI
  obtain ⟨hv1, hrun⟩ := hI
  have hbl := hv1.b
  have hpl := hv1.p
  have hql := hv1.q
  have hr := hv1.r
  have hN := apl_len (l := l) (m := m)
  have hR := run_end hrun
  refine xc8 (x3 (x6 ?_))
  refine x8 ?_
  refine RE (xa7 (0) ti23 rfl rfl) ⟨rfl, trivial⟩ ⟨rfl, trivial⟩ trivial (RE (xa7 (0) ti3 rfl rfl) ⟨rfl, trivial⟩ ⟨rfl, trivial⟩ trivial (R2 (xd0 sl23 (by omega) (by omega) rfl) rfl rfl (RE (xa6 (0) ti3 (rI_lt (by omega)) (by omega) (rI_set (m := s.r) rfl)) ⟨rfl, rfl, trivial⟩ ⟨rfl, trivial⟩ trivial (x7 (by kernel_rfl) (x3 (x6 ?_))))))
  refine xc9 mixed ?_
  refine RE (xa7 (0) ti127 rfl rfl) ⟨rfl, trivial⟩ ⟨rfl, trivial⟩ trivial (R1 xh0 rfl (R1 (x9 fo71_0 rfl) rfl (R1 (x9 fo27_0 rfl) rfl (RE (xa7 (0) ti3 rfl rfl) ⟨rfl, trivial⟩ ⟨rfl, trivial⟩ trivial (RE (xa7 (0) ti3 rfl rfl) ⟨rfl, trivial⟩ ⟨rfl, trivial⟩ trivial (R2 (xc2 (wr64 (by omega) (by omega))) rfl rfl (R1 xh0 rfl ?_)))))))
  refine R1 (x9 fo71_0 rfl) rfl (R1 (x9 fo27_0 rfl) rfl (RE (xa6 (es := 1) (agg := false) (0) ti3 rfl rfl rfl) ⟨rfl, rfl, trivial⟩ ⟨rfl, trivial⟩ trivial (xd1 (by kernel_rfl) (x3 (x6 ?_)))))
  refine xc9 mixed ?_
  refine RE (xa7 (0) ti23 rfl rfl) ⟨rfl, trivial⟩ ⟨rfl, trivial⟩ trivial (RE (xa7 (0) ti127 rfl rfl) ⟨rfl, trivial⟩ ⟨rfl, trivial⟩ trivial (R1 xh0 rfl (R1 (x9 fo71_0 rfl) rfl (R1 (x9 fo27_0 rfl) rfl (RE (xa7 (0) ti3 rfl rfl) ⟨rfl, trivial⟩ ⟨rfl, trivial⟩ trivial (R1 (xa0 (c_within _) fi31 rfl) rfl (RE (xa6 (es := 1) (agg := false) (0) ti23 rfl rfl rfl) ⟨rfl, rfl, trivial⟩ ⟨rfl, trivial⟩ trivial ?_)))))))
  refine RE (xa6 (es := 1) (agg := false) (0) ti4 rfl rfl rfl) ⟨rfl, rfl, trivial⟩ ⟨rfl, trivial⟩ trivial (xd1 (by kernel_rfl) (x3 (C_giveC (q := 6) (j := 19) (f := fun n : Int => tI n) (xs := s.q.set 0 s.r) 0 rfl rfl rfl rfl (NoLbK.lent (LentC.loop LentC.mk' hD) rfl rfl rfl) (rI_all (by rw [List.length_set]; exact hql)) (by rw [List.length_set]; exact hql) rfl (xa2 ?_))))
  exact E_retGN (LentC.loop LentC.mk' hD) (rs := [.cell 6 23, .cell 7 4]) rfl rfl ⟨⟨_, _, _, _, _, rfl, rfl, ti23, (Le.of (by rw [hR]; rfl))⟩, ⟨_, _, _, _, _, rfl, rfl, ti4, (Le.bool (by rw [hR]; rfl))⟩, trivial⟩ ⟨(by rw [hR]; rfl), (by rw [hR]; rfl), (by rw [hR]; rfl), trivial⟩ ⟨⟨rfl, (SupX.lit rfl)⟩, ⟨rfl, xh6⟩, ⟨rfl, xh6⟩, trivial⟩ rfl
 ·
  intro D hD e i hi
  obtain ⟨rfl, hx⟩ := hi
  refine xc7 (xa3 ?_)
  exact E_retGN (LentC.loop LentC.mk' hD) (rs := [.cell 6 23, .cell 7 4]) rfl rfl ⟨⟨_, _, _, _, _, rfl, rfl, ti23, (leNil (by rw [hx]; rfl))⟩, ⟨_, _, _, _, _, rfl, rfl, ti4, (Le.bool (by rw [hx]; rfl))⟩, trivial⟩ ⟨(by rw [hx]; rfl), rfl, rfl, trivial⟩ ⟨⟨rfl, (SupX.lit rfl)⟩, ⟨rfl, xh6⟩, ⟨rfl, xh6⟩, trivial⟩ rfl
end An.S

/- Package split: a step. -/
namespace An.S
open Go Go.Proofs An
set_option maxHeartbeats 2000000
theorem ti71 : TyI Tryz.prog 71 4 true := ⟨by kernel_rfl, by kernel_rfl⟩
theorem fi30 : FnI Tryz.prog 30 := ⟨_, Tryz.func30, by kernel_rfl, rfl⟩
theorem fi32 : FnI Tryz.prog 32 := ⟨_, Tryz.func32, by kernel_rfl, rfl⟩
theorem fi33 : FnI Tryz.prog 33 := ⟨_, Tryz.func33, by kernel_rfl, rfl⟩
theorem zr71 : (Tryz.prog.info? 71).bind (·.zero) = some (.agg #[.int .i64 0, .slice none 0 0, .slice none 0 0, .slice none 0 0]) ∧ ∀ F w, (tS [⟨3, true, (tS [⟨1, false, (tE (.int .i64 0))⟩, ⟨1, false, (tIs [])⟩, ⟨1, false, (tIs [])⟩])⟩, ⟨1, false, (tE (.slice none 0 0))⟩]).p F w (.agg #[.int .i64 0, .slice none 0 0, .slice none 0 0, .slice none 0 0]) := ⟨by kernel_rfl, fun _ _ => ⟨_, rfl, rfl, ⟨fun h => Bool.noConfusion h, ⟨_, rfl, rfl, ⟨fun _ => rfl, rfl⟩, ⟨fun _ => rfl, ⟨none, 0, rfl, Nat.le_refl _, by decide, .inl rfl⟩⟩, ⟨fun _ => rfl, ⟨none, 0, rfl, Nat.le_refl _, by decide, .inl rfl⟩⟩, trivial⟩⟩, ⟨fun _ => rfl, rfl⟩, trivial⟩⟩
theorem bu71 : BuI Tryz.prog 71 (fun i => [(0, 3), (3, 1)][i]?) (.agg #[.int .i64 0, .slice none 0 0, .slice none 0 0, .slice none 0 0]) := BuI.struct Tryz.underlying71 (by kernel_rfl) (by kernel_rfl)
theorem run_len {l : List Deal} : ∀ (is : List Nat) (s : Dv), (dvRun l s is).1.b.length = s.b.length ∧ (dvRun l s is).1.p.length = s.p.length ∧ (dvRun l s is).1.q.length = s.q.length
  | [], s => ⟨rfl, rfl, rfl⟩
  | i :: r, s => by
    rw [dvRun]
    split
    · obtain ⟨h1, h2, h3⟩ := run_len r (dv1 l s i)
      exact ⟨h1.trans (by simp [dv1]), h2.trans (by simp [dv1]), h3.trans (by simp [dv1])⟩
    · exact ⟨by simp, rfl, rfl⟩
/-- What a step answers: the new state, the parts, the error. -/
def stepBad (l : List Deal) (o : Int) (b p : List Int) (m a : Int) : Bool := !rightL l o b p || decide (m < 0) || decide (1048576 < m) || !wIn a
def stepOk (l : List Deal) (o : Int) (b p : List Int) (m a : Int) : Bool := (dvAll l m b p a).2 && wIn (o + (dvAll l m b p a).1.r)
def stepE (l : List Deal) (o : Int) (b p : List Int) (m a : Int) : Int := bif stepBad l o b p m a then 2 else bif stepOk l o b p m a then 0 else 4
def stepG (l : List Deal) (o : Int) (b p : List Int) (m a : Int) : Bool := !stepBad l o b p m a && stepOk l o b p m a
def stepO (l : List Deal) (o : Int) (b p : List Int) (m a : Int) : Int := bif stepG l o b p m a then o + (dvAll l m b p a).1.r else 0
def stepB (l : List Deal) (o : Int) (b p : List Int) (m a : Int) : List Int := bif stepG l o b p m a then (dvAll l m b p a).1.b else []
def stepP (l : List Deal) (o : Int) (b p : List Int) (m a : Int) : List Int := bif stepG l o b p m a then (dvAll l m b p a).1.p else []
def stepQ (l : List Deal) (o : Int) (b p : List Int) (m a : Int) : List Int := bif stepG l o b p m a then (dvAll l m b p a).1.q.set 0 (dvAll l m b p a).1.r else []
theorem step_bad {l : List Deal} {o : Int} {b p : List Int} {m a : Int} (h : stepBad l o b p m a = true) : stepO l o b p m a = 0 ∧ stepB l o b p m a = [] ∧ stepP l o b p m a = [] ∧ stepQ l o b p m a = [] ∧ stepE l o b p m a = 2 := by
  have hg : stepG l o b p m a = false := by rw [stepG, h]; rfl
  simp only [stepO, stepB, stepP, stepQ, stepE, hg, h, cond_true, cond_false, and_self]
theorem step_full {l : List Deal} {o : Int} {b p : List Int} {m a : Int} (h : stepBad l o b p m a = false) (h2 : stepOk l o b p m a = false) : stepO l o b p m a = 0 ∧ stepB l o b p m a = [] ∧ stepP l o b p m a = [] ∧ stepQ l o b p m a = [] ∧ stepE l o b p m a = 4 := by
  have hg : stepG l o b p m a = false := by rw [stepG, h, h2]; rfl
  simp only [stepO, stepB, stepP, stepQ, stepE, hg, h, h2, cond_false, and_self]
theorem step_good {l : List Deal} {o : Int} {b p : List Int} {m a : Int} (h : stepBad l o b p m a = false) (h2 : stepOk l o b p m a = true) : stepO l o b p m a = o + (dvAll l m b p a).1.r ∧ stepB l o b p m a = (dvAll l m b p a).1.b ∧ stepP l o b p m a = (dvAll l m b p a).1.p ∧ stepQ l o b p m a = (dvAll l m b p a).1.q.set 0 (dvAll l m b p a).1.r ∧ stepE l o b p m a = 0 ∧ (dvAll l m b p a).2 = true := by
  have hg : stepG l o b p m a = true := by rw [stepG, h, h2]; rfl
  have h3 := (Bool.and_eq_true_iff.1 h2).1
  simp only [stepO, stepB, stepP, stepQ, stepE, hg, h, h2, h3, cond_true, cond_false, and_self]
theorem xj2 {l : List Deal} {o : Int} {b p : List Int} (hd : ∀ d ∈ l, d.share.dig) (h : rightL l o b p = true) : validL l = true ∧ b.length = l.length ∧ p.length = l.length ∧ wIn o = true ∧ ∀ i, i < l.length → wIn (b.getD i 0) = true ∧ p.getD i 0 = take (shr l i) (b.getD i 0) := by
  simp only [rightL, Bool.and_eq_true, decide_eq_true_eq, List.all_eq_true, List.mem_range] at h
  obtain ⟨⟨⟨⟨h1, h2⟩, h3⟩, h4⟩, h5⟩ := h
  have _ := hd
  exact ⟨h1, h2, h3, h4, fun i hi => h5 i hi⟩
theorem right_in {l : List Deal} {o : Int} {b p : List Int} (hd : ∀ d ∈ l, d.share.dig) (h : rightL l o b p = true) : ∀ i, i < l.length → wIn (b.getD i 0) = true ∧ wIn (p.getD i 0) = true := fun i hi => by
  obtain ⟨h1, _, _, _, h5⟩ := xj2 hd h
  obtain ⟨h6, h7⟩ := h5 i hi
  obtain ⟨q0, q1⟩ := shr_bd h1 hd hi
  exact ⟨h6, by rw [h7]; exact wIn_take q0 q1 h6⟩
theorem c_Step (l : List Deal) (o : Int) (b p : List Int) (m a : Int) (hd : ∀ d ∈ l, d.share.dig) :
  Ct Tryz.prog 11 [tL 7 true tDeal l, tState o b p, tI m, tI a] (tT [tState (stepO l o b p m a) (stepB l o b p m a) (stepP l o b p m a), tIs (stepQ l o b p m a), tI (stepE l o b p m a)]) := by
 refine Ct.intro Tryz.func11 rfl Tryz.ntmps11 rfl ?_
 intro w F
 refine x6 ?_
 refine x8 ?_
 refine RE (xd4 (k := 5) ti27 rfl) ⟨rfl, trivial⟩ trivial ⟨rfl, trivial⟩ (RE (xc4 (k := 8) (n := 3) (agg := true) zr27.1 zr27.2 rfl) trivial trivial ⟨rfl, trivial⟩ (R1 x5 rfl (R1 x5 rfl (x7 (by kernel_rfl) (x3 (x6 (x6 ?_)))))))
 refine x8 ?_
 refine R1 x4 rfl (RE (xa7 (0) ti27 rfl rfl) ⟨rfl, trivial⟩ ⟨rfl, trivial⟩ trivial (R2 (xa0 (c_SRight l o b p hd) fi30 rfl) rfl rfl (R1 xe2 rfl (R1 x4 rfl ?_))))
 refine RGcase (t := 18) rfl (fun h131 => ?_) (fun h131 => ?_)
 ·
  have hB : stepBad l o b p m a = true := by rw [stepBad, h131]; rfl
  obtain ⟨e1, e2, e3, e4, e5⟩ := step_bad hB
  refine RGoff h131 rfl rfl (RGoff h131 rfl rfl (R2 (xb2 h131) rfl rfl (R1 x4 rfl (RGoff1 rfl rfl (RGoff1 rfl rfl (R2 (xb2 rfl) rfl rfl (R1 x4 rfl ?_)))))))
  refine RGoff1 rfl rfl (RGoff1 rfl rfl (RGoff1 rfl rfl (R2 (xb2 rfl) rfl rfl (x7 (by kernel_rfl) (x3 (C_bT rfl rfl (x6 ?_)))))))
  refine x8 ?_
  refine R0 (xd9 (r := tS [⟨1, false, (tE (.int .i64 0))⟩, ⟨1, false, (tIs [])⟩, ⟨1, false, (tIs [])⟩]) (ts := []) bu27 zr27.2 ⟨_, rfl⟩ rfl Le.refl)  (RE (xa6 (es := 3) (agg := true) (0) ti27 rfl rfl rfl) ⟨rfl, rfl, trivial⟩ ⟨rfl, trivial⟩ trivial (R1 x5 rfl (R1 x5 rfl (x7 (by kernel_rfl) (x3 (xa2 (xa3 ?_)))))))
  exact xf1 Plain.mk' (rs := [.cell 8 27, .tmp 9, .tmp 10]) rfl rfl ⟨⟨_, _, _, _, _, rfl, rfl, ti27, (Le.of (by first | (rw [e1, e2, e3]; done) | (rw [e1, e2, e3]; rfl)))⟩, ⟨_, rfl, (leNil e4)⟩, ⟨_, rfl, (Le.int (by rw [e5]))⟩, trivial⟩
 ·
  have hr : rightL l o b p = true := by rw [Bool.not_eq_false'] at h131; exact h131
  refine RGon h131 rfl x4 rfl ⟨rfl, trivial⟩ trivial trivial (RGon h131 rfl xd7 rfl ⟨rfl, rfl, trivial⟩ trivial trivial (R2 (xc0 h131) rfl rfl (R1 x4 rfl ?_)))
  refine RGcaseD (t := 22) rfl (fun h131_2 => ?_) (fun h131_2 => ?_)
  ·
   have hB : stepBad l o b p m a = true := by rw [stepBad, decide_eq_true h131_2]; simp
   obtain ⟨e1, e2, e3, e4, e5⟩ := step_bad hB
   refine RGoff (decide_eq_true h131_2) rfl rfl (RGoff (decide_eq_true h131_2) rfl rfl (R2 (xb2 (decide_eq_true h131_2)) rfl rfl (R1 x4 rfl (RGoff1 rfl rfl (RGoff1 rfl rfl (RGoff1 rfl rfl (R2 (xb2 rfl) rfl rfl ?_)))))))
   refine x7 (by kernel_rfl) (x3 (C_bT rfl rfl (x6 ?_)))
   refine x8 ?_
   refine R0 (xd9 (r := tS [⟨1, false, (tE (.int .i64 0))⟩, ⟨1, false, (tIs [])⟩, ⟨1, false, (tIs [])⟩]) (ts := []) bu27 zr27.2 ⟨_, rfl⟩ rfl Le.refl)  (RE (xa6 (es := 3) (agg := true) (0) ti27 rfl rfl rfl) ⟨rfl, rfl, trivial⟩ ⟨rfl, trivial⟩ trivial (R1 x5 rfl (R1 x5 rfl (x7 (by kernel_rfl) (x3 (xa2 (xa3 ?_)))))))
   exact xf1 Plain.mk' (rs := [.cell 8 27, .tmp 9, .tmp 10]) rfl rfl ⟨⟨_, _, _, _, _, rfl, rfl, ti27, (Le.of (by first | (rw [e1, e2, e3]; done) | (rw [e1, e2, e3]; rfl)))⟩, ⟨_, rfl, (leNil e4)⟩, ⟨_, rfl, (Le.int (by rw [e5]))⟩, trivial⟩
  ·
   refine RGon (decide_eq_false h131_2) rfl x4 rfl ⟨rfl, trivial⟩ trivial trivial (RGon (decide_eq_false h131_2) rfl xf2 rfl ⟨rfl, rfl, trivial⟩ trivial trivial (R2 (xc0 (decide_eq_false h131_2)) rfl rfl (R1 x4 rfl ?_)))
   refine RGcaseD (t := 26) rfl (fun h131_3 => ?_) (fun h131_3 => ?_)
   ·
    have hB : stepBad l o b p m a = true := by rw [stepBad, decide_eq_true h131_3]; simp
    obtain ⟨e1, e2, e3, e4, e5⟩ := step_bad hB
    refine RGoff (decide_eq_true h131_3) rfl rfl (RGoff (decide_eq_true h131_3) rfl rfl (RGoff (decide_eq_true h131_3) rfl rfl (R2 (xb2 (decide_eq_true h131_3)) rfl rfl (x7 (by kernel_rfl) (x3 (C_bT rfl rfl (x6 ?_)))))))
    refine x8 ?_
    refine R0 (xd9 (r := tS [⟨1, false, (tE (.int .i64 0))⟩, ⟨1, false, (tIs [])⟩, ⟨1, false, (tIs [])⟩]) (ts := []) bu27 zr27.2 ⟨_, rfl⟩ rfl Le.refl)  (RE (xa6 (es := 3) (agg := true) (0) ti27 rfl rfl rfl) ⟨rfl, rfl, trivial⟩ ⟨rfl, trivial⟩ trivial (R1 x5 rfl (R1 x5 rfl (x7 (by kernel_rfl) (x3 (xa2 (xa3 ?_)))))))
    exact xf1 Plain.mk' (rs := [.cell 8 27, .tmp 9, .tmp 10]) rfl rfl ⟨⟨_, _, _, _, _, rfl, rfl, ti27, (Le.of (by first | (rw [e1, e2, e3]; done) | (rw [e1, e2, e3]; rfl)))⟩, ⟨_, rfl, (leNil e4)⟩, ⟨_, rfl, (Le.int (by rw [e5]))⟩, trivial⟩
   ·
    refine RGon (decide_eq_false h131_3) rfl x4 rfl ⟨rfl, trivial⟩ trivial trivial (RGon (decide_eq_false h131_3) rfl (xa0 (c_within _) fi31 rfl) rfl ⟨rfl, trivial⟩ trivial trivial (RGon (decide_eq_false h131_3) rfl xe2 rfl ⟨rfl, trivial⟩ trivial trivial (R2 (xc0 (decide_eq_false h131_3)) rfl rfl (x7 (by kernel_rfl) (x3 ?_)))))
    refine xf0 rfl (fun h131_4 => ?_) (fun h131_4 => ?_)
    ·
     have hB : stepBad l o b p m a = true := by rw [stepBad, h131_4]; simp
     obtain ⟨e1, e2, e3, e4, e5⟩ := step_bad hB
     refine x6 ?_
     refine x8 ?_
     refine R0 (xd9 (r := tS [⟨1, false, (tE (.int .i64 0))⟩, ⟨1, false, (tIs [])⟩, ⟨1, false, (tIs [])⟩]) (ts := []) bu27 zr27.2 ⟨_, rfl⟩ rfl Le.refl)  (RE (xa6 (es := 3) (agg := true) (0) ti27 rfl rfl rfl) ⟨rfl, rfl, trivial⟩ ⟨rfl, trivial⟩ trivial (R1 x5 rfl (R1 x5 rfl (x7 (by kernel_rfl) (x3 (xa2 (xa3 ?_)))))))
     exact xf1 Plain.mk' (rs := [.cell 8 27, .tmp 9, .tmp 10]) rfl rfl ⟨⟨_, _, _, _, _, rfl, rfl, ti27, (Le.of (by first | (rw [e1, e2, e3]; done) | (rw [e1, e2, e3]; rfl)))⟩, ⟨_, rfl, (leNil e4)⟩, ⟨_, rfl, (Le.int (by rw [e5]))⟩, trivial⟩
    ·
     have ha : wIn a = true := by rw [Bool.not_eq_false'] at h131_4; exact h131_4
     have hB : stepBad l o b p m a = false := by rw [stepBad, hr, ha, decide_eq_false h131_2, decide_eq_false h131_3]; rfl
     refine xa5 (x3 (x6 ?_))
     obtain ⟨hv, hbl, hpl, ho, _⟩ := xj2 hd hr
     have hl16 := xi6 hv
     refine xc9 mixed ?_
     refine R1 (x9 fo27_0 rfl) rfl (xa4 (0) ti3 rfl rfl rfl (At.g 0 rfl rfl) rfl (R1 (x9 fo27_1 rfl) rfl (xa4 (0) ti23 rfl rfl rfl (At.g 1 rfl rfl) rfl (RE (xi0 (fun _ => 36) (c_cloneI _ (by omega)) fi32 rfl (krN (ρ := fun _ => 36)) (krC (ρ := fun _ => 36) (k := 2) ren_rI (krN (ρ := fun _ => 36))) ⟨⟨rfl, xh6⟩, trivial⟩ rfl) ⟨rfl, trivial⟩ trivial ⟨rfl, trivial⟩ (R1 (x9 fo27_2 rfl) rfl (xa4 (0) ti23 rfl rfl rfl (At.g 2 rfl rfl) rfl (RE (xi0 (fun _ => 39) (c_cloneI _ (by omega)) fi32 rfl (krN (ρ := fun _ => 39)) (krC (ρ := fun _ => 39) (k := 2) ren_rI (krN (ρ := fun _ => 39))) ⟨⟨rfl, xh6⟩, trivial⟩ rfl) ⟨rfl, trivial⟩ trivial ⟨rfl, trivial⟩ ?_)))))))
     refine R3 (d_buildO (es := [.val (tI o), .own (.sl 36 1 0 b.length), .own (.sl 39 1 0 p.length)]) (r := [.val (tI o), .own (.sl 36 1 0 b.length), .own (.sl 39 1 0 p.length)]) bu27 rfl rfl rfl rfl) rfl rfl rfl (R1 x4 rfl (R2 (d_buildO (es := [.own (rowV [.val (tI o), .own (.sl 36 1 0 b.length), .own (.sl 39 1 0 p.length)]), .val (tL 7 true tDeal l)]) (r := [.val (tI o), .own (.sl 36 1 0 b.length), .own (.sl 39 1 0 p.length), .val (tL 7 true tDeal l)]) bu71 rfl rfl rfl rfl) rfl rfl (RE (d_allocC (k := 11) (n := 4) [.int .i64 0, .slice none 0 0, .slice none 0 0, .slice none 0 0] zr71.1 rfl rfl rfl rfl) trivial trivial ⟨rfl, trivial⟩ (RE (d_storeM ti71 rfl rfl rfl) ⟨rfl, rfl, trivial⟩ ⟨rfl, trivial⟩ trivial (xd1 (by kernel_rfl) (x3 (x6 ?_)))))))
     refine C_key (k := 11) rfl (e' := ⟨71, 1, false, [.val (tI o), .own (.sl 36 1 0 l.length), .own (.sl 39 1 0 l.length), .val (tL 7 true tDeal l)]⟩) (by rw [hbl, hpl]) ?_
     refine x8 ?_
     refine R1 x4 rfl (R1 x4 rfl (RE (xi0 (fun j => cond (Nat.beq j 101) 36 (cond (Nat.beq j 100) 11 (39))) (c_divideS l m a o b p hv hd hbl hpl (right_in hd hr) ho ha) fi33 rfl (krC (ρ := fun j => cond (Nat.beq j 101) 36 (cond (Nat.beq j 100) 11 (39))) (k := 100) rfl (krC (ρ := fun j => cond (Nat.beq j 101) 36 (cond (Nat.beq j 100) 11 (39))) (k := 101) ren_rI (krC (ρ := fun j => cond (Nat.beq j 101) 36 (cond (Nat.beq j 100) 11 (39))) (k := 102) ren_rI (krN (ρ := fun j => cond (Nat.beq j 101) 36 (cond (Nat.beq j 100) 11 (39))))))) (krC (ρ := fun j => cond (Nat.beq j 101) 36 (cond (Nat.beq j 100) 11 (39))) (k := 100) rfl (krC (ρ := fun j => cond (Nat.beq j 101) 36 (cond (Nat.beq j 100) 11 (39))) (k := 101) ren_rI (krC (ρ := fun j => cond (Nat.beq j 101) 36 (cond (Nat.beq j 100) 11 (39))) (k := 102) ren_rI (krN (ρ := fun j => cond (Nat.beq j 101) 36 (cond (Nat.beq j 100) 11 (39))))))) ⟨⟨rfl, (SupX.lit rfl)⟩, ⟨rfl, xh6⟩, ⟨rfl, xh6⟩, trivial⟩ rfl) ⟨rfl, rfl, rfl, trivial⟩ ⟨rfl, rfl, rfl, trivial⟩ trivial (R1 x4 rfl (R1 (xa8 rfl) rfl (R1 (xa8 rfl) rfl (R1 x5 rfl (R1 x5 rfl ?_)))))))
     refine x7 (by kernel_rfl) (x3 (x6 (x6 ?_)))
     refine x8 ?_
     refine R1 x4 rfl (R1 xe2 rfl (x7 (by kernel_rfl) (x3 ?_)))
     refine xf0 rfl (fun h139 => ?_) (fun h139 => ?_)
     ·
      have hF : stepOk l o b p m a = false := by rw [Bool.not_eq_true'] at h139; exact h139
      obtain ⟨e1, e2, e3, e4, e5⟩ := step_full hB hF
      refine x6 ?_
      refine x8 ?_
      refine R0 (xd9 (r := tS [⟨1, false, (tE (.int .i64 0))⟩, ⟨1, false, (tIs [])⟩, ⟨1, false, (tIs [])⟩]) (ts := []) bu27 zr27.2 ⟨_, rfl⟩ rfl Le.refl)  (RE (xa6 (es := 3) (agg := true) (0) ti27 rfl rfl rfl) ⟨rfl, rfl, trivial⟩ ⟨rfl, trivial⟩ trivial (R1 x5 rfl (R1 x5 rfl (x7 (by kernel_rfl) (x3 (xa2 (xa3 ?_)))))))
      exact xf1 Plain.mk' (rs := [.cell 8 27, .tmp 9, .tmp 10]) rfl rfl ⟨⟨_, _, _, _, _, rfl, rfl, ti27, (Le.of (by first | (rw [e1, e2, e3]; done) | (rw [e1, e2, e3]; rfl)))⟩, ⟨_, rfl, (leNil e4)⟩, ⟨_, rfl, (Le.int (by rw [e5]))⟩, trivial⟩
     ·
      have hF : stepOk l o b p m a = true := by rw [Bool.not_eq_false'] at h139; exact h139
      obtain ⟨e1, e2, e3, e4, e5, e6⟩ := step_good hB hF
      refine xa5 (x3 (x6 ?_))
      obtain ⟨hl1, hl2, _⟩ := run_len (l := l) (apl l m) ⟨b, p, List.replicate (l.length + 1) 0, a⟩
      replace hl1 : (dvAll l m b p a).1.b.length = l.length := hl1.trans hbl
      replace hl2 : (dvAll l m b p a).1.p.length = l.length := hl2.trans hpl
      refine C_giveC (q := 11) (j := 36) (f := fun n : Int => tI n) (xs := (dvAll l m b p a).1.b) 1 rfl rfl rfl rfl (NoLbK.of fun _ h => h) (rI_all hl1) hl1 rfl (C_giveC (q := 11) (j := 39) (f := fun n : Int => tI n) (xs := (dvAll l m b p a).1.p) 2 rfl rfl rfl rfl (NoLbK.of fun _ h => h) (rI_all hl2) hl2 rfl ?_)
      refine x8 ?_
      refine R1 (x9 fo71_0 rfl) rfl (RE (d_loadM (us := [tI (bif (dvAll l m b p a).2 then o + (dvAll l m b p a).1.r else o), tIs (dvAll l m b p a).1.b, tIs (dvAll l m b p a).1.p]) (t := tState (bif (dvAll l m b p a).2 then o + (dvAll l m b p a).1.r else o) (dvAll l m b p a).1.b (dvAll l m b p a).1.p) ti27 rfl rfl rfl rfl) ⟨rfl, trivial⟩ ⟨rfl, trivial⟩ trivial (R1 x4 rfl (RE (xa6 (es := 3) (agg := true) (0) ti27 rfl rfl rfl) ⟨rfl, rfl, trivial⟩ ⟨rfl, trivial⟩ trivial (R1 x5 rfl (R1 x5 rfl (x7 (by kernel_rfl) (x3 ?_)))))))
      refine xa2 ?_
      exact xf1 Plain.mk' (rs := [.cell 8 27, .tmp 9, .tmp 10]) rfl rfl ⟨⟨_, _, _, _, _, rfl, rfl, ti27, (Le.of (by rw [e1, e2, e3, e6]; rfl))⟩, ⟨_, rfl, (Le.of (by rw [e4, e6]; rfl))⟩, ⟨_, rfl, (Le.int (by rw [e5]))⟩, trivial⟩
end An.S

/- The reference's arithmetic on limbs: plain numbers. -/
namespace An
open Go
abbrev tM (v : Nat) : Ty := tLm (dig 65536 v)
theorem trim_step' {a : List Nat} {k : Nat} (hk : k ≤ a.length) (h0 : 0 < k) (hz : a.getD (k - 1) 0 = 0) : trimL (a.take (k - 1)) = trimL (a.take k) := by
  have h1 := xh5 a (k - 1) (by omega)
  rw [show k - 1 + 1 = k from by omega] at h1
  rw [h1, hz, trimL_snoc_zero]
theorem trim_stop' {a : List Nat} {k : Nat} (hk : k ≤ a.length) (h0 : 0 < k) (hz : ¬ a.getD (k - 1) 0 = 0) : trimL (a.take k) = a.take k := by
  refine trimL_Top fun x hx => ?_
  have h1 := xh5 a (k - 1) (by omega)
  rw [show k - 1 + 1 = k from by omega] at h1
  rw [h1, List.getLast?_append] at hx
  simp at hx
  rw [← hx]
  simpa [List.getD_eq_getElem?_getD] using hz
/-- Dividing by a limb. -/
theorem short_in {a d r k q n : Nat} {qs : List Nat} (hk : k < n) (hl : qs.length = n) (hD : Dig 65536 qs) (hd : 0 < d) (hr : r = a / 65536 ^ (k + 1) % d) (hv : val 65536 (qs.drop (k + 1)) = a / 65536 ^ (k + 1) / d) (hq : (r * 65536 + a / 65536 ^ k % 65536) / d = q) :
    (qs.set k q).length = n ∧ Dig 65536 (qs.set k q) ∧ (r * 65536 + a / 65536 ^ k % 65536) % d = a / 65536 ^ k % d ∧ val 65536 ((qs.set k q).drop k) = a / 65536 ^ k / d ∧ q < 65536 := by
  have e0 : a / 65536 ^ k = 65536 * (a / 65536 ^ (k + 1)) + a / 65536 ^ k % 65536 := div_succ 65536 a k (by decide)
  have hrd : r < d := by rw [hr]; exact Nat.mod_lt _ hd
  have e1 : a / 65536 ^ k = (r * 65536 + a / 65536 ^ k % 65536) + d * (65536 * (a / 65536 ^ (k + 1) / d)) := by
    have h1 := Nat.div_add_mod (a / 65536 ^ (k + 1)) d
    rw [← hr] at h1
    have h2 : 65536 * (a / 65536 ^ (k + 1)) = d * (65536 * (a / 65536 ^ (k + 1) / d)) + 65536 * r := by
      conv => lhs; rw [← h1]
      rw [Nat.mul_add, Nat.mul_left_comm]
    omega
  have hqW : q < 65536 := by
    rw [← hq]; refine Nat.div_lt_of_lt_mul ?_
    have h4 : a / 65536 ^ k % 65536 < 65536 := Nat.mod_lt _ (by decide)
    have h5 : (r + 1) * 65536 ≤ d * 65536 := Nat.mul_le_mul_right _ hrd
    omega
  refine ⟨by simpa using hl, hD.set hqW, ?_, ?_, hqW⟩
  · conv => rhs; rw [e1, Nat.add_mul_mod_self_left]
  · rw [xi8 _ _ _ (by simpa using (by omega : k < qs.length)), getD_set_self (by omega), xg1, hv]
    conv => rhs; rw [e1, Nat.add_mul_div_left _ _ hd, hq]
theorem one_limb {b : Nat} (h : (dig 65536 b).length = 1) : (dig 65536 b).getD 0 0 = b := by
  rw [xe5 xb0, Nat.pow_zero, Nat.div_one]
  have := (xd6 xb0 b 1).1 (Nat.le_of_eq h)
  rw [Nat.pow_one] at this
  exact Nat.mod_eq_of_lt this
theorem trim1L {x : Nat} (hx : x < 65536) : trimL [x] = dig 65536 x := by
  rw [xf9 xb0 (Dig.cons hx (Dig.nil _)), val_cons, val_nil]; simp
theorem dig_lt_of {B a b k : Nat} (hB : 2 ≤ B) (h : a / B ^ (k + 1) = b / B ^ (k + 1)) (hd : (dig B a).getD k 0 < (dig B b).getD k 0) : a < b := cmp_lt (by omega) h (by rw [← xe5 hB, ← xe5 hB]; exact hd)
end An

/- The reference of layer 1: limbs. -/
namespace An.S
open Go Go.Proofs An
set_option maxHeartbeats 2000000
theorem fi181 : FnI Tryz.prog 181 := ⟨_, Tryz.func181, by kernel_rfl, rfl⟩
theorem c_RTrim (a : List Nat) :
  Ct Tryz.prog 181 [tLm a] (tLm (trimL a)) := by
 refine Ct.intro Tryz.func181 rfl Tryz.ntmps181 rfl ?_
 intro w F
 refine C_len (s := 0) rfl (fun hl0 => ?_)
 refine x6 ?_
 refine x8 ?_
 refine R1 x5 rfl (x7 (by kernel_rfl) (x3 (x6 ?_)))
 refine x8 ?_
 refine R1 x4 rfl (R1 (xb7 Tryz.underlying45) rfl (R1 x5 rfl (x7 (by kernel_rfl) (x3 (x6 (xb3 ?_))))))
 refine xe0 (fun (k : Nat) => k ≤ a.length ∧ trimL (a.take k) = trimL a) (fun (k : Nat) => upd (upd (fun _ => none) 0 (some (.val (tLm a)))) 3 (some (.val (tI k)))) (fun (k : Nat) => fun _ => none) (nm []) (fun (k : Nat) => k) (a.length) ⟨Nat.le_refl _, by rw [List.take_length]⟩ (Sub.int rfl (by first | omega | rfl | (dsimp only; omega)) (Sub.cons rfl Sub.nil)) SubK.nil (SupG.val (SupG.val SupG.nil)) SupH.nil (lkOk rfl) ?_
 intro k hI
 obtain ⟨hk, hc⟩ := hI
 refine x6 (x6 ?_)
 refine x8 ?_
 refine R1 x4 rfl (R2 xf2 rfl rfl (R1 x4 rfl ?_))
 refine RGcaseD (t := 8) rfl (fun h12 => ?_) (fun h12 => ?_)
 ·
  refine RGon (decide_eq_true h12) rfl x4 rfl ⟨rfl, trivial⟩ trivial trivial (RGon (decide_eq_true h12) rfl x4 rfl ⟨rfl, trivial⟩ trivial trivial (RGon (decide_eq_true h12) rfl (xe4 (wr64 (by omega) (by omega))) rfl ⟨rfl, rfl, trivial⟩ trivial trivial (RGon (decide_eq_true h12) rfl (xb6 sl45 (k - 1) (by omega) (gN (by omega))) rfl ⟨rfl, rfl, trivial⟩ trivial trivial (RGon (decide_eq_true h12) rfl (xb8 ti166) rfl ⟨rfl, trivial⟩ trivial trivial (RGon (decide_eq_true h12) rfl d_eql rfl ⟨rfl, rfl, trivial⟩ trivial trivial (R2 (xb2 (decide_eq_true h12)) rfl rfl (x7 (by kernel_rfl) ?_)))))))
  refine x3 ?_
  refine xc5 rfl (fun h12_2 => ?_) (fun h12_2 => ?_)
  ·
   refine xa5 (x3 (xb3 ?_))
   refine x8 ?_
   refine R1 x4 rfl (R2 (xe4 (wr64 (by omega) (by omega))) rfl rfl (R1 x5 rfl (x7 (by kernel_rfl) (xc8 ?_))))
   exact xc6 (k - 1) ⟨⟨by omega, by rw [trim_step' hk (by omega) (by omega)]; exact hc⟩, (by omega)⟩ (Sub.int rfl (by first | omega | rfl | (dsimp only; omega)) (Sub.cons rfl Sub.nil)) SubK.nil (SupG.val (SupG.val SupG.nil)) SupH.nil (lkOk rfl)
  ·
   refine xd8 (xc1 (xc1 (xe3 (x3 (x6 ?_)))))
   refine x8 ?_
   refine R1 x4 rfl (R1 x4 rfl (R2 (d_sliceTo sl45 k (by omega) (by omega) rfl) rfl rfl (R1 x5 rfl (x7 (by kernel_rfl) (x3 (xa2 ?_))))))
   exact xa9 Plain.mk' rfl rfl (Le.of (congrArg tLm (by rw [← hc, trim_stop' hk (by omega) (by omega)])))
 ·
  refine RGoff (decide_eq_false h12) rfl rfl (RGoff (decide_eq_false h12) rfl rfl (RGoff (decide_eq_false h12) rfl rfl (RGoff (decide_eq_false h12) rfl rfl (RGoff (decide_eq_false h12) rfl rfl (RGoff (decide_eq_false h12) rfl rfl (R2 (xc0 (decide_eq_false h12)) rfl rfl (x7 (by kernel_rfl) ?_)))))))
  refine x3 (C_bF rfl rfl (xd8 (xc1 (xc1 (xe3 (x3 (x6 ?_)))))))
  refine x8 ?_
  refine R1 x4 rfl (R1 x4 rfl (R2 (d_sliceTo sl45 k (by omega) (by omega) rfl) rfl rfl (R1 x5 rfl (x7 (by kernel_rfl) (x3 (xa2 ?_))))))
  exact xa9 Plain.mk' rfl rfl (Le.of (congrArg tLm (by rw [← hc, show k = 0 by omega, List.take_zero]; rfl)))
theorem c_RLess (a b : Nat) :
  Ct Tryz.prog 172 [tM a, tM b] (tB (decide (a < b))) := by
 refine Ct.intro Tryz.func172 rfl Tryz.ntmps172 rfl ?_
 intro w F
 refine C_len (s := 0) rfl (fun hl0 => ?_)
 refine C_len (s := 1) rfl (fun hl1 => ?_)
 have ha := xh3 xb0 a
 have hb := xh3 xb0 b
 refine x6 ?_
 refine x8 ?_
 refine R1 x5 rfl (x7 (by kernel_rfl) (x3 (x6 (x6 ?_))))
 refine x8 ?_
 refine R1 x4 rfl (R1 (xb7 Tryz.underlying45) rfl (R1 x4 rfl (R1 (xb7 Tryz.underlying45) rfl (R2 xg8 rfl rfl (x7 (by kernel_rfl) (x3 ?_))))))
 refine xc5 rfl (fun h20 => ?_) (fun h20 => ?_)
 ·
  refine x6 ?_
  refine x8 ?_
  refine R1 x4 rfl (R1 (xb7 Tryz.underlying45) rfl (R1 x4 rfl (R1 (xb7 Tryz.underlying45) rfl (R2 xd7 rfl rfl (R1 x5 rfl (x7 (by kernel_rfl) (x3 ?_)))))))
  refine xa2 (xa3 ?_)
  exact xa9 Plain.mk' rfl rfl (Le.bool (decide_eq_decide.2 ⟨fun h => len_lt xb0 (by omega), fun h => by have := xf4 xb0 (Nat.le_of_lt h); omega⟩))
 ·
  refine xa5 (x3 (x6 (x6 ?_)))
  refine x8 ?_
  refine R1 x4 rfl (R1 (xb7 Tryz.underlying45) rfl (R2 (xe4 (wr64 (by omega) (by omega))) rfl rfl (R1 x5 rfl (x7 (by kernel_rfl) (x3 (xb3 ?_))))))
  have hlen : (dig 65536 a).length = (dig 65536 b).length := by omega
  rw [← hlen] at hb
  refine xe0 (fun (k : Nat) => k ≤ (dig 65536 a).length ∧ a / 65536 ^ k = b / 65536 ^ k) (fun (k : Nat) => upd (upd (upd (fun _ => none) 0 (some (.val (tM a)))) 1 (some (.val (tM b)))) 5 (some (.val (tI ((k : Int) - 1))))) (fun (k : Nat) => fun _ => none) (nm []) (fun (k : Nat) => k) ((dig 65536 a).length) ⟨Nat.le_refl _, by rw [Nat.div_eq_of_lt ha, Nat.div_eq_of_lt hb]⟩ (Sub.int rfl (by first | omega | rfl | (dsimp only; omega)) (Sub.cons rfl (Sub.cons rfl Sub.nil))) SubK.nil (SupG.val (SupG.val (SupG.val SupG.nil))) SupH.nil (lkOk rfl) ?_
  intro k hI
  obtain ⟨hk, hc⟩ := hI
  refine x6 (x6 ?_)
  refine x8 ?_
  refine R1 x4 rfl (R2 d_geq rfl rfl (x7 (by kernel_rfl) (x3 ?_)))
  refine xc5 rfl (fun h23 => ?_) (fun h23 => ?_)
  ·
   obtain ⟨j, rfl⟩ : ∃ j, k = j + 1 := ⟨k - 1, by omega⟩
   refine xa5 (x3 (x6 (xb3 (x6 ?_))))
   refine xc9 mixed ?_
   refine R1 x4 rfl (R1 x4 rfl (R2 (xb6 sl45 (j) (by omega) (gN (by omega))) rfl rfl (R1 (xb8 ti166) rfl (R1 x4 rfl (R1 x4 rfl (R2 (xb6 sl45 (j) (by omega) (gN (by omega))) rfl rfl (R1 (xb8 ti166) rfl ?_)))))))
   refine R2 xg8 rfl rfl (xd1 (by kernel_rfl) (x3 ?_))
   refine xc5 rfl (fun h24 => ?_) (fun h24 => ?_)
   ·
    refine x6 ?_
    refine xc9 mixed ?_
    refine R1 x4 rfl (R1 x4 rfl (R2 (xb6 sl45 (j) (by omega) (gN (by omega))) rfl rfl (R1 (xb8 ti166) rfl (R1 x4 rfl (R1 x4 rfl (R2 (xb6 sl45 (j) (by omega) (gN (by omega))) rfl rfl (R1 (xb8 ti166) rfl ?_)))))))
    refine R2 xd7 rfl rfl (R1 x5 rfl (xd1 (by kernel_rfl) (x3 (xa2 (xc7 (xa3 (xa3 ?_)))))))
    refine xc7 (xa3 ?_)
    exact xa9 Plain.mk' rfl rfl (Le.bool (decide_eq_decide.2 ⟨fun h => dig_lt_of xb0 hc (by omega), fun h => Classical.byContradiction fun h2 => by have := dig_lt_of xb0 hc.symm (show (dig 65536 b).getD j 0 < (dig 65536 a).getD j 0 by omega); omega⟩))
   ·
    refine xa5 (xc8 (x3 ?_))
    refine x8 ?_
    refine R1 x4 rfl (R2 (xe4 (wr64 (by omega) (by omega))) rfl rfl (R1 x5 rfl (x7 (by kernel_rfl) ?_)))
    exact xc6 (j) ⟨⟨by omega, cmp_step (by decide) hc (by rw [← xe5 xb0, ← xe5 xb0]; omega)⟩, (by omega)⟩ (Sub.int rfl (by first | omega | rfl | (dsimp only; omega)) (Sub.cons rfl (Sub.cons rfl Sub.nil))) SubK.nil (SupG.val (SupG.val (SupG.val SupG.nil))) SupH.nil (lkOk rfl)
  ·
   refine xd8 (xc1 (xc1 (xe3 (x3 (x6 ?_)))))
   refine x8 ?_
   refine R1 x5 rfl (x7 (by kernel_rfl) (x3 (xa2 ?_)))
   exact xa9 Plain.mk' rfl rfl (Le.bool (decide_eq_false (by have h0 := hc; rw [show k = 0 by omega] at h0; simp at h0; omega)).symm)
theorem len_ne {v : Nat} : (0 : Int) < ((dig 65536 v).length : Nat) ↔ v ≠ 0 := by
  have h : (dig 65536 v).length = 0 ↔ v = 0 := by rw [List.length_eq_zero_iff, xg5 xb0]
  omega
theorem xi2 (p : Bool) (v : Nat) :
  Ct Tryz.prog 126 [tB p, tM v] (tWh (wh (sgn p v))) := by
 refine Ct.intro Tryz.func126 rfl Tryz.ntmps126 rfl ?_
 intro w F
 refine x6 ?_
 refine x8 ?_
 refine RE (xc4 (k := 4) (n := 2) (agg := true) zr47.1 zr47.2 rfl) trivial trivial ⟨rfl, trivial⟩ (x7 (by kernel_rfl) (x3 (x6 ?_)))
 refine x8 ?_
 refine R1 x4 rfl (R1 x4 rfl ?_)
 refine RGcase (t := 6) rfl (fun h129 => ?_) (fun h129 => ?_)
 ·
  refine RGon h129 rfl x4 rfl ⟨rfl, trivial⟩ trivial trivial (RGon h129 rfl (xb7 Tryz.underlying45) rfl ⟨rfl, trivial⟩ trivial trivial (RGon h129 rfl xf2 rfl ⟨rfl, rfl, trivial⟩ trivial trivial (R2 (xb2 h129) rfl rfl (R1 x4 rfl (R2 (xd9 (r := tS [⟨1, false, tB (decide ((0 : Int) < ((dig 65536 v).length : Nat)))⟩, ⟨1, false, tM v⟩]) (ts := [(0, tB (decide ((0 : Int) < ((dig 65536 v).length : Nat)))), (1, tM v)]) bu47 zr47.2 ⟨_, rfl⟩ rfl ⟨_, _, _, _, rfl, Up.f (fs := [⟨1, false, (tE (.bool false))⟩, ⟨1, false, (tLm [])⟩]) (f := ⟨1, false, (tE (.bool false))⟩) (fs' := [⟨1, false, tB (decide ((0 : Int) < ((dig 65536 v).length : Nat)))⟩, ⟨1, false, (tLm [])⟩]) 0 rfl rfl rfl, inferInstance, ⟨_, _, _, _, rfl, Up.f (fs := [⟨1, false, tB (decide ((0 : Int) < ((dig 65536 v).length : Nat)))⟩, ⟨1, false, (tLm [])⟩]) (f := ⟨1, false, (tLm [])⟩) (fs' := [⟨1, false, tB (decide ((0 : Int) < ((dig 65536 v).length : Nat)))⟩, ⟨1, false, tM v⟩]) 1 rfl rfl rfl, inferInstance, Le.refl⟩⟩) rfl rfl (RE (xa6 (es := 2) (agg := true) (0) ti47 rfl rfl rfl) ⟨rfl, rfl, trivial⟩ ⟨rfl, trivial⟩ trivial (x7 (by kernel_rfl) ?_)))))))
  refine x3 (xa2 ?_)
  exact xg2 Plain.mk' rfl ⟨_, _, _, _, _, rfl, rfl, ti47, (Le.of (by rw [wh_sgn, h129, Bool.true_and, decide_eq_decide.2 (show (0 : Int) < ((dig 65536 v).length : Nat) ↔ v ≠ 0 from len_ne)]))⟩
 ·
  refine RGoff h129 rfl rfl (RGoff h129 rfl rfl (RGoff h129 rfl rfl (R2 (xc0 h129) rfl rfl (R1 x4 rfl (R2 (xd9 (r := tS [⟨1, false, tB false⟩, ⟨1, false, tM v⟩]) (ts := [(0, tB false), (1, tM v)]) bu47 zr47.2 ⟨_, rfl⟩ rfl ⟨_, _, _, _, rfl, Up.f (fs := [⟨1, false, (tE (.bool false))⟩, ⟨1, false, (tLm [])⟩]) (f := ⟨1, false, (tE (.bool false))⟩) (fs' := [⟨1, false, tB false⟩, ⟨1, false, (tLm [])⟩]) 0 rfl rfl rfl, inferInstance, ⟨_, _, _, _, rfl, Up.f (fs := [⟨1, false, tB false⟩, ⟨1, false, (tLm [])⟩]) (f := ⟨1, false, (tLm [])⟩) (fs' := [⟨1, false, tB false⟩, ⟨1, false, tM v⟩]) 1 rfl rfl rfl, inferInstance, Le.refl⟩⟩) rfl rfl (RE (xa6 (es := 2) (agg := true) (0) ti47 rfl rfl rfl) ⟨rfl, rfl, trivial⟩ ⟨rfl, trivial⟩ trivial (x7 (by kernel_rfl) ?_)))))))
  refine x3 (xa2 ?_)
  exact xg2 Plain.mk' rfl ⟨_, _, _, _, _, rfl, rfl, ti47, (Le.of (by rw [wh_sgn, h129, Bool.false_and]))⟩
theorem c_RSame (x y : Wh) :
  Ct Tryz.prog 75 [tWh x, tWh y] (tB (decide (x = y))) := by
 refine Ct.intro Tryz.func75 rfl Tryz.ntmps75 rfl ?_
 intro w F
 refine x6 ?_
 refine x8 ?_
 refine RE (xd4 (k := 2) ti47 rfl) ⟨rfl, trivial⟩ trivial ⟨rfl, trivial⟩ (RE (xd4 (k := 3) ti47 rfl) ⟨rfl, trivial⟩ trivial ⟨rfl, trivial⟩ (R1 x5 rfl (x7 (by kernel_rfl) (x3 (x6 (x6 ?_))))))
 refine x8 ?_
 refine R1 (x9 fo47_0 rfl) rfl (xa4 (0) ti4 rfl rfl rfl (At.g 0 rfl rfl) rfl (R1 (x9 fo47_0 rfl) rfl (xa4 (0) ti4 rfl rfl rfl (At.g 0 rfl rfl) rfl (R2 (d_neqB Tryz.underlying4) rfl rfl (R1 x4 rfl ?_)))))
 refine RGcase (t := 11) rfl (fun h150 => ?_) (fun h150 => ?_)
 ·
  have hn : x.neg ≠ y.neg := fun h => by rw [h] at h150; simp at h150
  refine RGoff h150 rfl rfl (RGoff h150 rfl rfl (RGoff h150 rfl rfl (RGoff h150 rfl rfl (RGoff h150 rfl rfl (RGoff h150 rfl rfl (RGoff h150 rfl rfl (R2 (xb2 h150) rfl rfl ?_)))))))
  refine x7 (by kernel_rfl) (x3 (C_bT rfl rfl (x6 ?_)))
  refine x8 ?_
  refine R1 x5 rfl (x7 (by kernel_rfl) (x3 (xa2 (xa3 ?_))))
  exact xa9 Plain.mk' rfl rfl (Le.bool (decide_eq_false (fun h => hn (by rw [h]))).symm)
 ·
  have hn : x.neg = y.neg := by simpa using h150
  refine RGon h150 rfl (x9 fo47_1 rfl) rfl ⟨rfl, trivial⟩ trivial trivial (xd2 h150 rfl rfl (0) ti45 rfl rfl rfl (At.g 1 rfl rfl) rfl (RGon h150 rfl (xb7 Tryz.underlying45) rfl ⟨rfl, trivial⟩ trivial trivial (RGon h150 rfl (x9 fo47_1 rfl) rfl ⟨rfl, trivial⟩ trivial trivial (xd2 h150 rfl rfl (0) ti45 rfl rfl rfl (At.g 1 rfl rfl) rfl (RGon h150 rfl (xb7 Tryz.underlying45) rfl ⟨rfl, trivial⟩ trivial trivial (RGon h150 rfl xg8 rfl ⟨rfl, rfl, trivial⟩ trivial trivial (R2 (xc0 h150) rfl rfl ?_)))))))
  refine x7 (by kernel_rfl) (x3 ?_)
  refine xc5 rfl (fun h150_2 => ?_) (fun h150_2 => ?_)
  ·
   have hll : x.l.length ≠ y.l.length := by omega
   refine x6 ?_
   refine x8 ?_
   refine R1 x5 rfl (x7 (by kernel_rfl) (x3 (xa2 (xa3 ?_))))
   exact xa9 Plain.mk' rfl rfl (Le.bool (decide_eq_false (fun h => hll (by rw [h]))).symm)
  ·
   have hll : x.l.length = y.l.length := by omega
   refine xa5 (x3 (x6 (x6 ?_)))
   refine x8 ?_
   refine R1 x5 rfl (x7 (by kernel_rfl) (x3 (xb3 ?_)))
   refine xe0 (fun (i : Nat) => i ≤ x.l.length ∧ x.l.take i = y.l.take i) (fun (i : Nat) => upd (upd (upd (fun _ => none) 2 (some (.own (.ptr 2 0)))) 3 (some (.own (.ptr 3 0)))) 5 (some (.val (tI i)))) (fun (i : Nat) => upd (upd (fun _ => none) 2 (some (⟨47, 2, true, [.val (tWh x)]⟩))) 3 (some (⟨47, 2, true, [.val (tWh y)]⟩))) (nm [2, 3]) (fun (i : Nat) => x.l.length - i) (0) ⟨Nat.zero_le _, rfl⟩ (Sub.int rfl (by first | omega | rfl | (dsimp only; omega)) (Sub.cons rfl (Sub.cons rfl Sub.nil))) ((SubK.consI rfl ImpK.refl) ((SubK.consI rfl ImpK.refl) SubK.nil)) (SupG.val (SupG.own rfl (SupG.own rfl SupG.nil))) (SupH.cons rfl (supJL rfl) (SupH.cons rfl (supJL rfl) SupH.nil)) (lkOk rfl) ?_
   intro i hI
   obtain ⟨hi, ht⟩ := hI
   refine x6 (x6 ?_)
   refine x8 ?_
   refine R1 x4 rfl (R1 (x9 fo47_1 rfl) rfl (xa4 (0) ti45 rfl rfl rfl (At.g 1 rfl rfl) rfl (R1 (xb7 Tryz.underlying45) rfl (R2 xd7 rfl rfl (x7 (by kernel_rfl) (x3 ?_))))))
   refine xc5 rfl (fun h153 => ?_) (fun h153 => ?_)
   ·
    refine xa5 (x3 (x6 (xb3 (x6 ?_))))
    refine C_len (s := 22) rfl (fun hl22 => ?_)
    refine xc9 mixed ?_
    refine R1 (x9 fo47_1 rfl) rfl (xa4 (0) ti45 rfl rfl rfl (At.g 1 rfl rfl) rfl (R1 x4 rfl (R2 (xb6 sl45 (i) (by omega) (gN (by omega))) rfl rfl (R1 (xb8 ti166) rfl (R1 (x9 fo47_1 rfl) rfl (xa4 (0) ti45 rfl rfl rfl (At.g 1 rfl rfl) rfl (R1 x4 rfl ?_)))))))
    refine R2 (xb6 sl45 (i) (by omega) (gN (by omega))) rfl rfl (R1 (xb8 ti166) rfl (R2 xg8 rfl rfl (xd1 (by kernel_rfl) (x3 ?_))))
    refine xc5 rfl (fun h154 => ?_) (fun h154 => ?_)
    ·
     refine x6 ?_
     refine x8 ?_
     refine R1 x5 rfl (x7 (by kernel_rfl) (x3 (xa2 (xc7 (xa3 (xa3 (xc7 ?_)))))))
     refine xa3 ?_
     exact xa9 Plain.mk' rfl rfl (Le.bool (decide_eq_false (fun h => by rw [h] at h154; omega)).symm)
    ·
     refine xa5 (xc8 (x3 ?_))
     refine x8 ?_
     refine R1 x4 rfl (R2 (xc2 (wr64 (by omega) (by omega))) rfl rfl (R1 x5 rfl (x7 (by kernel_rfl) ?_)))
     exact xc6 (i + 1) ⟨⟨by omega, by rw [xh5 x.l i (by omega), xh5 y.l i (by omega), ht, show x.l.getD i 0 = y.l.getD i 0 by omega]⟩, (by omega)⟩ (Sub.int rfl (by first | omega | rfl | (dsimp only; omega)) (Sub.cons rfl (Sub.cons rfl Sub.nil))) ((SubK.consI rfl ImpK.refl) ((SubK.consI rfl ImpK.refl) SubK.nil)) (SupG.val (SupG.own rfl (SupG.own rfl SupG.nil))) (SupH.cons rfl (supJL rfl) (SupH.cons rfl (supJL rfl) SupH.nil)) (lkOk rfl)
   ·
    refine xd8 (xc1 (xc1 (xe3 (x3 (x6 ?_)))))
    refine x8 ?_
    refine R1 x5 rfl (x7 (by kernel_rfl) (x3 (xa2 ?_)))
    exact xa9 Plain.mk' rfl rfl (Le.bool (decide_eq_true (by rw [show i = x.l.length by omega, List.take_length, hll, List.take_length] at ht; obtain ⟨a, b⟩ := x; obtain ⟨c, d⟩ := y; simp only at hn ht; rw [hn, ht])).symm)
theorem iquo64 {a b : Nat} (ha : a < 9223372036854775808) : IntKind.i64.wrap ((a : Int).tdiv (b : Int)) = ((a / b : Nat) : Int) := by
  rw [Int.tdiv_eq_ediv_of_nonneg (by omega)]
  have h : (a : Int) / (b : Int) = ((a / b : Nat) : Int) := (Int.natCast_ediv a b).symm
  rw [h]
  have := Nat.div_le_self a b
  generalize a / b = q at *
  exact wr64 (by omega) (by omega)
theorem c_RShort (a d : Nat) (ha : (dig 65536 a).length ≤ 100000) (hd : 0 < d) (hdW : d < 65536) :
  Ct Tryz.prog 171 [tM a, tI d] (tT [tM (a / d), tM (a % d)]) := by
 refine Ct.intro Tryz.func171 rfl Tryz.ntmps171 rfl ?_
 intro w F
 refine x6 ?_
 refine x8 ?_
 refine R1 x5 rfl (R1 x5 rfl (x7 (by kernel_rfl) (x3 (x6 ?_))))
 refine x8 ?_
 refine R1 x4 rfl (R1 (xb7 Tryz.underlying45) rfl (RE (d_makeO (k := 11) (t := tE (.int .u16 0)) (ts := rW .u16 (List.replicate ((dig 65536 a).length) 0)) ((dig 65536 a).length) ((dig 65536 a).length) Tryz.underlying45 el166 (fun _ _ => rfl) rfl (by omega) (by omega) (Nat.le_refl _) (by omega) (by omega) (rW_rep _)) ⟨rfl, rfl, trivial⟩ trivial ⟨rfl, trivial⟩ (R1 x5 rfl (x7 (by kernel_rfl) (x3 (x6 ?_))))))
 refine x8 ?_
 refine R1 x5 rfl (x7 (by kernel_rfl) (x3 (x6 (x6 ?_))))
 refine x8 ?_
 refine R1 x4 rfl (R1 (xb7 Tryz.underlying45) rfl (R2 (xe4 (wr64 (by omega) (by omega))) rfl rfl (R1 x5 rfl (x7 (by kernel_rfl) (x3 (xb3 ?_))))))
 refine xe0 (fun (fm : (Nat) × (List Nat)) => (fun (k : Nat) (qs : List Nat) => k ≤ (dig 65536 a).length ∧ qs.length = (dig 65536 a).length ∧ Dig 65536 qs ∧ val 65536 (qs.drop k) = a / 65536 ^ k / d) fm.1 fm.2) (fun (fm : (Nat) × (List Nat)) => (fun (k : Nat) (qs : List Nat) => upd (upd (upd (upd (upd (fun _ => none) 0 (some (.val (tM a)))) 1 (some (.val (tI d)))) 6 (some (.own (.sl 11 1 0 (dig 65536 a).length)))) 7 (some (.val (tI ((a / 65536 ^ k % d : Nat) : Int))))) 8 (some (.val (tI ((k : Int) - 1))))) fm.1 fm.2) (fun (fm : (Nat) × (List Nat)) => (fun (k : Nat) (qs : List Nat) => upd (fun _ => none) 11 (some (⟨166, 1, false, rW .u16 qs⟩))) fm.1 fm.2) (nm [11]) (fun (fm : (Nat) × (List Nat)) => (fun (k : Nat) (qs : List Nat) => k) fm.1 fm.2) (((dig 65536 a).length, List.replicate (dig 65536 a).length 0)) (by dsimp only; exact ⟨Nat.le_refl _, by simp, Dig.rep (by decide) _, by rw [Nat.div_eq_of_lt (xh3 xb0 a), Nat.zero_div, List.drop_replicate, xg9]⟩) (Sub.int rfl (by first | omega | rfl | (dsimp only; omega)) (Sub.le rfl (Le.int (by dsimp only; rw [Nat.div_eq_of_lt (xh3 xb0 a), Nat.zero_mod]; rfl)) (Sub.cons rfl (Sub.int rfl (by first | omega | rfl | (dsimp only; omega)) (Sub.cons rfl Sub.nil))))) ((SubK.consI rfl ImpK.refl) SubK.nil) (SupG.val (SupG.val (SupG.own rfl (SupG.val (SupG.val SupG.nil))))) (SupH.cons rfl (supJ xc3) SupH.nil) (lkOk rfl) ?_
 intro fm hI
 obtain ⟨k, qs⟩ := fm
 replace hI : k ≤ (dig 65536 a).length ∧ qs.length = (dig 65536 a).length ∧ Dig 65536 qs ∧ val 65536 (qs.drop k) = a / 65536 ^ k / d := hI
 show wc _ _ _ _ (upd (upd (upd (upd (upd (fun _ => none) 0 (some (.val (tM a)))) 1 (some (.val (tI d)))) 6 (some (.own (.sl 11 1 0 (dig 65536 a).length)))) 7 (some (.val (tI ((a / 65536 ^ k % d : Nat) : Int))))) 8 (some (.val (tI ((k : Int) - 1))))) (upd (fun _ => none) 11 (some (⟨166, 1, false, rW .u16 qs⟩))) _
 obtain ⟨hk, hl, hD, hv⟩ := hI
 have hr : a / 65536 ^ k % d < d := Nat.mod_lt _ hd
 refine x6 (x6 ?_)
 refine x8 ?_
 refine R1 x4 rfl (R2 d_geq rfl rfl (x7 (by kernel_rfl) (x3 ?_)))
 refine xc5 rfl (fun h93 => ?_) (fun h93 => ?_)
 ·
  obtain ⟨j, rfl⟩ : ∃ j, k = j + 1 := ⟨k - 1, by omega⟩
  have hx := xe5 xb0 a j
  have hx1 := (xe6 xb0 a).getD (by decide) j
  obtain ⟨n1, n2, n3, n4, n5⟩ := short_in (k := j) (by omega) hl hD hd rfl hv (by rw [← hx])
  have hq0 := Nat.zero_le (((a / 65536 ^ (j + 1) % d) * 65536 + (dig 65536 a).getD j 0) / d)
  refine xa5 (x3 (x6 (xb3 (x6 ?_))))
  refine x8 ?_
  refine R1 x4 rfl (R2 (d_mul (r := (((a / 65536 ^ (j + 1) % d) * 65536 : Nat) : Int)) (by rw [wr64 (by omega) (by omega)]; omega)) rfl rfl (R1 x4 rfl (R1 x4 rfl (R2 (xb6 sl45 (j) (by omega) (gN (by omega))) rfl rfl (R1 (xb8 ti166) rfl (R1 (xb4 Tryz.underlying3 (isS Tryz.underlying166) (wr64 (by omega) (by omega))) rfl (R2 (xc2 (r := ((((a / 65536 ^ (j + 1) % d) * 65536 + (dig 65536 a).getD j 0) : Nat) : Int)) (by rw [wr64 (by omega) (by omega)]; omega)) rfl rfl ?_)))))))
  refine R1 x5 rfl (x7 (by kernel_rfl) (x3 (x6 ?_)))
  refine x8 ?_
  refine R1 x4 rfl (R1 x4 rfl (R1 x4 rfl (R1 x4 rfl (R2 (d_quo (r := ((((a / 65536 ^ (j + 1) % d) * 65536 + (dig 65536 a).getD j 0) / d : Nat) : Int)) (by omega) (iquo64 (by omega))) rfl rfl (R1 (xb4 Tryz.underlying166 (isS Tryz.underlying3) (wu16 (by omega) (by omega))) rfl (R2 (xd0 sl45 (by omega) (by omega) rfl) rfl rfl (RE (xa6 (j) ti166 (rW_lt (by omega)) (by omega) (rW_set (m := _) rfl)) ⟨rfl, rfl, trivial⟩ ⟨rfl, trivial⟩ trivial ?_)))))))
  refine x7 (by kernel_rfl) (x3 ?_)
  refine x8 ?_
  refine R1 x4 rfl (R1 x4 rfl (R2 (d_rem (by omega) wrem64) rfl rfl (R1 x5 rfl (x7 (by kernel_rfl) (xc8 (x3 ?_))))))
  refine x8 ?_
  refine R1 x4 rfl (R2 (xe4 (wr64 (by omega) (by omega))) rfl rfl (R1 x5 rfl (x7 (by kernel_rfl) ?_)))
  exact xc6 ((j, qs.set j (((a / 65536 ^ (j + 1) % d) * 65536 + (dig 65536 a).getD j 0) / d))) ⟨(by dsimp only; exact ⟨by omega, n1, n2, n4⟩), (by dsimp only; omega)⟩ (Sub.int rfl (by first | omega | rfl | (dsimp only; omega)) (Sub.le rfl (Le.int (by dsimp only; rw [hx, n3])) (Sub.cons rfl (Sub.int rfl (by first | omega | rfl | (dsimp only; omega)) (Sub.cons rfl Sub.nil))))) ((SubK.consI rfl ImpK.refl) SubK.nil) (SupG.val (SupG.val (SupG.own rfl (SupG.val (SupG.val SupG.nil))))) (SupH.cons rfl (supJ xc3) SupH.nil) (lkOk rfl)
 ·
  have hk0 : k = 0 := by omega
  subst hk0
  rw [List.drop_zero, Nat.pow_zero, Nat.div_one] at hv
  refine xd8 (xc1 (xc1 (xe3 (x3 (x6 ?_)))))
  refine x8 ?_
  refine RE (xi3 (f := fun n : Nat => tE (.int .u16 n)) (fun _ h => h) (rW_all hl) hl) ⟨rfl, trivial⟩ ⟨rfl, trivial⟩ trivial (R1 (xa0 (c_RTrim _) fi181 rfl) rfl (R1 x4 rfl (R1 (xb4 Tryz.underlying166 (isS Tryz.underlying3) (wu16 (by omega) (by omega))) rfl (R1 (d_nums (n := 1) [a / 65536 ^ 0 % d] Tryz.underlying45 el166 zf166 rfl rfl rfl) rfl (R1 (xa0 (c_RTrim _) fi181 rfl) rfl (R1 x5 rfl (R1 x5 rfl ?_)))))))
  refine x7 (by kernel_rfl) (x3 (xa2 ?_))
  exact xf6 Plain.mk' rfl rfl rfl (Le.of (congrArg tLm (by rw [xf9 xb0 hD, hv]))) (Le.of (congrArg tLm (by rw [trim1L (by omega), Nat.pow_zero, Nat.div_one])))
end An.S

/- The reference's arithmetic on limbs: sums, differences, halves. Plain numbers. -/
namespace An
open Go
theorem pow_le_of_lt_len {a i : Nat} (h : i < (dig 65536 a).length) : 65536 ^ i ≤ a := by
  rcases Nat.lt_or_ge a (65536 ^ i) with h' | h'
  · have := (xd6 xb0 a i).2 h'; omega
  · exact h'
theorem rplus_in {a b i n s : Nat} (hn : n = (a % 65536 ^ i + b % 65536 ^ i) / 65536 ^ i) (hs : s = n + a / 65536 ^ i % 65536 + b / 65536 ^ i % 65536) :
    dgs 65536 i (a + b) ++ [s % 65536] = dgs 65536 (i + 1) (a + b) ∧ s / 65536 = (a % 65536 ^ (i + 1) + b % 65536 ^ (i + 1)) / 65536 ^ (i + 1) := by
  have hp : 0 < 65536 ^ i := Nat.pow_pos (by decide)
  have ea := Nat.div_add_mod a (65536 ^ i)
  have eb := Nat.div_add_mod b (65536 ^ i)
  have e1 : (a + b) / 65536 ^ i = n + a / 65536 ^ i + b / 65536 ^ i := by
    have : a + b = (a % 65536 ^ i + b % 65536 ^ i) + 65536 ^ i * (a / 65536 ^ i + b / 65536 ^ i) := by rw [Nat.mul_add]; omega
    rw [this, Nat.add_mul_div_left _ _ hp, ← hn]; omega
  refine ⟨?_, ?_⟩
  · rw [dgs_succ, e1, hs]
    congr 2
    omega
  · rw [Nat.pow_succ, ← Nat.div_div_eq_div_mul, ← Nat.pow_succ, xi1, xi1]
    have e2 : a % 65536 ^ i + 65536 ^ i * (a / 65536 ^ i % 65536) + (b % 65536 ^ i + 65536 ^ i * (b / 65536 ^ i % 65536)) = (a % 65536 ^ i + b % 65536 ^ i) + 65536 ^ i * (a / 65536 ^ i % 65536 + b / 65536 ^ i % 65536) := by rw [Nat.mul_add]; omega
    rw [e2, Nat.add_mul_div_left _ _ hp, ← hn, hs]
    congr 1; omega
theorem rplus_more {a b i n : Nat} (hn : n = (a % 65536 ^ i + b % 65536 ^ i) / 65536 ^ i) (h : i < (dig 65536 a).length ∨ i < (dig 65536 b).length ∨ 0 < n) : i + 1 ≤ (dig 65536 (a + b)).length := by
  have hp : 0 < 65536 ^ i := Nat.pow_pos (by decide)
  have h1 : 65536 ^ i ≤ a + b := by
    rcases h with h | h | h
    · have := pow_le_of_lt_len h; omega
    · have := pow_le_of_lt_len h; omega
    · have h2 : 65536 ^ i ≤ a % 65536 ^ i + b % 65536 ^ i := by
        rcases Nat.lt_or_ge (a % 65536 ^ i + b % 65536 ^ i) (65536 ^ i) with h' | h'
        · rw [Nat.div_eq_of_lt h'] at hn; omega
        · exact h'
      have := Nat.mod_le a (65536 ^ i); have := Nat.mod_le b (65536 ^ i)
      omega
  rcases Nat.lt_or_ge i (dig 65536 (a + b)).length with h' | h'
  · exact h'
  · have := (xd6 xb0 (a + b) i).1 h'; omega
theorem rplus_end {a b i n : Nat} (hn : n = (a % 65536 ^ i + b % 65536 ^ i) / 65536 ^ i) (h0 : n = 0) (ha : (dig 65536 a).length ≤ i) (hb : (dig 65536 b).length ≤ i) (hi : i ≤ (dig 65536 (a + b)).length) : dgs 65536 i (a + b) = dig 65536 (a + b) := by
  have hp : 0 < 65536 ^ i := Nat.pow_pos (by decide)
  rw [mod_all xb0 ha, mod_all xb0 hb, h0] at hn
  have h1 : a + b < 65536 ^ i := (Nat.div_eq_zero_iff_lt hp).1 hn.symm
  have h2 := (xd6 xb0 (a + b) i).2 h1
  rw [show i = (dig 65536 (a + b)).length by omega, dig_eq_dgs xb0]
theorem rplus_small {a b i n : Nat} (hn : n = (a % 65536 ^ i + b % 65536 ^ i) / 65536 ^ i) : n ≤ 1 := by
  have hp : 0 < 65536 ^ i := Nat.pow_pos (by decide)
  have h1 := Nat.mod_lt a hp; have h2 := Nat.mod_lt b hp
  rw [hn]
  exact Nat.le_of_lt_succ (Nat.div_lt_of_lt_mul (by omega))
theorem rminus_in {a b i br n : Nat} {cs : List Nat} (hl : cs.length = i) (hv : val 65536 cs + b % 65536 ^ i = a % 65536 ^ i + br * 65536 ^ i) (hbr : br ≤ 1) (hn : n + br + b / 65536 ^ i % 65536 = 65536 + a / 65536 ^ i % 65536) :
    val 65536 (cs ++ [n % 65536]) + b % 65536 ^ (i + 1) = a % 65536 ^ (i + 1) + (1 - n / 65536) * 65536 ^ (i + 1) ∧ n / 65536 ≤ 1 ∧ 1 - n / 65536 ≤ 1 := by
  have h1 : a / 65536 ^ i % 65536 < 65536 := Nat.mod_lt _ (by decide)
  have h2 : b / 65536 ^ i % 65536 < 65536 := Nat.mod_lt _ (by decide)
  refine ⟨?_, by omega, by omega⟩
  rw [val_snoc, hl]
  exact sub_step hv rfl rfl (by omega)
theorem rminus_end {n a b br : Nat} {ws : List Nat} (hl : ws.length = n) (hD : Dig 65536 ws) (ha : a < 65536 ^ n) (hba : b ≤ a) (h : val 65536 ws + b % 65536 ^ n = a % 65536 ^ n + br * 65536 ^ n) : trimL ws = dig 65536 (a - b) := by
  rw [Nat.mod_eq_of_lt ha, Nat.mod_eq_of_lt (by omega)] at h
  have h1 := val_lt hD
  rw [hl] at h1
  rw [xf9 xb0 hD]
  congr 1
  rcases Nat.eq_zero_or_pos br with h0 | h0
  · subst h0; omega
  · have : 65536 ^ n ≤ br * 65536 ^ n := Nat.le_mul_of_pos_left _ h0
    omega
theorem len_dbl {a b k : Nat} (ha : (dig 65536 a).length ≤ k) (hb : (dig 65536 b).length ≤ k) : (dig 65536 (a + b)).length ≤ k + 1 := by
  rw [xd6 xb0] at *
  rw [Nat.pow_succ]; generalize 65536 ^ k = P at *; omega
end An

/- The reference of layer 1: sums, differences. -/
namespace An.S
open Go Go.Proofs An
set_option maxHeartbeats 2000000
theorem c_RPlus (a b : Nat) (ha : (dig 65536 a).length ≤ 100000) (hb : (dig 65536 b).length ≤ 100000) :
  Ct Tryz.prog 134 [tM a, tM b] (tM (a + b)) := by
 have hab := len_dbl ha hb
 refine Ct.intro Tryz.func134 rfl Tryz.ntmps134 rfl ?_
 intro w F
 refine x6 ?_
 refine x8 ?_
 refine R1 x5 rfl (x7 (by kernel_rfl) (x3 (x6 ?_)))
 refine x8 ?_
 refine RE (d_assignN (k := 5) 166 1 false rfl (fun _ => rfl)) trivial trivial ⟨rfl, trivial⟩ (x7 (by kernel_rfl) (x3 (x6 ?_)))
 refine x8 ?_
 refine R1 x5 rfl (x7 (by kernel_rfl) (x3 (x6 (x6 ?_))))
 refine x8 ?_
 refine R1 x5 rfl (x7 (by kernel_rfl) (x3 (xb3 ?_)))
 refine xe0 (fun (fm : (Nat) × (Nat) × (List Nat)) => (fun (i : Nat) (n : Nat) (cs : List Nat) => i ≤ (dig 65536 (a + b)).length ∧ n = (a % 65536 ^ i + b % 65536 ^ i) / 65536 ^ i ∧ cs = dgs 65536 i (a + b)) fm.1 fm.2.1 fm.2.2) (fun (fm : (Nat) × (Nat) × (List Nat)) => (fun (i : Nat) (n : Nat) (cs : List Nat) => upd (upd (upd (upd (upd (fun _ => none) 0 (some (.val (tM a)))) 1 (some (.val (tM b)))) 5 (some (.own (.sl 5 1 0 cs.length)))) 7 (some (.val (tI i)))) 6 (some (.val (tI n)))) fm.1 fm.2.1 fm.2.2) (fun (fm : (Nat) × (Nat) × (List Nat)) => (fun (i : Nat) (n : Nat) (cs : List Nat) => upd (fun _ => none) 5 (some (⟨166, 1, false, rW .u16 cs⟩))) fm.1 fm.2.1 fm.2.2) (nm [5]) (fun (fm : (Nat) × (Nat) × (List Nat)) => (fun (i : Nat) (n : Nat) (cs : List Nat) => (dig 65536 (a + b)).length - i) fm.1 fm.2.1 fm.2.2) ((0, 0, [])) (by dsimp only; exact ⟨Nat.zero_le _, by simp [Nat.mod_one], rfl⟩) (Sub.int rfl (by first | omega | rfl | (dsimp only; omega)) (Sub.int rfl (by first | omega | rfl | (dsimp only; omega)) (Sub.cons rfl (Sub.cons rfl (Sub.cons rfl Sub.nil))))) ((SubK.consI rfl ImpK.refl) SubK.nil) (SupG.val (SupG.val (SupG.own rfl (SupG.val (SupG.val SupG.nil))))) (SupH.cons rfl (supJ xc3) SupH.nil) (lkOk rfl) ?_
 intro fm hI
 obtain ⟨i, n, cs⟩ := fm
 replace hI : i ≤ (dig 65536 (a + b)).length ∧ n = (a % 65536 ^ i + b % 65536 ^ i) / 65536 ^ i ∧ cs = dgs 65536 i (a + b) := hI
 show wc _ _ _ _ (upd (upd (upd (upd (upd (fun _ => none) 0 (some (.val (tM a)))) 1 (some (.val (tM b)))) 5 (some (.own (.sl 5 1 0 cs.length)))) 7 (some (.val (tI i)))) 6 (some (.val (tI n)))) (upd (fun _ => none) 5 (some (⟨166, 1, false, rW .u16 cs⟩))) _
 obtain ⟨hi, hn, hcs⟩ := hI
 have hcl : cs.length = i := by rw [hcs, xh1]
 have hn1 := rplus_small hn
 have xa := xe5 xb0 a i
 have xb := xe5 xb0 b i
 have xa1 := (xe6 xb0 a).getD (by decide) i
 have xb1 := (xe6 xb0 b).getD (by decide) i
 refine x6 (x6 ?_)
 refine x8 ?_
 refine R1 x4 rfl (R1 x4 rfl (R1 (xb7 Tryz.underlying45) rfl (R2 xd7 rfl rfl (R1 x4 rfl ?_))))
 refine RGcaseD (t := 12) rfl (fun h35 => ?_) (fun h35 => ?_)
 ·
  have hmore := rplus_more hn (.inl (by omega))
  refine RGoff (decide_eq_true h35) rfl rfl (RGoff (decide_eq_true h35) rfl rfl (RGoff (decide_eq_true h35) rfl rfl (RGoff (decide_eq_true h35) rfl rfl (R2 (xb2 (decide_eq_true h35)) rfl rfl (R1 x4 rfl (RGoff1 rfl rfl (RGoff1 rfl rfl ?_)))))))
  refine R2 (xb2 rfl) rfl rfl (x7 (by kernel_rfl) (x3 (C_bT rfl rfl (xa5 (x3 (x6 (xb3 ?_)))))))
  refine C_join (fun (m1 : Nat) => m1 = (n + a / 65536 ^ i % 65536)) (fun (m1 : Nat) => upd (upd (upd (upd (upd (fun _ => none) 0 (some (.val (tM a)))) 1 (some (.val (tM b)))) 5 (some (.own (.sl 5 1 0 cs.length)))) 7 (some (.val (tI i)))) 6 (some (.val (tI m1)))) (fun (m1 : Nat) => upd (fun _ => none) 5 (some (⟨166, 1, false, rW .u16 cs⟩))) (nm [5]) ?_ ?_
  ·
   refine x6 ?_
   refine x8 ?_
   refine R1 x4 rfl (R1 x4 rfl (R1 (xb7 Tryz.underlying45) rfl (R2 xd7 rfl rfl (x7 (by kernel_rfl) (x3 ?_)))))
   refine xc5 rfl (fun h36 => ?_) (fun h36 => ?_)
   ·
    refine x8 ?_
    refine R1 x4 rfl (R1 x4 rfl (R1 x4 rfl (R2 (xb6 sl45 (i) (by omega) (gN (by omega))) rfl rfl (R1 (xb8 ti166) rfl (R1 (xb4 Tryz.underlying3 (isS Tryz.underlying166) (wr64 (by omega) (by omega))) rfl (R2 (xc2 (r := ((n + (dig 65536 a).getD i 0 : Nat) : Int)) (by rw [wr64 (by omega) (by omega)]; omega)) rfl rfl (R1 x5 rfl ?_)))))))
    refine x7 (by kernel_rfl) ?_
    exact xc6 (n + (dig 65536 a).getD i 0) (by rw [xa]) (Sub.int rfl (by first | omega | rfl | (dsimp only; omega)) (Sub.int rfl (by first | omega | rfl | (dsimp only; omega)) (Sub.cons rfl (Sub.cons rfl (Sub.cons rfl Sub.nil))))) ((SubK.consI rfl ImpK.refl) SubK.nil) (SupG.val (SupG.val (SupG.own rfl (SupG.val (SupG.val SupG.nil))))) (SupH.cons rfl (supJ xc3) SupH.nil) (lkOk rfl)
   ·
    refine xa5 ?_
    exact xc6 (n) (by rw [dig_out xb0 (by omega), Nat.add_zero]) (Sub.int rfl (by first | omega | rfl | (dsimp only; omega)) (Sub.int rfl (by first | omega | rfl | (dsimp only; omega)) (Sub.cons rfl (Sub.cons rfl (Sub.cons rfl Sub.nil))))) ((SubK.consI rfl ImpK.refl) SubK.nil) (SupG.val (SupG.val (SupG.own rfl (SupG.val (SupG.val SupG.nil))))) (SupH.cons rfl (supJ xc3) SupH.nil) (lkOk rfl)
  ·
   intro m1 hm1
   refine C_join (fun (m2 : Nat) => m2 = (m1 + b / 65536 ^ i % 65536)) (fun (m2 : Nat) => upd (upd (upd (upd (upd (fun _ => none) 0 (some (.val (tM a)))) 1 (some (.val (tM b)))) 5 (some (.own (.sl 5 1 0 cs.length)))) 7 (some (.val (tI i)))) 6 (some (.val (tI m2)))) (fun (m2 : Nat) => upd (fun _ => none) 5 (some (⟨166, 1, false, rW .u16 cs⟩))) (nm [5]) ?_ ?_
   ·
    refine x6 ?_
    refine x8 ?_
    refine R1 x4 rfl (R1 x4 rfl (R1 (xb7 Tryz.underlying45) rfl (R2 xd7 rfl rfl (x7 (by kernel_rfl) (x3 ?_)))))
    refine xc5 rfl (fun h39 => ?_) (fun h39 => ?_)
    ·
     refine x8 ?_
     refine R1 x4 rfl (R1 x4 rfl (R1 x4 rfl (R2 (xb6 sl45 (i) (by omega) (gN (by omega))) rfl rfl (R1 (xb8 ti166) rfl (R1 (xb4 Tryz.underlying3 (isS Tryz.underlying166) (wr64 (by omega) (by omega))) rfl (R2 (xc2 (r := ((m1 + (dig 65536 b).getD i 0 : Nat) : Int)) (by rw [wr64 (by omega) (by omega)]; omega)) rfl rfl (R1 x5 rfl ?_)))))))
     refine x7 (by kernel_rfl) ?_
     exact xc6 (m1 + (dig 65536 b).getD i 0) (by rw [xb]) (Sub.int rfl (by first | omega | rfl | (dsimp only; omega)) (Sub.int rfl (by first | omega | rfl | (dsimp only; omega)) (Sub.cons rfl (Sub.cons rfl (Sub.cons rfl Sub.nil))))) ((SubK.consI rfl ImpK.refl) SubK.nil) (SupG.val (SupG.val (SupG.own rfl (SupG.val (SupG.val SupG.nil))))) (SupH.cons rfl (supJ xc3) SupH.nil) (lkOk rfl)
    ·
     refine xa5 ?_
     exact xc6 (m1) (by rw [dig_out xb0 (by omega), Nat.add_zero]) (Sub.int rfl (by first | omega | rfl | (dsimp only; omega)) (Sub.int rfl (by first | omega | rfl | (dsimp only; omega)) (Sub.cons rfl (Sub.cons rfl (Sub.cons rfl Sub.nil))))) ((SubK.consI rfl ImpK.refl) SubK.nil) (SupG.val (SupG.val (SupG.own rfl (SupG.val (SupG.val SupG.nil))))) (SupH.cons rfl (supJ xc3) SupH.nil) (lkOk rfl)
   ·
    intro m2 hm2
    refine x6 ?_
    refine x8 ?_
    refine R1 x4 rfl (R1 x4 rfl (R2 (d_rem (r := ((m2 % 65536 : Nat) : Int)) (by decide) (wrem64 (b := 65536))) rfl rfl (R1 (xb4 Tryz.underlying166 (isS Tryz.underlying3) (wu16 (by omega) (by omega))) rfl (R1 (d_nums (n := 1) [m2 % 65536] Tryz.underlying45 el166 zf166 rfl rfl rfl) rfl (RE (xg4 (k := 5) (k' := 51) (ts' := rW .u16 (cs ++ [m2 % 65536])) Tryz.underlying45 el166 zf166 rfl rfl (fun _ => inferInstance) rW_len (by simp; omega) (by simp; omega) (by simp [rW]) (n' := cs.length + 1) rfl) ⟨rfl, rfl, trivial⟩ ⟨rfl, trivial⟩ ⟨rfl, trivial⟩ (R1 x5 rfl (x7 (by kernel_rfl) ?_)))))))
    refine x3 ?_
    refine x8 ?_
    refine R1 x4 rfl (R2 (d_quo (r := ((m2 / 65536 : Nat) : Int)) (by decide) (iquo64 (b := 65536) (by omega))) rfl rfl (R1 x5 rfl (x7 (by kernel_rfl) (xc8 (x3 ?_)))))
    refine x8 ?_
    refine R1 x4 rfl (R2 (xc2 (wr64 (by omega) (by omega))) rfl rfl (R1 x5 rfl (x7 (by kernel_rfl) ?_)))
    obtain ⟨n1, n2⟩ := rplus_in (s := m2) hn (by rw [hm2, hm1])
    exact K_famR (l := [5]) (fun j => cond (Nat.beq j 5) 51 (j)) ((i + 1, m2 / 65536, cs ++ [m2 % 65536])) ⟨(by dsimp only; exact ⟨hmore, n2, by rw [hcs]; exact n1⟩), (by dsimp only; omega)⟩ (SubR.int rfl (by first | omega | rfl | (dsimp only; omega)) (SubR.int rfl (by first | omega | rfl | (dsimp only; omega)) ((SubR.consI rfl (Imp.of (by dsimp only; rw [List.length_append]; rfl))) (SubR.cons rfl (SubR.cons rfl SubR.nil))))) ((SubKR.consI rfl (ImpK.of ren_rW.symm)) SubKR.nil) (SupG.val (SupG.val (SupG.own rfl (SupG.val (SupG.val SupG.nil))))) (SupH.cons rfl (supJ xc3) SupH.nil) (lkOk rfl) rfl rfl (fun _ h => by cases h)
 ·
  refine RGon (decide_eq_false h35) rfl x4 rfl ⟨rfl, trivial⟩ trivial trivial (RGon (decide_eq_false h35) rfl x4 rfl ⟨rfl, trivial⟩ trivial trivial (RGon (decide_eq_false h35) rfl (xb7 Tryz.underlying45) rfl ⟨rfl, trivial⟩ trivial trivial (RGon (decide_eq_false h35) rfl xd7 rfl ⟨rfl, rfl, trivial⟩ trivial trivial (R2 (xc0 (decide_eq_false h35)) rfl rfl (R1 x4 rfl ?_)))))
  refine RGcaseD (t := 18) rfl (fun h35_2 => ?_) (fun h35_2 => ?_)
  ·
   have hmore := rplus_more hn (.inr (.inl (by omega)))
   refine RGoff (decide_eq_true h35_2) rfl rfl (RGoff (decide_eq_true h35_2) rfl rfl (R2 (xb2 (decide_eq_true h35_2)) rfl rfl (x7 (by kernel_rfl) (x3 (C_bT rfl rfl (xa5 (x3 ?_)))))))
   refine x6 (xb3 ?_)
   refine C_join (fun (m1 : Nat) => m1 = (n + a / 65536 ^ i % 65536)) (fun (m1 : Nat) => upd (upd (upd (upd (upd (fun _ => none) 0 (some (.val (tM a)))) 1 (some (.val (tM b)))) 5 (some (.own (.sl 5 1 0 cs.length)))) 7 (some (.val (tI i)))) 6 (some (.val (tI m1)))) (fun (m1 : Nat) => upd (fun _ => none) 5 (some (⟨166, 1, false, rW .u16 cs⟩))) (nm [5]) ?_ ?_
   ·
    refine x6 ?_
    refine x8 ?_
    refine R1 x4 rfl (R1 x4 rfl (R1 (xb7 Tryz.underlying45) rfl (R2 xd7 rfl rfl (x7 (by kernel_rfl) (x3 ?_)))))
    refine xc5 rfl (fun h36 => ?_) (fun h36 => ?_)
    ·
     refine x8 ?_
     refine R1 x4 rfl (R1 x4 rfl (R1 x4 rfl (R2 (xb6 sl45 (i) (by omega) (gN (by omega))) rfl rfl (R1 (xb8 ti166) rfl (R1 (xb4 Tryz.underlying3 (isS Tryz.underlying166) (wr64 (by omega) (by omega))) rfl (R2 (xc2 (r := ((n + (dig 65536 a).getD i 0 : Nat) : Int)) (by rw [wr64 (by omega) (by omega)]; omega)) rfl rfl (R1 x5 rfl ?_)))))))
     refine x7 (by kernel_rfl) ?_
     exact xc6 (n + (dig 65536 a).getD i 0) (by rw [xa]) (Sub.int rfl (by first | omega | rfl | (dsimp only; omega)) (Sub.int rfl (by first | omega | rfl | (dsimp only; omega)) (Sub.cons rfl (Sub.cons rfl (Sub.cons rfl Sub.nil))))) ((SubK.consI rfl ImpK.refl) SubK.nil) (SupG.val (SupG.val (SupG.own rfl (SupG.val (SupG.val SupG.nil))))) (SupH.cons rfl (supJ xc3) SupH.nil) (lkOk rfl)
    ·
     refine xa5 ?_
     exact xc6 (n) (by rw [dig_out xb0 (by omega), Nat.add_zero]) (Sub.int rfl (by first | omega | rfl | (dsimp only; omega)) (Sub.int rfl (by first | omega | rfl | (dsimp only; omega)) (Sub.cons rfl (Sub.cons rfl (Sub.cons rfl Sub.nil))))) ((SubK.consI rfl ImpK.refl) SubK.nil) (SupG.val (SupG.val (SupG.own rfl (SupG.val (SupG.val SupG.nil))))) (SupH.cons rfl (supJ xc3) SupH.nil) (lkOk rfl)
   ·
    intro m1 hm1
    refine C_join (fun (m2 : Nat) => m2 = (m1 + b / 65536 ^ i % 65536)) (fun (m2 : Nat) => upd (upd (upd (upd (upd (fun _ => none) 0 (some (.val (tM a)))) 1 (some (.val (tM b)))) 5 (some (.own (.sl 5 1 0 cs.length)))) 7 (some (.val (tI i)))) 6 (some (.val (tI m2)))) (fun (m2 : Nat) => upd (fun _ => none) 5 (some (⟨166, 1, false, rW .u16 cs⟩))) (nm [5]) ?_ ?_
    ·
     refine x6 ?_
     refine x8 ?_
     refine R1 x4 rfl (R1 x4 rfl (R1 (xb7 Tryz.underlying45) rfl (R2 xd7 rfl rfl (x7 (by kernel_rfl) (x3 ?_)))))
     refine xc5 rfl (fun h39 => ?_) (fun h39 => ?_)
     ·
      refine x8 ?_
      refine R1 x4 rfl (R1 x4 rfl (R1 x4 rfl (R2 (xb6 sl45 (i) (by omega) (gN (by omega))) rfl rfl (R1 (xb8 ti166) rfl (R1 (xb4 Tryz.underlying3 (isS Tryz.underlying166) (wr64 (by omega) (by omega))) rfl (R2 (xc2 (r := ((m1 + (dig 65536 b).getD i 0 : Nat) : Int)) (by rw [wr64 (by omega) (by omega)]; omega)) rfl rfl (R1 x5 rfl ?_)))))))
      refine x7 (by kernel_rfl) ?_
      exact xc6 (m1 + (dig 65536 b).getD i 0) (by rw [xb]) (Sub.int rfl (by first | omega | rfl | (dsimp only; omega)) (Sub.int rfl (by first | omega | rfl | (dsimp only; omega)) (Sub.cons rfl (Sub.cons rfl (Sub.cons rfl Sub.nil))))) ((SubK.consI rfl ImpK.refl) SubK.nil) (SupG.val (SupG.val (SupG.own rfl (SupG.val (SupG.val SupG.nil))))) (SupH.cons rfl (supJ xc3) SupH.nil) (lkOk rfl)
     ·
      refine xa5 ?_
      exact xc6 (m1) (by rw [dig_out xb0 (by omega), Nat.add_zero]) (Sub.int rfl (by first | omega | rfl | (dsimp only; omega)) (Sub.int rfl (by first | omega | rfl | (dsimp only; omega)) (Sub.cons rfl (Sub.cons rfl (Sub.cons rfl Sub.nil))))) ((SubK.consI rfl ImpK.refl) SubK.nil) (SupG.val (SupG.val (SupG.own rfl (SupG.val (SupG.val SupG.nil))))) (SupH.cons rfl (supJ xc3) SupH.nil) (lkOk rfl)
    ·
     intro m2 hm2
     refine x6 ?_
     refine x8 ?_
     refine R1 x4 rfl (R1 x4 rfl (R2 (d_rem (r := ((m2 % 65536 : Nat) : Int)) (by decide) (wrem64 (b := 65536))) rfl rfl (R1 (xb4 Tryz.underlying166 (isS Tryz.underlying3) (wu16 (by omega) (by omega))) rfl (R1 (d_nums (n := 1) [m2 % 65536] Tryz.underlying45 el166 zf166 rfl rfl rfl) rfl (RE (xg4 (k := 5) (k' := 51) (ts' := rW .u16 (cs ++ [m2 % 65536])) Tryz.underlying45 el166 zf166 rfl rfl (fun _ => inferInstance) rW_len (by simp; omega) (by simp; omega) (by simp [rW]) (n' := cs.length + 1) rfl) ⟨rfl, rfl, trivial⟩ ⟨rfl, trivial⟩ ⟨rfl, trivial⟩ (R1 x5 rfl (x7 (by kernel_rfl) ?_)))))))
     refine x3 ?_
     refine x8 ?_
     refine R1 x4 rfl (R2 (d_quo (r := ((m2 / 65536 : Nat) : Int)) (by decide) (iquo64 (b := 65536) (by omega))) rfl rfl (R1 x5 rfl (x7 (by kernel_rfl) (xc8 (x3 ?_)))))
     refine x8 ?_
     refine R1 x4 rfl (R2 (xc2 (wr64 (by omega) (by omega))) rfl rfl (R1 x5 rfl (x7 (by kernel_rfl) ?_)))
     obtain ⟨n1, n2⟩ := rplus_in (s := m2) hn (by rw [hm2, hm1])
     exact K_famR (l := [5]) (fun j => cond (Nat.beq j 5) 51 (j)) ((i + 1, m2 / 65536, cs ++ [m2 % 65536])) ⟨(by dsimp only; exact ⟨hmore, n2, by rw [hcs]; exact n1⟩), (by dsimp only; omega)⟩ (SubR.int rfl (by first | omega | rfl | (dsimp only; omega)) (SubR.int rfl (by first | omega | rfl | (dsimp only; omega)) ((SubR.consI rfl (Imp.of (by dsimp only; rw [List.length_append]; rfl))) (SubR.cons rfl (SubR.cons rfl SubR.nil))))) ((SubKR.consI rfl (ImpK.of ren_rW.symm)) SubKR.nil) (SupG.val (SupG.val (SupG.own rfl (SupG.val (SupG.val SupG.nil))))) (SupH.cons rfl (supJ xc3) SupH.nil) (lkOk rfl) rfl rfl (fun _ h => by cases h)
  ·
   refine RGon (decide_eq_false h35_2) rfl x4 rfl ⟨rfl, trivial⟩ trivial trivial (RGon (decide_eq_false h35_2) rfl xf2 rfl ⟨rfl, rfl, trivial⟩ trivial trivial (R2 (xc0 (decide_eq_false h35_2)) rfl rfl (x7 (by kernel_rfl) (x3 ?_))))
   refine xc5 rfl (fun h35_3 => ?_) (fun h35_3 => ?_)
   ·
    have hmore := rplus_more hn (.inr (.inr (by omega)))
    refine xa5 (x3 (x6 (xb3 ?_)))
    refine C_join (fun (m1 : Nat) => m1 = (n + a / 65536 ^ i % 65536)) (fun (m1 : Nat) => upd (upd (upd (upd (upd (fun _ => none) 0 (some (.val (tM a)))) 1 (some (.val (tM b)))) 5 (some (.own (.sl 5 1 0 cs.length)))) 7 (some (.val (tI i)))) 6 (some (.val (tI m1)))) (fun (m1 : Nat) => upd (fun _ => none) 5 (some (⟨166, 1, false, rW .u16 cs⟩))) (nm [5]) ?_ ?_
    ·
     refine x6 ?_
     refine x8 ?_
     refine R1 x4 rfl (R1 x4 rfl (R1 (xb7 Tryz.underlying45) rfl (R2 xd7 rfl rfl (x7 (by kernel_rfl) (x3 ?_)))))
     refine xc5 rfl (fun h36 => ?_) (fun h36 => ?_)
     ·
      refine x8 ?_
      refine R1 x4 rfl (R1 x4 rfl (R1 x4 rfl (R2 (xb6 sl45 (i) (by omega) (gN (by omega))) rfl rfl (R1 (xb8 ti166) rfl (R1 (xb4 Tryz.underlying3 (isS Tryz.underlying166) (wr64 (by omega) (by omega))) rfl (R2 (xc2 (r := ((n + (dig 65536 a).getD i 0 : Nat) : Int)) (by rw [wr64 (by omega) (by omega)]; omega)) rfl rfl (R1 x5 rfl ?_)))))))
      refine x7 (by kernel_rfl) ?_
      exact xc6 (n + (dig 65536 a).getD i 0) (by rw [xa]) (Sub.int rfl (by first | omega | rfl | (dsimp only; omega)) (Sub.int rfl (by first | omega | rfl | (dsimp only; omega)) (Sub.cons rfl (Sub.cons rfl (Sub.cons rfl Sub.nil))))) ((SubK.consI rfl ImpK.refl) SubK.nil) (SupG.val (SupG.val (SupG.own rfl (SupG.val (SupG.val SupG.nil))))) (SupH.cons rfl (supJ xc3) SupH.nil) (lkOk rfl)
     ·
      refine xa5 ?_
      exact xc6 (n) (by rw [dig_out xb0 (by omega), Nat.add_zero]) (Sub.int rfl (by first | omega | rfl | (dsimp only; omega)) (Sub.int rfl (by first | omega | rfl | (dsimp only; omega)) (Sub.cons rfl (Sub.cons rfl (Sub.cons rfl Sub.nil))))) ((SubK.consI rfl ImpK.refl) SubK.nil) (SupG.val (SupG.val (SupG.own rfl (SupG.val (SupG.val SupG.nil))))) (SupH.cons rfl (supJ xc3) SupH.nil) (lkOk rfl)
    ·
     intro m1 hm1
     refine C_join (fun (m2 : Nat) => m2 = (m1 + b / 65536 ^ i % 65536)) (fun (m2 : Nat) => upd (upd (upd (upd (upd (fun _ => none) 0 (some (.val (tM a)))) 1 (some (.val (tM b)))) 5 (some (.own (.sl 5 1 0 cs.length)))) 7 (some (.val (tI i)))) 6 (some (.val (tI m2)))) (fun (m2 : Nat) => upd (fun _ => none) 5 (some (⟨166, 1, false, rW .u16 cs⟩))) (nm [5]) ?_ ?_
     ·
      refine x6 ?_
      refine x8 ?_
      refine R1 x4 rfl (R1 x4 rfl (R1 (xb7 Tryz.underlying45) rfl (R2 xd7 rfl rfl (x7 (by kernel_rfl) (x3 ?_)))))
      refine xc5 rfl (fun h39 => ?_) (fun h39 => ?_)
      ·
       refine x8 ?_
       refine R1 x4 rfl (R1 x4 rfl (R1 x4 rfl (R2 (xb6 sl45 (i) (by omega) (gN (by omega))) rfl rfl (R1 (xb8 ti166) rfl (R1 (xb4 Tryz.underlying3 (isS Tryz.underlying166) (wr64 (by omega) (by omega))) rfl (R2 (xc2 (r := ((m1 + (dig 65536 b).getD i 0 : Nat) : Int)) (by rw [wr64 (by omega) (by omega)]; omega)) rfl rfl (R1 x5 rfl ?_)))))))
       refine x7 (by kernel_rfl) ?_
       exact xc6 (m1 + (dig 65536 b).getD i 0) (by rw [xb]) (Sub.int rfl (by first | omega | rfl | (dsimp only; omega)) (Sub.int rfl (by first | omega | rfl | (dsimp only; omega)) (Sub.cons rfl (Sub.cons rfl (Sub.cons rfl Sub.nil))))) ((SubK.consI rfl ImpK.refl) SubK.nil) (SupG.val (SupG.val (SupG.own rfl (SupG.val (SupG.val SupG.nil))))) (SupH.cons rfl (supJ xc3) SupH.nil) (lkOk rfl)
      ·
       refine xa5 ?_
       exact xc6 (m1) (by rw [dig_out xb0 (by omega), Nat.add_zero]) (Sub.int rfl (by first | omega | rfl | (dsimp only; omega)) (Sub.int rfl (by first | omega | rfl | (dsimp only; omega)) (Sub.cons rfl (Sub.cons rfl (Sub.cons rfl Sub.nil))))) ((SubK.consI rfl ImpK.refl) SubK.nil) (SupG.val (SupG.val (SupG.own rfl (SupG.val (SupG.val SupG.nil))))) (SupH.cons rfl (supJ xc3) SupH.nil) (lkOk rfl)
     ·
      intro m2 hm2
      refine x6 ?_
      refine x8 ?_
      refine R1 x4 rfl (R1 x4 rfl (R2 (d_rem (r := ((m2 % 65536 : Nat) : Int)) (by decide) (wrem64 (b := 65536))) rfl rfl (R1 (xb4 Tryz.underlying166 (isS Tryz.underlying3) (wu16 (by omega) (by omega))) rfl (R1 (d_nums (n := 1) [m2 % 65536] Tryz.underlying45 el166 zf166 rfl rfl rfl) rfl (RE (xg4 (k := 5) (k' := 51) (ts' := rW .u16 (cs ++ [m2 % 65536])) Tryz.underlying45 el166 zf166 rfl rfl (fun _ => inferInstance) rW_len (by simp; omega) (by simp; omega) (by simp [rW]) (n' := cs.length + 1) rfl) ⟨rfl, rfl, trivial⟩ ⟨rfl, trivial⟩ ⟨rfl, trivial⟩ (R1 x5 rfl (x7 (by kernel_rfl) ?_)))))))
      refine x3 ?_
      refine x8 ?_
      refine R1 x4 rfl (R2 (d_quo (r := ((m2 / 65536 : Nat) : Int)) (by decide) (iquo64 (b := 65536) (by omega))) rfl rfl (R1 x5 rfl (x7 (by kernel_rfl) (xc8 (x3 ?_)))))
      refine x8 ?_
      refine R1 x4 rfl (R2 (xc2 (wr64 (by omega) (by omega))) rfl rfl (R1 x5 rfl (x7 (by kernel_rfl) ?_)))
      obtain ⟨n1, n2⟩ := rplus_in (s := m2) hn (by rw [hm2, hm1])
      exact K_famR (l := [5]) (fun j => cond (Nat.beq j 5) 51 (j)) ((i + 1, m2 / 65536, cs ++ [m2 % 65536])) ⟨(by dsimp only; exact ⟨hmore, n2, by rw [hcs]; exact n1⟩), (by dsimp only; omega)⟩ (SubR.int rfl (by first | omega | rfl | (dsimp only; omega)) (SubR.int rfl (by first | omega | rfl | (dsimp only; omega)) ((SubR.consI rfl (Imp.of (by dsimp only; rw [List.length_append]; rfl))) (SubR.cons rfl (SubR.cons rfl SubR.nil))))) ((SubKR.consI rfl (ImpK.of ren_rW.symm)) SubKR.nil) (SupG.val (SupG.val (SupG.own rfl (SupG.val (SupG.val SupG.nil))))) (SupH.cons rfl (supJ xc3) SupH.nil) (lkOk rfl) rfl rfl (fun _ h => by cases h)
   ·
    refine xd8 (xc1 (xc1 (xe3 (x3 (x6 ?_)))))
    refine x8 ?_
    refine RE (xi3 (f := fun n : Nat => tE (.int .u16 n)) (xs := cs) (fun _ h => h) (rW_all rfl) rfl) ⟨rfl, trivial⟩ ⟨rfl, trivial⟩ trivial (R1 x5 rfl (x7 (by kernel_rfl) (x3 (xa2 ?_))))
    exact xa9 Plain.mk' rfl rfl (Le.of (congrArg tLm (by rw [hcs, rplus_end hn (by omega) (by omega) (by omega) hi])))
end An.S

/- The reference's division: bit by bit. Plain numbers. -/
namespace An
open Go
theorem half_in {a k n q m : Nat} {qs : List Nat} (hk : k < m) (hl : qs.length = m) (hD : Dig 65536 qs) (hn : n % 2 = a / 65536 ^ (k + 1) % 2) (hv : val 65536 (qs.drop (k + 1)) = a / 65536 ^ (k + 1) / 2) (hq : (n % 2 * 65536 + a / 65536 ^ k % 65536) / 2 = q) :
    (qs.set k q).length = m ∧ Dig 65536 (qs.set k q) ∧ (n % 2 * 65536 + a / 65536 ^ k % 65536) % 2 = a / 65536 ^ k % 2 ∧ val 65536 ((qs.set k q).drop k) = a / 65536 ^ k / 2 ∧ q < 65536 := short_in hk hl hD (by decide) hn hv hq
theorem from_more {v i u : Nat} (hu : u = v / 65536 ^ i) (h0 : 0 < u) : i + 1 ≤ (dig 65536 v).length ∧ u / 65536 = v / 65536 ^ (i + 1) ∧ dgs 65536 i v ++ [u % 65536] = dgs 65536 (i + 1) v := by
  refine ⟨?_, by rw [hu, Nat.div_div_eq_div_mul, ← Nat.pow_succ], by rw [dgs_succ, hu]⟩
  rcases Nat.lt_or_ge i (dig 65536 v).length with h' | h'
  · exact h'
  · have := (xd6 xb0 v i).1 h'
    rw [Nat.div_eq_of_lt this] at hu; omega
theorem from_end {v i : Nat} (h : v / 65536 ^ i = 0) (hi : i ≤ (dig 65536 v).length) : dgs 65536 i v = dig 65536 v := by
  have h1 : v < 65536 ^ i := (Nat.div_eq_zero_iff_lt (Nat.pow_pos (by decide))).1 h
  have h2 := (xd6 xb0 v i).2 h1
  rw [show i = (dig 65536 v).length by omega, dig_eq_dgs xb0]
theorem bits_le {a n k : Nat} (h : 2 ^ n ≤ a) (hk : (dig 65536 a).length ≤ k) : n < 16 * k := by
  have h1 := (xd6 xb0 a k).1 hk
  have e : 65536 ^ k = 2 ^ (16 * k) := by rw [Nat.pow_mul]
  rw [e] at h1
  exact (Nat.pow_lt_pow_iff_right (by decide)).1 (Nat.lt_of_le_of_lt h h1)
theorem div_bit {a b n i q r d : Nat} (hi : i < n) (hd : d = b * 2 ^ (n - i)) (ha : a = q * d + r) (hr : r < d) :
    d / 2 = b * 2 ^ (n - (i + 1)) ∧ (r < d / 2 → a = (q + q) * (d / 2) + r) ∧ (¬ r < d / 2 → a = (q + q + 1) * (d / 2) + (r - d / 2) ∧ r - d / 2 < d / 2 ∧ d / 2 ≤ r) := by
  have e : d = 2 * (b * 2 ^ (n - (i + 1))) := by rw [hd, show n - i = n - (i + 1) + 1 by omega, Nat.pow_succ]; grind
  have h1 : d / 2 = b * 2 ^ (n - (i + 1)) := by omega
  refine ⟨h1, fun h => ?_, fun h => ⟨?_, by omega, by omega⟩⟩
  · rw [h1, ha, e]; grind
  · rw [h1] at h ⊢
    generalize b * 2 ^ (n - (i + 1)) = c at *
    rw [ha, e]
    have : (q + q + 1) * c = q * (2 * c) + c := by grind
    rw [this]; omega
theorem div_done {a b q r : Nat} (ha : a = q * b + r) (hr : r < b) : q = a / b ∧ r = a % b := by
  have hb : 0 < b := by omega
  constructor
  · rw [ha, Nat.mul_comm, Nat.mul_add_div hb, Nat.div_eq_of_lt hr, Nat.add_zero]
  · rw [ha, Nat.mul_comm, Nat.mul_add_mod, Nat.mod_eq_of_lt hr]
end An

/- The reference of layer 1: differences, halves, quotients. -/
namespace An.S
open Go Go.Proofs An
set_option maxHeartbeats 2000000
theorem fi126 : FnI Tryz.prog 126 := ⟨_, Tryz.func126, by kernel_rfl, rfl⟩
theorem c_RMinus (a b : Nat) (hab : b ≤ a) (ha : (dig 65536 a).length ≤ 100000) :
  Ct Tryz.prog 135 [tM a, tM b] (tM (a - b)) := by
 refine Ct.intro Tryz.func135 rfl Tryz.ntmps135 rfl ?_
 intro w F
 refine x6 ?_
 refine x8 ?_
 refine R1 x5 rfl (x7 (by kernel_rfl) (x3 (x6 ?_)))
 refine x8 ?_
 refine RE (d_assignN (k := 5) 166 1 false rfl (fun _ => rfl)) trivial trivial ⟨rfl, trivial⟩ (x7 (by kernel_rfl) (x3 (x6 ?_)))
 refine x8 ?_
 refine R1 x5 rfl (x7 (by kernel_rfl) (x3 (x6 (x6 ?_))))
 refine x8 ?_
 refine R1 x5 rfl (x7 (by kernel_rfl) (x3 (xb3 ?_)))
 refine xe0 (fun (fm : (Nat) × (Nat) × (List Nat)) => (fun (i : Nat) (br : Nat) (cs : List Nat) => i ≤ (dig 65536 a).length ∧ cs.length = i ∧ Dig 65536 cs ∧ val 65536 cs + b % 65536 ^ i = a % 65536 ^ i + br * 65536 ^ i ∧ br ≤ 1) fm.1 fm.2.1 fm.2.2) (fun (fm : (Nat) × (Nat) × (List Nat)) => (fun (i : Nat) (br : Nat) (cs : List Nat) => upd (upd (upd (upd (upd (fun _ => none) 0 (some (.val (tM a)))) 1 (some (.val (tM b)))) 5 (some (.own (.sl 5 1 0 cs.length)))) 6 (some (.val (tI br)))) 7 (some (.val (tI i)))) fm.1 fm.2.1 fm.2.2) (fun (fm : (Nat) × (Nat) × (List Nat)) => (fun (i : Nat) (br : Nat) (cs : List Nat) => upd (fun _ => none) 5 (some (⟨166, 1, false, rW .u16 cs⟩))) fm.1 fm.2.1 fm.2.2) (nm [5]) (fun (fm : (Nat) × (Nat) × (List Nat)) => (fun (i : Nat) (br : Nat) (cs : List Nat) => (dig 65536 a).length - i) fm.1 fm.2.1 fm.2.2) ((0, 0, [])) (by dsimp only; exact ⟨Nat.zero_le _, rfl, Dig.nil _, by simp [val, Nat.mod_one], by omega⟩) (Sub.int rfl (by first | omega | rfl | (dsimp only; omega)) (Sub.int rfl (by first | omega | rfl | (dsimp only; omega)) (Sub.cons rfl (Sub.cons rfl (Sub.cons rfl Sub.nil))))) ((SubK.consI rfl ImpK.refl) SubK.nil) (SupG.val (SupG.val (SupG.own rfl (SupG.val (SupG.val SupG.nil))))) (SupH.cons rfl (supJ xc3) SupH.nil) (lkOk rfl) ?_
 intro fm hI
 obtain ⟨i, br, cs⟩ := fm
 replace hI : i ≤ (dig 65536 a).length ∧ cs.length = i ∧ Dig 65536 cs ∧ val 65536 cs + b % 65536 ^ i = a % 65536 ^ i + br * 65536 ^ i ∧ br ≤ 1 := hI
 show wc _ _ _ _ (upd (upd (upd (upd (upd (fun _ => none) 0 (some (.val (tM a)))) 1 (some (.val (tM b)))) 5 (some (.own (.sl 5 1 0 cs.length)))) 6 (some (.val (tI br)))) 7 (some (.val (tI i)))) (upd (fun _ => none) 5 (some (⟨166, 1, false, rW .u16 cs⟩))) _
 obtain ⟨hi, hl, hD, hv, hbr⟩ := hI
 have xa := xe5 xb0 a i
 have xb := xe5 xb0 b i
 have xa1 := (xe6 xb0 a).getD (by decide) i
 have xb1 := (xe6 xb0 b).getD (by decide) i
 refine x6 (x6 ?_)
 refine x8 ?_
 refine R1 x4 rfl (R1 x4 rfl (R1 (xb7 Tryz.underlying45) rfl (R2 xd7 rfl rfl (x7 (by kernel_rfl) (x3 ?_)))))
 refine xc5 rfl (fun h52 => ?_) (fun h52 => ?_)
 ·
  refine xa5 (x3 (x6 (xb3 (x6 ?_))))
  refine x8 ?_
  refine R1 x4 rfl (R1 x4 rfl (R2 (xb6 sl45 (i) (by omega) (gN (by omega))) rfl rfl (R1 (xb8 ti166) rfl (R1 (xb4 Tryz.underlying3 (isS Tryz.underlying166) (wr64 (by omega) (by omega))) rfl (R2 (xc2 (r := ((65536 + ((dig 65536 a).getD i 0) : Nat) : Int)) (by rw [wr64 (by omega) (by omega)]; omega)) rfl rfl (R1 x4 rfl (R2 (xe4 (r := ((65536 + ((dig 65536 a).getD i 0) - br : Nat) : Int)) (by rw [wr64 (by omega) (by omega)]; omega)) rfl rfl ?_)))))))
  refine R1 x5 rfl (x7 (by kernel_rfl) (x3 ?_))
  refine C_join (fun (m : Nat) => m + br + b / 65536 ^ i % 65536 = 65536 + a / 65536 ^ i % 65536) (fun (m : Nat) => upd (upd (upd (upd (upd (upd (fun _ => none) 0 (some (.val (tM a)))) 1 (some (.val (tM b)))) 5 (some (.own (.sl 5 1 0 cs.length)))) 6 (some (.val (tI br)))) 7 (some (.val (tI i)))) 8 (some (.val (tI m)))) (fun (m : Nat) => upd (fun _ => none) 5 (some (⟨166, 1, false, rW .u16 cs⟩))) (nm [5]) ?_ ?_
  ·
   refine x6 ?_
   refine x8 ?_
   refine R1 x4 rfl (R1 x4 rfl (R1 (xb7 Tryz.underlying45) rfl (R2 xd7 rfl rfl (x7 (by kernel_rfl) (x3 ?_)))))
   refine xc5 rfl (fun h54 => ?_) (fun h54 => ?_)
   ·
    refine x8 ?_
    refine R1 x4 rfl (R1 x4 rfl (R1 x4 rfl (R2 (xb6 sl45 (i) (by omega) (gN (by omega))) rfl rfl (R1 (xb8 ti166) rfl (R1 (xb4 Tryz.underlying3 (isS Tryz.underlying166) (wr64 (by omega) (by omega))) rfl (R2 (xe4 (r := ((65536 + ((dig 65536 a).getD i 0) - br - ((dig 65536 b).getD i 0) : Nat) : Int)) (by rw [wr64 (by omega) (by omega)]; omega)) rfl rfl (R1 x5 rfl ?_)))))))
    refine x7 (by kernel_rfl) ?_
    exact xc6 (65536 + ((dig 65536 a).getD i 0) - br - ((dig 65536 b).getD i 0)) (by omega) (Sub.int rfl (by first | omega | rfl | (dsimp only; omega)) (Sub.int rfl (by first | omega | rfl | (dsimp only; omega)) (Sub.int rfl (by first | omega | rfl | (dsimp only; omega)) (Sub.cons rfl (Sub.cons rfl (Sub.cons rfl Sub.nil)))))) ((SubK.consI rfl ImpK.refl) SubK.nil) (SupG.val (SupG.val (SupG.val (SupG.own rfl (SupG.val (SupG.val SupG.nil)))))) (SupH.cons rfl (supJ xc3) SupH.nil) (lkOk rfl)
   ·
    refine xa5 ?_
    exact xc6 (65536 + ((dig 65536 a).getD i 0) - br) (by rw [dig_out xb0 (v := b) (i := i) (by omega)]; omega) (Sub.int rfl (by first | omega | rfl | (dsimp only; omega)) (Sub.int rfl (by first | omega | rfl | (dsimp only; omega)) (Sub.int rfl (by first | omega | rfl | (dsimp only; omega)) (Sub.cons rfl (Sub.cons rfl (Sub.cons rfl Sub.nil)))))) ((SubK.consI rfl ImpK.refl) SubK.nil) (SupG.val (SupG.val (SupG.val (SupG.own rfl (SupG.val (SupG.val SupG.nil)))))) (SupH.cons rfl (supJ xc3) SupH.nil) (lkOk rfl)
  ·
   intro m hm
   refine x6 ?_
   refine x8 ?_
   refine R1 x4 rfl (R1 x4 rfl (R2 (d_rem (r := ((m % 65536 : Nat) : Int)) (by decide) (wrem64 (b := 65536))) rfl rfl (R1 (xb4 Tryz.underlying166 (isS Tryz.underlying3) (wu16 (by omega) (by omega))) rfl (R1 (d_nums (n := 1) [m % 65536] Tryz.underlying45 el166 zf166 rfl rfl rfl) rfl (RE (xg4 (k := 5) (k' := 39) (ts' := rW .u16 (cs ++ [m % 65536])) Tryz.underlying45 el166 zf166 rfl rfl (fun _ => inferInstance) rW_len (by simp; omega) (by simp; omega) (by simp [rW]) (n' := cs.length + 1) rfl) ⟨rfl, rfl, trivial⟩ ⟨rfl, trivial⟩ ⟨rfl, trivial⟩ (R1 x5 rfl (x7 (by kernel_rfl) ?_)))))))
   refine x3 ?_
   refine x8 ?_
   refine R1 x4 rfl (R2 (d_quo (r := ((m / 65536 : Nat) : Int)) (by decide) (iquo64 (b := 65536) (by omega))) rfl rfl (R2 (xe4 (r := ((1 - m / 65536 : Nat) : Int)) (by rw [wr64 (by omega) (by omega)]; omega)) rfl rfl (R1 x5 rfl (x7 (by kernel_rfl) (xc8 (x3 ?_))))))
   refine x8 ?_
   refine R1 x4 rfl (R2 (xc2 (wr64 (by omega) (by omega))) rfl rfl (R1 x5 rfl (x7 (by kernel_rfl) ?_)))
   obtain ⟨n1, n2, n3⟩ := rminus_in hl hv hbr hm
   exact K_famR (l := [5]) (fun j => cond (Nat.beq j 5) 39 (j)) ((i + 1, 1 - m / 65536, cs ++ [m % 65536])) ⟨(by dsimp only; exact ⟨by omega, by rw [List.length_append, hl]; rfl, hD.append (Dig.cons (Nat.mod_lt _ (by decide)) (Dig.nil _)), n1, n3⟩), (by dsimp only; omega)⟩ (SubR.int rfl (by first | omega | rfl | (dsimp only; omega)) (SubR.int rfl (by first | omega | rfl | (dsimp only; omega)) ((SubR.consI rfl (Imp.of (by dsimp only; rw [List.length_append]; rfl))) (SubR.cons rfl (SubR.cons rfl SubR.nil))))) ((SubKR.consI rfl (ImpK.of ren_rW.symm)) SubKR.nil) (SupG.val (SupG.val (SupG.own rfl (SupG.val (SupG.val SupG.nil))))) (SupH.cons rfl (supJ xc3) SupH.nil) (lkOk rfl) rfl rfl (fun _ h => by cases h)
 ·
  refine xd8 (xc1 (xc1 (xe3 (x3 (x6 ?_)))))
  refine x8 ?_
  refine RE (xi3 (f := fun n : Nat => tE (.int .u16 n)) (xs := cs) (fun _ h => h) (rW_all rfl) rfl) ⟨rfl, trivial⟩ ⟨rfl, trivial⟩ trivial (R1 (xa0 (c_RTrim _) fi181 rfl) rfl (R1 x5 rfl (x7 (by kernel_rfl) (x3 (xa2 ?_)))))
  exact xa9 Plain.mk' rfl rfl (Le.of (congrArg tLm (by rw [show i = (dig 65536 a).length by omega] at hv hl; exact rminus_end hl hD (xh3 xb0 a) hab hv)))
theorem c_RHalf (a : Nat) (ha : (dig 65536 a).length ≤ 200000) :
  Ct Tryz.prog 173 [tM a] (tM (a / 2)) := by
 refine Ct.intro Tryz.func173 rfl Tryz.ntmps173 rfl ?_
 intro w F
 refine x6 ?_
 refine x8 ?_
 refine R1 x5 rfl (x7 (by kernel_rfl) (x3 (x6 ?_)))
 refine x8 ?_
 refine R1 x4 rfl (R1 (xb7 Tryz.underlying45) rfl (RE (d_makeO (k := 8) (t := tE (.int .u16 0)) (ts := rW .u16 (List.replicate ((dig 65536 a).length) 0)) ((dig 65536 a).length) ((dig 65536 a).length) Tryz.underlying45 el166 (fun _ _ => rfl) rfl (by omega) (by omega) (Nat.le_refl _) (by omega) (by omega) (rW_rep _)) ⟨rfl, rfl, trivial⟩ trivial ⟨rfl, trivial⟩ (R1 x5 rfl (x7 (by kernel_rfl) (x3 (x6 ?_))))))
 refine x8 ?_
 refine R1 x5 rfl (x7 (by kernel_rfl) (x3 (x6 (x6 ?_))))
 refine x8 ?_
 refine R1 x4 rfl (R1 (xb7 Tryz.underlying45) rfl (R2 (xe4 (wr64 (by omega) (by omega))) rfl rfl (R1 x5 rfl (x7 (by kernel_rfl) (x3 (xb3 ?_))))))
 refine xe0 (fun (fm : (Nat) × (Nat) × (List Nat)) => (fun (k : Nat) (n : Nat) (qs : List Nat) => k ≤ (dig 65536 a).length ∧ qs.length = (dig 65536 a).length ∧ Dig 65536 qs ∧ n % 2 = a / 65536 ^ k % 2 ∧ val 65536 (qs.drop k) = a / 65536 ^ k / 2) fm.1 fm.2.1 fm.2.2) (fun (fm : (Nat) × (Nat) × (List Nat)) => (fun (k : Nat) (n : Nat) (qs : List Nat) => upd (upd (upd (upd (fun _ => none) 0 (some (.val (tM a)))) 3 (some (.own (.sl 8 1 0 (dig 65536 a).length)))) 4 (some (.val (tI n)))) 5 (some (.val (tI ((k : Int) - 1))))) fm.1 fm.2.1 fm.2.2) (fun (fm : (Nat) × (Nat) × (List Nat)) => (fun (k : Nat) (n : Nat) (qs : List Nat) => upd (fun _ => none) 8 (some (⟨166, 1, false, rW .u16 qs⟩))) fm.1 fm.2.1 fm.2.2) (nm [8]) (fun (fm : (Nat) × (Nat) × (List Nat)) => (fun (k : Nat) (n : Nat) (qs : List Nat) => k) fm.1 fm.2.1 fm.2.2) (((dig 65536 a).length, 0, List.replicate (dig 65536 a).length 0)) (by dsimp only; exact ⟨Nat.le_refl _, by simp, Dig.rep (by decide) _, by rw [Nat.div_eq_of_lt (xh3 xb0 a)], by rw [Nat.div_eq_of_lt (xh3 xb0 a), Nat.zero_div, List.drop_replicate, xg9]⟩) (Sub.int rfl (by first | omega | rfl | (dsimp only; omega)) (Sub.int rfl (by first | omega | rfl | (dsimp only; omega)) (Sub.cons rfl (Sub.cons rfl Sub.nil)))) ((SubK.consI rfl ImpK.refl) SubK.nil) (SupG.val (SupG.val (SupG.own rfl (SupG.val SupG.nil)))) (SupH.cons rfl (supJ xc3) SupH.nil) (lkOk rfl) ?_
 intro fm hI
 obtain ⟨k, n, qs⟩ := fm
 replace hI : k ≤ (dig 65536 a).length ∧ qs.length = (dig 65536 a).length ∧ Dig 65536 qs ∧ n % 2 = a / 65536 ^ k % 2 ∧ val 65536 (qs.drop k) = a / 65536 ^ k / 2 := hI
 show wc _ _ _ _ (upd (upd (upd (upd (fun _ => none) 0 (some (.val (tM a)))) 3 (some (.own (.sl 8 1 0 (dig 65536 a).length)))) 4 (some (.val (tI n)))) 5 (some (.val (tI ((k : Int) - 1))))) (upd (fun _ => none) 8 (some (⟨166, 1, false, rW .u16 qs⟩))) _
 obtain ⟨hk, hl, hD, hn, hv⟩ := hI
 refine x6 (x6 ?_)
 refine x8 ?_
 refine R1 x4 rfl (R2 d_geq rfl rfl (x7 (by kernel_rfl) (x3 ?_)))
 refine xc5 rfl (fun h82 => ?_) (fun h82 => ?_)
 ·
  obtain ⟨j, rfl⟩ : ∃ j, k = j + 1 := ⟨k - 1, by omega⟩
  have hx := xe5 xb0 a j
  have hx1 := (xe6 xb0 a).getD (by decide) j
  obtain ⟨n1, n2, n3, n4, n5⟩ := half_in (k := j) (by omega) hl hD hn hv rfl
  rw [← hx] at n1 n2 n3 n4 n5
  refine xa5 (x3 (x6 (xb3 (x6 ?_))))
  refine x8 ?_
  refine R1 x4 rfl (R2 (d_rem (r := ((n % 2 : Nat) : Int)) (by decide) (wrem64 (b := 2))) rfl rfl (R2 (d_mul (r := ((n % 2 * 65536 : Nat) : Int)) (by rw [wr64 (by omega) (by omega)]; omega)) rfl rfl (R1 x4 rfl (R1 x4 rfl (R2 (xb6 sl45 (j) (by omega) (gN (by omega))) rfl rfl (R1 (xb8 ti166) rfl (R1 (xb4 Tryz.underlying3 (isS Tryz.underlying166) (wr64 (by omega) (by omega))) rfl ?_)))))))
  refine R2 (xc2 (r := (((n % 2 * 65536 + (dig 65536 a).getD j 0) : Nat) : Int)) (by rw [wr64 (by omega) (by omega)]; omega)) rfl rfl (R1 x5 rfl (x7 (by kernel_rfl) (x3 ?_)))
  refine x8 ?_
  refine R1 x4 rfl (R1 x4 rfl (R1 x4 rfl (R2 (d_quo (r := (((n % 2 * 65536 + (dig 65536 a).getD j 0) / 2 : Nat) : Int)) (by decide) (iquo64 (b := 2) (by omega))) rfl rfl (R1 (xb4 Tryz.underlying166 (isS Tryz.underlying3) (wu16 (by omega) (by omega))) rfl (R2 (xd0 sl45 (by omega) (by omega) rfl) rfl rfl (RE (xa6 (j) ti166 (rW_lt (by omega)) (by omega) (rW_set (m := _) rfl)) ⟨rfl, rfl, trivial⟩ ⟨rfl, trivial⟩ trivial (x7 (by kernel_rfl) ?_)))))))
  refine xc8 (x3 ?_)
  refine x8 ?_
  refine R1 x4 rfl (R2 (xe4 (wr64 (by omega) (by omega))) rfl rfl (R1 x5 rfl (x7 (by kernel_rfl) ?_)))
  exact xc6 ((j, (n % 2 * 65536 + (dig 65536 a).getD j 0), qs.set j ((n % 2 * 65536 + (dig 65536 a).getD j 0) / 2))) ⟨(by dsimp only; exact ⟨by omega, n1, n2, n3, n4⟩), (by dsimp only; omega)⟩ (Sub.int rfl (by first | omega | rfl | (dsimp only; omega)) (Sub.int rfl (by first | omega | rfl | (dsimp only; omega)) (Sub.cons rfl (Sub.cons rfl Sub.nil)))) ((SubK.consI rfl ImpK.refl) SubK.nil) (SupG.val (SupG.val (SupG.own rfl (SupG.val SupG.nil)))) (SupH.cons rfl (supJ xc3) SupH.nil) (lkOk rfl)
 ·
  have hk0 : k = 0 := by omega
  subst hk0
  rw [List.drop_zero, Nat.pow_zero, Nat.div_one] at hv
  refine xd8 (xc1 (xc1 (xe3 (x3 (x6 ?_)))))
  refine x8 ?_
  refine RE (xi3 (f := fun n : Nat => tE (.int .u16 n)) (xs := qs) (fun _ h => h) (rW_all hl) hl) ⟨rfl, trivial⟩ ⟨rfl, trivial⟩ trivial (R1 (xa0 (c_RTrim _) fi181 rfl) rfl (R1 x5 rfl (x7 (by kernel_rfl) (x3 (xa2 ?_)))))
  exact xa9 Plain.mk' rfl rfl (Le.of (congrArg tLm (by rw [xf9 xb0 hD, hv])))
theorem c_RFromInt (n : Int) (h1 : -9223372036854775808 ≤ n) (h2 : n ≤ 9223372036854775807) :
  Ct Tryz.prog 77 [tI n] (tWh (wh n)) := by
 refine Ct.intro Tryz.func77 rfl Tryz.ntmps77 rfl ?_
 intro w F
 refine x6 ?_
 refine x8 ?_
 refine RE (xc4 (k := 2) (n := 2) (agg := true) zr47.1 zr47.2 rfl) trivial trivial ⟨rfl, trivial⟩ (x7 (by kernel_rfl) (x3 (x6 ?_)))
 refine x8 ?_
 refine R1 x4 rfl (R1 (xb4 Tryz.underlying142 (isS Tryz.underlying3) toU64) rfl (R1 x5 rfl (x7 (by kernel_rfl) (x3 ?_))))
 refine C_join (fun (v : Nat) => v = n.natAbs) (fun (v : Nat) => upd (upd (upd (fun _ => none) 0 (some (.val (tI n)))) 2 (some (.own (.ptr 2 0)))) 3 (some (.val (tE (.int .u64 ((v : Nat) : Int)))))) (fun (v : Nat) => upd (fun _ => none) 2 (some (⟨47, 2, true, [.val (tWh ⟨false, []⟩)]⟩))) (nm [2]) ?_ ?_
 ·
  refine x6 ?_
  refine x8 ?_
  refine R1 x4 rfl (R2 xd7 rfl rfl (x7 (by kernel_rfl) (x3 ?_)))
  refine xc5 rfl (fun h164 => ?_) (fun h164 => ?_)
  ·
   refine x8 ?_
   refine R1 x4 rfl (R1 (d_neg (negU64 (by omega))) rfl (R1 x5 rfl (x7 (by kernel_rfl) ?_)))
   exact xc6 ((18446744073709551616 - (n % 18446744073709551616).toNat) % 18446744073709551616) (by omega) (Sub.int rfl (by first | omega | rfl | (dsimp only; omega)) (Sub.cons rfl (Sub.int rfl (by first | omega | rfl | (dsimp only; omega)) Sub.nil))) ((SubK.consI rfl ImpK.refl) SubK.nil) (SupG.val (SupG.own rfl (SupG.val SupG.nil))) (SupH.cons rfl (supJL rfl) SupH.nil) (lkOk rfl)
  ·
   refine xa5 ?_
   exact xc6 ((n % 18446744073709551616).toNat) (by omega) (Sub.int rfl (by first | omega | rfl | (dsimp only; omega)) (Sub.cons rfl (Sub.int rfl (by first | omega | rfl | (dsimp only; omega)) Sub.nil))) ((SubK.consI rfl ImpK.refl) SubK.nil) (SupG.val (SupG.own rfl (SupG.val SupG.nil))) (SupH.cons rfl (supJL rfl) SupH.nil) (lkOk rfl)
 ·
  intro v hv
  have hvl := wh_len v (by omega)
  refine x6 ?_
  refine x8 ?_
  refine RE (d_assignN (k := 4) 166 1 false rfl (fun _ => rfl)) trivial trivial ⟨rfl, trivial⟩ (x7 (by kernel_rfl) (x3 (x6 (xb3 ?_))))
  refine xe0 (fun (fm : (Nat) × (Nat) × (List Nat)) => (fun (i : Nat) (u : Nat) (cs : List Nat) => i ≤ (dig 65536 v).length ∧ u = v / 65536 ^ i ∧ cs = dgs 65536 i v ∧ u < 18446744073709551616) fm.1 fm.2.1 fm.2.2) (fun (fm : (Nat) × (Nat) × (List Nat)) => (fun (i : Nat) (u : Nat) (cs : List Nat) => upd (upd (upd (upd (fun _ => none) 0 (some (.val (tI n)))) 2 (some (.own (.ptr 2 0)))) 3 (some (.val (tE (.int .u64 ((u : Nat) : Int)))))) 4 (some (.own (.sl 4 1 0 cs.length)))) fm.1 fm.2.1 fm.2.2) (fun (fm : (Nat) × (Nat) × (List Nat)) => (fun (i : Nat) (u : Nat) (cs : List Nat) => upd (upd (fun _ => none) 2 (some (⟨47, 2, true, [.val (tWh ⟨false, []⟩)]⟩))) 4 (some (⟨166, 1, false, rW .u16 cs⟩))) fm.1 fm.2.1 fm.2.2) (nm [2, 4]) (fun (fm : (Nat) × (Nat) × (List Nat)) => (fun (i : Nat) (u : Nat) (cs : List Nat) => u) fm.1 fm.2.1 fm.2.2) ((0, v, [])) (by dsimp only; exact ⟨Nat.zero_le _, by simp, rfl, by omega⟩) (Sub.cons rfl (Sub.int rfl (by first | omega | rfl | (dsimp only; omega)) (Sub.cons rfl (Sub.int rfl (by first | omega | rfl | (dsimp only; omega)) Sub.nil)))) ((SubK.consI rfl ImpK.refl) ((SubK.consI rfl ImpK.refl) SubK.nil)) (SupG.own rfl (SupG.val (SupG.own rfl (SupG.val SupG.nil)))) (SupH.cons rfl (supJ xc3) (SupH.cons rfl (supJL rfl) SupH.nil)) (lkOk rfl) ?_
  intro fm hI
  obtain ⟨i, u, cs⟩ := fm
  replace hI : i ≤ (dig 65536 v).length ∧ u = v / 65536 ^ i ∧ cs = dgs 65536 i v ∧ u < 18446744073709551616 := hI
  show wc _ _ _ _ (upd (upd (upd (upd (fun _ => none) 0 (some (.val (tI n)))) 2 (some (.own (.ptr 2 0)))) 3 (some (.val (tE (.int .u64 ((u : Nat) : Int)))))) 4 (some (.own (.sl 4 1 0 cs.length)))) (upd (upd (fun _ => none) 2 (some (⟨47, 2, true, [.val (tWh ⟨false, []⟩)]⟩))) 4 (some (⟨166, 1, false, rW .u16 cs⟩))) _
  obtain ⟨hi, hu, hcs, hu64⟩ := hI
  have hcl : cs.length = i := by rw [hcs, xh1]
  refine x6 (x6 ?_)
  refine x8 ?_
  refine R1 x4 rfl (R2 xf2 rfl rfl (x7 (by kernel_rfl) (x3 ?_)))
  refine xc5 rfl (fun h168 => ?_) (fun h168 => ?_)
  ·
   refine xa5 (x3 (xb3 (x6 ?_)))
   refine x8 ?_
   refine R1 x4 rfl (R1 x4 rfl (R2 (d_rem (r := ((u % 65536 : Nat) : Int)) (by decide) (wrem64 (b := 65536))) rfl rfl (R1 (xb4 Tryz.underlying166 (isS Tryz.underlying142) (wu16 (by omega) (by omega))) rfl (R1 (d_nums (n := 1) [u % 65536] Tryz.underlying45 el166 zf166 rfl rfl rfl) rfl (RE (xg4 (k := 4) (k' := 18) (ts' := rW .u16 (cs ++ [u % 65536])) Tryz.underlying45 el166 zf166 rfl rfl (fun _ => inferInstance) rW_len (by simp; omega) (by simp; omega) (by simp [rW]) (n' := cs.length + 1) rfl) ⟨rfl, rfl, trivial⟩ ⟨rfl, trivial⟩ ⟨rfl, trivial⟩ (R1 x5 rfl (x7 (by kernel_rfl) ?_)))))))
   refine x3 ?_
   refine x8 ?_
   refine R1 x4 rfl (R2 (d_quo (r := ((u / 65536 : Nat) : Int)) (by decide) (wquo64 (b := 65536) (by omega))) rfl rfl (R1 x5 rfl (x7 (by kernel_rfl) (xc8 ?_))))
   obtain ⟨n1, n2, n3⟩ := from_more hu (by omega)
   exact K_famR (l := [2, 4]) (fun j => cond (Nat.beq j 4) 18 (j)) ((i + 1, u / 65536, cs ++ [u % 65536])) ⟨(by dsimp only; exact ⟨n1, n2, by rw [hcs]; exact n3, by omega⟩), (by dsimp only; omega)⟩ ((SubR.consI rfl (Imp.of (by dsimp only; rw [List.length_append]; rfl))) (SubR.int rfl (by first | omega | rfl | (dsimp only; omega)) (SubR.cons rfl (SubR.int rfl (by first | omega | rfl | (dsimp only; omega)) SubR.nil)))) ((SubKR.consI rfl (ImpK.of ren_rW.symm)) ((SubKR.consI rfl ImpK.refl) SubKR.nil)) (SupG.own rfl (SupG.val (SupG.own rfl (SupG.val SupG.nil)))) (SupH.cons rfl (supJ xc3) (SupH.cons rfl (supJL rfl) SupH.nil)) (lkOk rfl) rfl rfl (fun _ h => by cases h)
  ·
   refine xd8 (xc1 (xc1 (xe3 (x3 (x6 ?_)))))
   refine x8 ?_
   refine R1 x4 rfl (R2 xd7 rfl rfl ?_)
   have hfin : cs = dig 65536 v := by rw [hcs]; exact from_end (by rw [← hu]; omega) hi
   subst hfin
   refine RE (xi3 (f := fun n : Nat => tE (.int .u16 n)) (xs := (dig 65536 v)) (fun _ h => h) (rW_all rfl) rfl) ⟨rfl, trivial⟩ ⟨rfl, trivial⟩ trivial (R2 (xa0 (xi2 _ v) fi126 rfl) rfl rfl (RE (xa6 (es := 2) (agg := true) (0) ti47 rfl rfl rfl) ⟨rfl, rfl, trivial⟩ ⟨rfl, trivial⟩ trivial (x7 (by kernel_rfl) (x3 (xa2 ?_)))))
   exact xg2 Plain.mk' rfl ⟨_, _, _, _, _, rfl, rfl, ti47, (Le.of (by rw [wh_sgn, hv, wh]; congr 2; by_cases h : n < 0 <;> simp [h]; omega))⟩
end An.S

/- The references: quotients, divisors, quick fractions. -/
namespace An.S
open Go Go.Proofs An
set_option maxHeartbeats 2000000
theorem fi127 : FnI Tryz.prog 127 := ⟨_, Tryz.func127, by kernel_rfl, rfl⟩
theorem fi134 : FnI Tryz.prog 134 := ⟨_, Tryz.func134, by kernel_rfl, rfl⟩
theorem fi135 : FnI Tryz.prog 135 := ⟨_, Tryz.func135, by kernel_rfl, rfl⟩
theorem fi171 : FnI Tryz.prog 171 := ⟨_, Tryz.func171, by kernel_rfl, rfl⟩
theorem fi172 : FnI Tryz.prog 172 := ⟨_, Tryz.func172, by kernel_rfl, rfl⟩
theorem fi173 : FnI Tryz.prog 173 := ⟨_, Tryz.func173, by kernel_rfl, rfl⟩
theorem c_RPlusOne (q : Nat) (h : (dig 65536 q).length ≤ 100000) : Ct Tryz.prog 134 [tM q, tLm [1]] (tM (q + 1)) := by
  have e : dig 65536 1 = [1] := by rw [dig_pos xb0 (by decide), show (1 : Nat) / 65536 = 0 by decide, xe9]
  have := c_RPlus q 1 h (by rw [e]; decide)
  rw [tM, tM, e] at this; exact this
theorem lenM {a b k : Nat} (h : a ≤ b) (hb : (dig 65536 b).length ≤ k) : (dig 65536 a).length ≤ k := Nat.le_trans (xf4 xb0 h) hb
theorem one_dec {l : List Nat} (h : l.length = 1) : decide (((l.getD 0 0 : Nat) : Int) = 1) = decide (l = [1]) := by
  obtain ⟨a, rfl⟩ := List.length_eq_one_iff.1 h
  simp
  omega
theorem low_sgn {n d : Int} (hd : d ≠ 0) : fr (Rat.divInt n d) = ⟨wh (sgn (!((wh n).neg == (wh d).neg)) (n.natAbs / Nat.gcd n.natAbs d.natAbs)), wh (sgn false (d.natAbs / Nat.gcd n.natAbs d.natAbs))⟩ := by
  have key : ∀ (n d : Int), 0 < d → fr (Rat.divInt n d) = ⟨wh (sgn (decide (n < 0)) (n.natAbs / Nat.gcd n.natAbs d.natAbs)), wh (sgn false (d.natAbs / Nat.gcd n.natAbs d.natAbs))⟩ := fun n d h => by
    rw [lowest_eq h]
    have hg : (Int.gcd n d : Nat) = Nat.gcd n.natAbs d.natAbs := rfl
    rw [hg]
    have hdn : Nat.gcd n.natAbs d.natAbs ∣ n.natAbs := Nat.gcd_dvd_left _ _
    have hdd : Nat.gcd n.natAbs d.natAbs ∣ d.natAbs := Nat.gcd_dvd_right _ _
    generalize Nat.gcd n.natAbs d.natAbs = g at *
    have e2 : d / (g : Int) = sgn false (d.natAbs / g) := by
      show _ = ((d.natAbs / g : Nat) : Int)
      rw [Int.natCast_ediv]; congr 1; omega
    have e1 : n / (g : Int) = sgn (decide (n < 0)) (n.natAbs / g) := by
      by_cases hn : n < 0
      · rw [decide_eq_true hn]
        show _ = -((n.natAbs / g : Nat) : Int)
        have : n = -(n.natAbs : Int) := by omega
        conv => lhs; rw [this]
        rw [Int.neg_ediv_of_dvd (Int.natCast_dvd_natCast.2 hdn), Int.natCast_ediv]
      · rw [decide_eq_false hn]
        show _ = ((n.natAbs / g : Nat) : Int)
        rw [Int.natCast_ediv]; congr 1; omega
    rw [e1, e2]
  rcases Int.lt_or_gt_of_ne hd with h | h
  · have e : Rat.divInt n d = Rat.divInt (-n) (-d) := (Rat.neg_divInt_neg n d).symm
    rw [e, key (-n) (-d) (by omega), Int.natAbs_neg, Int.natAbs_neg]
    have e3 : (wh d).neg = true := decide_eq_true h
    have e4 : (wh n).neg = decide (n < 0) := rfl
    rw [e3, e4]
    by_cases h0 : n = 0
    · subst h0; simp [sgn]
    · have : decide (-n < 0) = !(decide (n < 0) == true) := by
        by_cases hn : n < 0
        · simp [hn]; omega
        · simp [hn]; omega
      rw [this]
  · rw [key n d h]
    have e3 : (wh d).neg = false := decide_eq_false (by omega)
    have e4 : (wh n).neg = decide (n < 0) := rfl
    rw [e3, e4]; simp
theorem c_RDivided (a b : Nat) (hb : 0 < b) (ha : (dig 65536 a).length ≤ 4000) (hbl : (dig 65536 b).length ≤ 4000) :
    Ct Tryz.prog 127 [tM a, tM b] (tT [tM (a / b), tM (a % b)]) := by
  refine Ct.intro Tryz.func127 rfl Tryz.ntmps127 rfl ?_
  intro w F
  refine x6 ?_
  refine x8 ?_
  refine R1 x5 rfl (R1 x5 rfl (x7 (by kernel_rfl) (x3 (x6 (x6 ?_)))))
  refine x8 ?_
  refine R1 x4 rfl (R1 (xb7 Tryz.underlying45) rfl (R2 d_eql rfl rfl (x7 (by kernel_rfl) (x3 ?_))))
  refine xc5 rfl (fun h103 => ?_) (fun h103 => ?_)
  ·
    have hb0 := one_limb (b := b) (by omega)
    have hbW := (xe6 xb0 b).getD (by decide) 0
    refine x6 ?_
    refine x8 ?_
    refine R1 x4 rfl (R1 x4 rfl (R2 (xb6 sl45 (0) (by omega) (gN (by omega))) rfl rfl (R1 (xb8 ti166) rfl (R1 (xb4 Tryz.underlying3 (isS Tryz.underlying166) (wr64 (by omega) (by omega))) rfl (R2 (xa0 (c_RShort a _ (by omega) (by omega) (by omega)) fi171 rfl) rfl rfl (R1 (xa8 rfl) rfl (R1 (xa8 rfl) rfl ?_)))))))
    refine R1 x5 rfl (R1 x5 rfl (x7 (by kernel_rfl) (x3 (xa2 (xa3 ?_)))))
    exact xf6 Plain.mk' rfl rfl rfl (Le.of (by rw [hb0])) (Le.of (by rw [hb0]))
  ·
    refine xa5 (x3 (x6 ?_))
    refine x8 ?_
    refine R1 x5 rfl (x7 (by kernel_rfl) (x3 (x6 (x6 ?_))))
    refine x8 ?_
    refine R1 x4 rfl (R1 x5 rfl (x7 (by kernel_rfl) (x3 (xb3 ?_))))
    refine xe0 (fun (n : Nat) => n = 0 ∨ b * 2 ^ n ≤ a + a) (fun (n : Nat) => upd (upd (upd (upd (fun _ => none) 0 (some (.val (tM a)))) 1 (some (.val (tM b)))) 6 (some (.val (tI n)))) 7 (some (.val (tM (b * 2 ^ n))))) (fun (n : Nat) => fun _ => none) (nm []) (fun (n : Nat) => a + 1 - b * 2 ^ n) (0) (.inl rfl) (Sub.le rfl (Le.of (by first | rw [Nat.pow_zero, Nat.mul_one] | (dsimp only; rw [Nat.pow_zero, Nat.mul_one]))) (Sub.int rfl (by first | omega | rfl | (dsimp only; omega)) (Sub.cons rfl (Sub.cons rfl Sub.nil)))) SubK.nil (SupG.val (SupG.val (SupG.val (SupG.val SupG.nil)))) SupH.nil (lkOk rfl) ?_
    intro n hI
    have hn : n < 16 * 4001 := by
      rcases hI with h | h
      · omega
      · refine bits_le (a := a + a) ?_ (by have := len_dbl ha ha; omega)
        exact Nat.le_trans (Nat.le_mul_of_pos_left _ hb) h
    refine x6 (x6 ?_)
    refine x8 ?_
    refine R1 x4 rfl (R1 x4 rfl (R2 (xa0 (c_RLess a (b * 2 ^ n)) fi172 rfl) rfl rfl (R1 xe2 rfl (x7 (by kernel_rfl) (x3 ?_)))))
    refine xf0 rfl (fun h107 => ?_) (fun h107 => ?_)
    ·
      have hle : b * 2 ^ n ≤ a := by
        have h := h107
        simp at h; exact h
      have hnl := lenM hle ha
      refine xa5 (x3 (x6 (xb3 ?_)))
      refine x8 ?_
      refine R1 x4 rfl (R1 x4 rfl (R2 (xa0 (c_RPlus (b * 2 ^ n) (b * 2 ^ n) (by omega) (by omega)) fi134 rfl) rfl rfl (R1 x5 rfl (x7 (by kernel_rfl) (xc8 (x3 ?_))))))
      refine x8 ?_
      refine R1 x4 rfl (R2 (xc2 (wr64 (by omega) (by omega))) rfl rfl (R1 x5 rfl (x7 (by kernel_rfl) ?_)))
      have he : b * 2 ^ n + b * 2 ^ n = b * 2 ^ (n + 1) := by rw [Nat.pow_succ, ← Nat.mul_assoc, Nat.mul_two]
      have hp : 0 < b * 2 ^ n := Nat.mul_pos hb (Nat.pow_pos (by decide))
      exact xc6 (n + 1) ⟨(.inr (by omega)), (by show a + 1 - b * 2 ^ (n + 1) < a + 1 - b * 2 ^ n; omega)⟩ (Sub.le rfl (Le.of (by rw [he])) (Sub.int rfl (by first | omega | rfl | (dsimp only; omega)) (Sub.cons rfl (Sub.cons rfl Sub.nil)))) SubK.nil (SupG.val (SupG.val (SupG.val (SupG.val SupG.nil)))) SupH.nil (lkOk rfl)
    ·
      have hlt : a < b * 2 ^ n := by
        have h := h107
        simp at h; exact h
      have hnl : (dig 65536 (b * 2 ^ n)).length ≤ 4001 := by
        rcases hI with h | h
        · rw [h, Nat.pow_zero, Nat.mul_one]; omega
        · exact lenM h (len_dbl ha ha)
      refine xd8 (xc1 (xc1 (xe3 (x3 (x6 ?_)))))
      refine x8 ?_
      refine R1 x4 rfl (R1 x5 rfl (x7 (by kernel_rfl) (x3 (x6 (x6 ?_)))))
      refine x8 ?_
      refine R1 x5 rfl (x7 (by kernel_rfl) (x3 (xb3 ?_)))
      refine xe0 (fun (i : Nat) => i ≤ n) (fun (i : Nat) => upd (upd (upd (upd (upd (fun _ => none) 0 (some (.val (tM a)))) 1 (some (.val (tM b)))) 6 (some (.val (tI n)))) 8 (some (.val (tM (b * 2 ^ i))))) 9 (some (.val (tI i)))) (fun (i : Nat) => fun _ => none) (nm []) (fun (i : Nat) => n - i) (0) (Nat.zero_le _) (Sub.int rfl (by first | omega | rfl | (dsimp only; omega)) (Sub.le rfl (Le.of (by first | rw [Nat.pow_zero, Nat.mul_one] | (dsimp only; rw [Nat.pow_zero, Nat.mul_one]))) (Sub.int rfl (by first | omega | rfl | (dsimp only; omega)) (Sub.cons rfl (Sub.cons rfl Sub.nil))))) SubK.nil (SupG.val (SupG.val (SupG.val (SupG.val (SupG.val SupG.nil))))) SupH.nil (lkOk rfl) ?_
      intro i hJ
      refine x6 (x6 ?_)
      refine x8 ?_
      refine R1 x4 rfl (R1 x4 rfl (R2 xd7 rfl rfl (x7 (by kernel_rfl) (x3 ?_))))
      refine xc5 rfl (fun h111 => ?_) (fun h111 => ?_)
      ·
        have hil : (dig 65536 (b * 2 ^ i)).length ≤ 4001 := lenM (Nat.mul_le_mul_left _ (Nat.pow_le_pow_right (by decide) (by omega))) hnl
        refine xa5 (x3 (x6 (xb3 ?_)))
        refine x8 ?_
        refine R1 x4 rfl (R1 x4 rfl (R2 (xa0 (c_RPlus (b * 2 ^ i) (b * 2 ^ i) (by omega) (by omega)) fi134 rfl) rfl rfl (R1 x5 rfl (x7 (by kernel_rfl) (xc8 (x3 ?_))))))
        refine x8 ?_
        refine R1 x4 rfl (R2 (xc2 (wr64 (by omega) (by omega))) rfl rfl (R1 x5 rfl (x7 (by kernel_rfl) ?_)))
        have he : b * 2 ^ i + b * 2 ^ i = b * 2 ^ (i + 1) := by rw [Nat.pow_succ, ← Nat.mul_assoc, Nat.mul_two]
        exact xc6 (i + 1) ⟨(by omega), (by omega)⟩ (Sub.int rfl (by first | omega | rfl | (dsimp only; omega)) (Sub.le rfl (Le.of (by rw [he])) (Sub.int rfl (by first | omega | rfl | (dsimp only; omega)) (Sub.cons rfl (Sub.cons rfl Sub.nil))))) SubK.nil (SupG.val (SupG.val (SupG.val (SupG.val (SupG.val SupG.nil))))) SupH.nil (lkOk rfl)
      ·
        refine xd8 (xc1 (xc1 (xe3 (x3 (x6 ?_)))))
        refine x8 ?_
        refine R1 x5 rfl (x7 (by kernel_rfl) (x3 (x6 ?_)))
        refine x8 ?_
        refine RE (d_sliceOfO (k := 43) (ents := []) Tryz.underlying45 el166 zf166 rfl (by simp) rfl rfl rfl) trivial trivial ⟨rfl, trivial⟩ (R1 x4 rfl (RE (xg4 (k := 43) (k' := 45) (ts' := rW .u16 (dig 65536 a)) Tryz.underlying45 el166 zf166 rfl rfl (fun _ => inferInstance) rfl (by simp; omega) (by simp; omega) (by simp [rW]) (n' := (dig 65536 a).length) (by simp)) ⟨rfl, rfl, trivial⟩ ⟨rfl, trivial⟩ ⟨rfl, trivial⟩ (RE (d_assignS (f := fun n : Nat => tE (.int .u16 n)) (xs := dig 65536 a) (fun _ h => h) (rW_all rfl) rfl) ⟨rfl, trivial⟩ ⟨rfl, trivial⟩ trivial (x7 (by kernel_rfl) (x3 (x6 (x6 ?_)))))))
        refine x8 ?_
        refine R1 x5 rfl (x7 (by kernel_rfl) (x3 (xb3 ?_)))
        refine xe0 (fun (fm : (Nat) × (Nat) × (Nat) × (Nat)) => (fun (j : Nat) (q : Nat) (r : Nat) (d : Nat) => j ≤ n ∧ d = b * 2 ^ (n - j) ∧ a = q * d + r ∧ r < d) fm.1 fm.2.1 fm.2.2.1 fm.2.2.2) (fun (fm : (Nat) × (Nat) × (Nat) × (Nat)) => (fun (j : Nat) (q : Nat) (r : Nat) (d : Nat) => upd (upd (upd (upd (upd (fun _ => none) 6 (some (.val (tI n)))) 8 (some (.val (tM d)))) 10 (some (.val (tM q)))) 11 (some (.val (tM r)))) 12 (some (.val (tI j)))) fm.1 fm.2.1 fm.2.2.1 fm.2.2.2) (fun (fm : (Nat) × (Nat) × (Nat) × (Nat)) => (fun (j : Nat) (q : Nat) (r : Nat) (d : Nat) => fun _ => none) fm.1 fm.2.1 fm.2.2.1 fm.2.2.2) (nm []) (fun (fm : (Nat) × (Nat) × (Nat) × (Nat)) => (fun (j : Nat) (q : Nat) (r : Nat) (d : Nat) => n - j) fm.1 fm.2.1 fm.2.2.1 fm.2.2.2) ((0, 0, a, b * 2 ^ n)) (by dsimp only; exact ⟨Nat.zero_le _, rfl, by omega, by omega⟩) (Sub.int rfl (by first | omega | rfl | (dsimp only; omega)) (Sub.cons rfl (Sub.le rfl (leNil (xe9 _)) (Sub.le rfl (Le.of (by first | rw [show i = n by omega] | (dsimp only; rw [show i = n by omega]))) (Sub.int rfl (by first | omega | rfl | (dsimp only; omega)) Sub.nil))))) SubK.nil (SupG.val (SupG.val (SupG.val (SupG.val (SupG.val SupG.nil))))) SupH.nil (lkOk rfl) ?_
        intro fm hK
        obtain ⟨j, q, r, d⟩ := fm
        replace hK : j ≤ n ∧ d = b * 2 ^ (n - j) ∧ a = q * d + r ∧ r < d := hK
        show wc _ _ _ _ (upd (upd (upd (upd (upd (fun _ => none) 6 (some (.val (tI n)))) 8 (some (.val (tM d)))) 10 (some (.val (tM q)))) 11 (some (.val (tM r)))) 12 (some (.val (tI j)))) (fun _ => none) _
        obtain ⟨hj, hd, hq, hr⟩ := hK
        have hqa : q ≤ a := by
          have h1 : q * 1 ≤ q * d := Nat.mul_le_mul_left _ (by omega)
          omega
        have hql := lenM hqa ha
        have hdn : b * 2 ^ (n - j) ≤ b * 2 ^ n := Nat.mul_le_mul_left _ (Nat.pow_le_pow_right (by decide) (by omega))
        have hdl : (dig 65536 d).length ≤ 4001 := by rw [← hd] at hdn; exact lenM hdn hnl
        have hqq := len_dbl hql hql
        refine x6 (x6 ?_)
        refine x8 ?_
        refine R1 x4 rfl (R1 x4 rfl (R2 xd7 rfl rfl (x7 (by kernel_rfl) (x3 ?_))))
        refine xc5 rfl (fun h116 => ?_) (fun h116 => ?_)
        ·
          refine xa5 (x3 (x6 (xb3 (x6 ?_))))
          refine x8 ?_
          refine R1 x4 rfl (R1 (xa0 (c_RHalf d (by omega)) fi173 rfl) rfl (R1 x5 rfl (x7 (by kernel_rfl) (x3 (x6 ?_)))))
          refine x8 ?_
          refine R1 x4 rfl (R1 x4 rfl (R2 (xa0 (c_RPlus q q (by omega) (by omega)) fi134 rfl) rfl rfl (R1 x5 rfl (x7 (by kernel_rfl) (x3 (x6 ?_))))))
          refine x8 ?_
          refine R1 x4 rfl (R1 x4 rfl (R2 (xa0 (c_RLess r (d / 2)) fi172 rfl) rfl rfl (R1 xe2 rfl (x7 (by kernel_rfl) (x3 ?_)))))
          refine xf0 rfl (fun h119 => ?_) (fun h119 => ?_)
          ·
            have hge : d / 2 ≤ r := by
              have h := h119
              simp at h; exact h
            refine x6 ?_
            refine x8 ?_
            refine R1 x4 rfl (R1 x4 rfl (R2 (xa0 (c_RMinus r (d / 2) (by omega) (by have := lenM (Nat.le_of_lt hr) hdl; omega)) fi135 rfl) rfl rfl (R1 x5 rfl (x7 (by kernel_rfl) (x3 ?_)))))
            refine x8 ?_
            refine R1 x4 rfl (R1 (d_nums (n := 1) [1] Tryz.underlying45 el166 zf166 rfl rfl rfl) rfl (R2 (xa0 (c_RPlusOne (q + q) (by omega)) fi134 rfl) rfl rfl (R1 x5 rfl (x7 (by kernel_rfl) (xc8 (x3 ?_))))))
            refine x8 ?_
            refine R1 x4 rfl (R2 (xc2 (wr64 (by omega) (by omega))) rfl rfl (R1 x5 rfl (x7 (by kernel_rfl) ?_)))
            obtain ⟨b1, b2, b3⟩ := div_bit (by omega) hd hq hr
            obtain ⟨b4, b5, b6⟩ := b3 (by omega)
            exact xc6 ((j + 1, q + q + 1, r - d / 2, d / 2)) ⟨(by dsimp only; exact ⟨by omega, b1, b4, b5⟩), (by dsimp only; omega)⟩ (Sub.int rfl (by first | omega | rfl | (dsimp only; omega)) (Sub.cons rfl (Sub.cons rfl (Sub.cons rfl (Sub.int rfl (by first | omega | rfl | (dsimp only; omega)) Sub.nil))))) SubK.nil (SupG.val (SupG.val (SupG.val (SupG.val (SupG.val SupG.nil))))) SupH.nil (lkOk rfl)
          ·
            have hge : r < d / 2 := by
              have h := h119
              simp at h; exact h
            refine xa5 (xc8 (x3 ?_))
            refine x8 ?_
            refine R1 x4 rfl (R2 (xc2 (wr64 (by omega) (by omega))) rfl rfl (R1 x5 rfl (x7 (by kernel_rfl) ?_)))
            obtain ⟨b1, b2, b3⟩ := div_bit (by omega) hd hq hr
            exact xc6 ((j + 1, q + q, r, d / 2)) ⟨(by dsimp only; exact ⟨by omega, b1, b2 (by omega), by omega⟩), (by dsimp only; omega)⟩ (Sub.int rfl (by first | omega | rfl | (dsimp only; omega)) (Sub.cons rfl (Sub.cons rfl (Sub.cons rfl (Sub.int rfl (by first | omega | rfl | (dsimp only; omega)) Sub.nil))))) SubK.nil (SupG.val (SupG.val (SupG.val (SupG.val (SupG.val SupG.nil))))) SupH.nil (lkOk rfl)
        ·
          have hdb : d = b := by rw [hd, show n - j = 0 by omega, Nat.pow_zero, Nat.mul_one]
          rw [hdb] at hq hr
          obtain ⟨e1, e2⟩ := div_done hq hr
          refine xd8 (xc1 (xc1 (xe3 (x3 (x6 ?_)))))
          refine x8 ?_
          refine R1 x4 rfl (R1 x4 rfl (R1 x5 rfl (R1 x5 rfl (x7 (by kernel_rfl) (x3 (xa2 ?_))))))
          exact xf6 Plain.mk' rfl rfl rfl (Le.of (by rw [e1])) (Le.of (by rw [e2]))
theorem c_RCommon (a b : Nat) (ha : (dig 65536 a).length ≤ 4000) (hb : (dig 65536 b).length ≤ 4000) :
  Ct Tryz.prog 124 [tM a, tM b] (tM (Nat.gcd a b)) := by
 refine Ct.intro Tryz.func124 rfl Tryz.ntmps124 rfl ?_
 intro w F
 refine x6 ?_
 refine x8 ?_
 refine R1 x5 rfl (x7 (by kernel_rfl) (x3 (x6 (xb3 ?_))))
 refine xe0 (fun (fm : (Nat) × (Nat)) => (fun (x : Nat) (y : Nat) => Nat.gcd x y = Nat.gcd a b ∧ (dig 65536 x).length ≤ 4000 ∧ (dig 65536 y).length ≤ 4000) fm.1 fm.2) (fun (fm : (Nat) × (Nat)) => (fun (x : Nat) (y : Nat) => upd (upd (fun _ => none) 0 (some (.val (tM x)))) 1 (some (.val (tM y)))) fm.1 fm.2) (fun (fm : (Nat) × (Nat)) => (fun (x : Nat) (y : Nat) => fun _ => none) fm.1 fm.2) (nm []) (fun (fm : (Nat) × (Nat)) => (fun (x : Nat) (y : Nat) => y) fm.1 fm.2) ((a, b)) (by dsimp only; exact ⟨rfl, ha, hb⟩) (Sub.cons rfl (Sub.cons rfl Sub.nil)) SubK.nil (SupG.val (SupG.val SupG.nil)) SupH.nil (lkOk rfl) ?_
 intro fm hI
 obtain ⟨x, y⟩ := fm
 replace hI : Nat.gcd x y = Nat.gcd a b ∧ (dig 65536 x).length ≤ 4000 ∧ (dig 65536 y).length ≤ 4000 := hI
 show wc _ _ _ _ (upd (upd (fun _ => none) 0 (some (.val (tM x)))) 1 (some (.val (tM y)))) (fun _ => none) _
 obtain ⟨hg, hx, hy⟩ := hI
 refine x6 (x6 ?_)
 refine x8 ?_
 refine R1 x4 rfl (R1 (xb7 Tryz.underlying45) rfl (R2 xf2 rfl rfl (x7 (by kernel_rfl) (x3 ?_))))
 refine xc5 rfl (fun h261 => ?_) (fun h261 => ?_)
 ·
  have hy0 : 0 < y := by have := len_ne.1 h261; omega
  refine xa5 (x3 (xb3 (x6 ?_)))
  refine x8 ?_
  refine R1 x4 rfl (R1 x4 rfl (R2 (xa0 (c_RDivided x y hy0 hx hy) fi127 rfl) rfl rfl (R1 x4 rfl (R1 (xa8 rfl) rfl (R1 (xa8 rfl) rfl (R1 x5 rfl (R1 x5 rfl ?_)))))))
  refine x7 (by kernel_rfl) (x3 (x6 ?_))
  refine x8 ?_
  refine R1 x4 rfl (R1 x5 rfl (x7 (by kernel_rfl) (x3 ?_)))
  refine x8 ?_
  refine R1 x4 rfl (R1 x5 rfl (x7 (by kernel_rfl) (xc8 ?_)))
  have hlt : x % y < y := Nat.mod_lt _ hy0
  exact xc6 ((y, x % y)) ⟨(by dsimp only; exact ⟨by rw [Nat.gcd_comm, ← Nat.gcd_rec, Nat.gcd_comm]; exact hg, hy, lenM (Nat.le_of_lt hlt) hy⟩), (by dsimp only; omega)⟩ (Sub.cons rfl (Sub.cons rfl Sub.nil)) SubK.nil (SupG.val (SupG.val SupG.nil)) SupH.nil (lkOk rfl)
 ·
  have hy0 : y = 0 := Classical.byContradiction fun h => h261 (len_ne.2 h)
  refine xd8 (xc1 (xc1 (xe3 (x3 (x6 ?_)))))
  refine x8 ?_
  refine R1 x4 rfl (R1 x5 rfl (x7 (by kernel_rfl) (x3 (xa2 ?_))))
  exact xa9 Plain.mk' rfl rfl (Le.of (by rw [← hg, hy0, Nat.gcd_zero_right]))
theorem c_Rone (l : List Nat) :
  Ct Tryz.prog 125 [tLm l] (tB (decide (l = [1]))) := by
 refine Ct.intro Tryz.func125 rfl Tryz.ntmps125 rfl ?_
 intro w F
 refine x6 ?_
 refine x8 ?_
 refine R1 x5 rfl (x7 (by kernel_rfl) (x3 (x6 ?_)))
 refine x8 ?_
 refine R1 x4 rfl (R1 (xb7 Tryz.underlying45) rfl (R2 d_eql rfl rfl (R1 x4 rfl ?_)))
 refine RGcaseD (t := 6) rfl (fun h24 => ?_) (fun h24 => ?_)
 ·
  refine RGon (decide_eq_true h24) rfl x4 rfl ⟨rfl, trivial⟩ trivial trivial (RGon (decide_eq_true h24) rfl (xb6 sl45 (0) (by omega) (gN (by omega))) rfl ⟨rfl, rfl, trivial⟩ trivial trivial (RGon (decide_eq_true h24) rfl (xb8 ti166) rfl ⟨rfl, trivial⟩ trivial trivial (RGon (decide_eq_true h24) rfl d_eql rfl ⟨rfl, rfl, trivial⟩ trivial trivial (R2 (xb2 (decide_eq_true h24)) rfl rfl (R1 x5 rfl (x7 (by kernel_rfl) (x3 ?_)))))))
  refine xa2 ?_
  exact xa9 Plain.mk' rfl rfl (Le.bool (one_dec (by omega)))
 ·
  refine RGoff (decide_eq_false h24) rfl rfl (RGoff (decide_eq_false h24) rfl rfl (RGoff (decide_eq_false h24) rfl rfl (RGoff (decide_eq_false h24) rfl rfl (R2 (xc0 (decide_eq_false h24)) rfl rfl (R1 x5 rfl (x7 (by kernel_rfl) (x3 ?_)))))))
  refine xa2 ?_
  exact xa9 Plain.mk' rfl rfl (Le.bool (decide_eq_false (fun h => h24 (by rw [h]; rfl))).symm)
end An.S
