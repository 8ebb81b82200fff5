/- Part 5 of a proof: S9, S10, S11, Sv, Svc, S12, S13, V16, V17, V18, V19, V20, Ref4, V34, S21, O21. -/
import Derived.Test.YtkenppkgldecmaaGreatChecked
import Derived.Test.YtkenppkgldecmaaGreatM4
/- Layer 8: service records. -/
namespace An.S
open Go Go.Proofs An
set_option maxHeartbeats 2000000
theorem ti88 : TyI Tryz.prog 88 1 false := ⟨by kernel_rfl, by kernel_rfl⟩
theorem ti139 : TyI Tryz.prog 139 3 true := ⟨by kernel_rfl, by kernel_rfl⟩
theorem fo139_0 : fieldO Tryz.prog 139 0 = some 0 := by kernel_rfl
theorem fo139_1 : fieldO Tryz.prog 139 1 = some 2 := by kernel_rfl
theorem fi79 : FnI Tryz.prog 79 := ⟨_, Tryz.func79, by kernel_rfl, rfl⟩
theorem fi97 : FnI Tryz.prog 97 := ⟨_, Tryz.func97, by kernel_rfl, rfl⟩
theorem fi110 : FnI Tryz.prog 110 := ⟨_, Tryz.func110, by kernel_rfl, rfl⟩
theorem fi148 : FnI Tryz.prog 148 := ⟨_, Tryz.func148, by kernel_rfl, rfl⟩
theorem fi150 : FnI Tryz.prog 150 := ⟨_, Tryz.func150, by kernel_rfl, rfl⟩
theorem fi194 : FnI Tryz.prog 194 := ⟨_, Tryz.func194, by kernel_rfl, rfl⟩
theorem zr139 : (Tryz.prog.info? 139).bind (·.zero) = some (.agg #[.int .i64 0, .int .i64 0, .slice none 0 0]) ∧ ∀ F w, (tS [⟨2, true, (tS [⟨1, false, (tE (.int .i64 0))⟩, ⟨1, false, (tE (.int .i64 0))⟩])⟩, ⟨1, false, (tE (.slice none 0 0))⟩]).p F w (.agg #[.int .i64 0, .int .i64 0, .slice none 0 0]) := ⟨by kernel_rfl, fun _ _ => ⟨_, rfl, rfl, ⟨fun h => Bool.noConfusion h, ⟨_, rfl, rfl, ⟨fun _ => rfl, rfl⟩, ⟨fun _ => rfl, rfl⟩, trivial⟩⟩, ⟨fun _ => rfl, rfl⟩, trivial⟩⟩
theorem bu139 : BuI Tryz.prog 139 (fun i => [(0, 2), (2, 1)][i]?) (.agg #[.int .i64 0, .int .i64 0, .slice none 0 0]) := BuI.struct Tryz.underlying139 (by kernel_rfl) (by kernel_rfl)
theorem c_FCmpV (f g : Fr) (hf : f.dig) (hg : g.dig) (vf : f.valid = true) (vg : g.valid = true) : Ct Tryz.prog 79 [tFr f, tFr g] (tI (cmpQ f.rat g.rat)) := by
  obtain ⟨e1, s1⟩ := Fr.of_valid' hf vf
  obtain ⟨e2, s2⟩ := Fr.of_valid' hg vg
  have h := c_FCmp f.rat g.rat s1 s2
  rw [← e1, ← e2] at h; exact h
theorem short_one : short (1 : Rat) := short_int (n := 1) (by show (wh 1).l.length ≤ 256; rw [wh_one]; decide)
theorem c_FCmp1 (f : Fr) (hf : f.dig) (vf : f.valid = true) : Ct Tryz.prog 79 [tFr f, tFr (fr ((1 : Int) : Rat))] (tI (cmpQ f.rat 1)) := by
  have h := c_FCmpV f (fr ((1 : Int) : Rat)) hf ⟨xe4 xa9 _, xe4 xa9 _⟩ vf (valid_fr short_one)
  rw [rat_fr] at h; exact h
theorem cmpQ_pos {a b : Rat} : 0 < cmpQ a b ↔ ¬ a ≤ b := by
  simp only [cmpQ]
  split
  · rename_i h; simp [Rat.le_of_lt h]
  · rename_i h
    split
    · rename_i h2; subst h2; simp
    · rename_i h2
      simp only [Int.zero_lt_one, true_iff]
      intro h3
      rcases Rat.le_iff_lt_or_eq.1 h3 with h4 | h4
      · exact h h4
      · exact h2 h4
theorem num_valid {v : Va} (h : v.valid = true) (hk : v.kind = 2) : v.f.valid = true := by
  rw [Va.valid, if_pos (.inl hk), Bool.and_eq_true] at h; exact h.2
theorem sOk_not {s : Tst} {b : Bool} (h : b = false ↔ s.v.kind = 2 ∧ s.v.f.n.neg = false ∧ s.v.f.rat ≤ 1) : b = !sOk s := by
  cases b
  · have h := h.1 rfl
    simp [sOk, h]
  · have h : ¬ (s.v.kind = 2 ∧ s.v.f.n.neg = false ∧ s.v.f.rat ≤ 1) := fun h' => by have := h.2 h'; cases this
    by_cases h1 : sOk s = true
    · simp only [sOk, Bool.and_eq_true, decide_eq_true_eq, Bool.not_eq_true'] at h1
      exact (h ⟨h1.1.1, h1.1.2, h1.2⟩).elim
    · simp [h1]
theorem all_any2 {l : List Tst} : (!l.any fun s => !sOk s) = l.all sOk := by
  rw [List.not_any_eq_all_not]; simp
theorem c_SvR1 (s : Tst) (hv : s.v.valid = true) (hD : s.v.f.dig) :
  CtG Tryz.prog 194 [(3, ⟨49, 4, true, [.val (tFr (fr ((1 : Int) : Rat)))]⟩)] [.val (tTs s), .own (.ptr 3 0)] (.val (tB (!sOk s))) [(3, ⟨49, 4, true, [.val (tFr (fr ((1 : Int) : Rat)))]⟩)] [] := by
 refine CtG.intro [3] Tryz.func194 rfl Tryz.ntmps194 rfl rfl ⟨⟨rfl, (SupX.lit rfl)⟩, trivial⟩ ?_
 intro w F η
 refine x6 ?_
 refine x8 ?_
 refine RE (xd2 (k := 2) ti103 rfl) ⟨rfl, trivial⟩ trivial ⟨rfl, trivial⟩ (R1 x5 rfl (x7 (by kernel_rfl) (x3 (x6 ?_))))
 refine x8 ?_
 refine R1 (x9 fo103_2 rfl) rfl (R1 (x9 fo53_0 rfl) rfl (xa3 (0) ti5 rfl rfl rfl (At.t (At.g 2 rfl rfl) (At.g 0 rfl rfl)) rfl (R2 d_neq rfl rfl (R1 x4 rfl ?_))))
 refine RGcaseD (t := 8) rfl (fun h59 => ?_) (fun h59 => ?_)
 ·
  refine RGoff (decide_eq_true h59) rfl rfl (RGoff (decide_eq_true h59) rfl rfl (RGoff (decide_eq_true h59) rfl rfl (RGoff (decide_eq_true h59) rfl rfl (RGoff (decide_eq_true h59) rfl rfl (R2 (xb5 (decide_eq_true h59)) rfl rfl (R1 x4 rfl (RGoff1 rfl rfl ?_)))))))
  refine RGoff1 rfl rfl (RGoff1 rfl rfl (RGoff1 rfl rfl (RGoff1 rfl rfl (RGoff1 rfl rfl (R2 (xb5 rfl) rfl rfl (R1 x5 rfl (x7 (by kernel_rfl) ?_)))))))
  refine x3 (xa2 ?_)
  exact xg2 LentC.mk' rfl rfl (Imp.le (Le.bool (sOk_not (by first | (simp; omega) | (simp [*]; done) | (simp [cmpQ_pos, *]; omega) | (simp [cmpQ_pos, *]))))) ⟨rfl, trivial⟩ rfl ⟨⟨rfl, (SupX.lit rfl)⟩, trivial⟩ rfl
 ·
  refine RGon (decide_eq_false h59) rfl (x9 fo103_2 rfl) rfl ⟨rfl, trivial⟩ trivial trivial (RGon (decide_eq_false h59) rfl (x9 fo53_1 rfl) rfl ⟨rfl, trivial⟩ trivial trivial (RGon (decide_eq_false h59) rfl (x9 fo49_0 rfl) rfl ⟨rfl, trivial⟩ trivial trivial (RGon (decide_eq_false h59) rfl (x9 fo47_0 rfl) rfl ⟨rfl, trivial⟩ trivial trivial (xb7 (decide_eq_false h59) rfl rfl (0) ti4 rfl rfl rfl (At.t (At.g 2 rfl rfl) (At.t (At.g 1 rfl rfl) (At.t (At.g 0 rfl rfl) (At.g 0 rfl rfl)))) rfl (R2 (xb4 (decide_eq_false h59)) rfl rfl (R1 x4 rfl ?_))))))
  refine RGcase (t := 15) rfl (fun h59_2 => ?_) (fun h59_2 => ?_)
  ·
   refine RGoff h59_2 rfl rfl (RGoff h59_2 rfl rfl (RGoff h59_2 rfl rfl (RGoff h59_2 rfl rfl (RGoff h59_2 rfl rfl (RGoff h59_2 rfl rfl (R2 (xb5 h59_2) rfl rfl (R1 x5 rfl ?_)))))))
   refine x7 (by kernel_rfl) (x3 (xa2 ?_))
   exact xg2 LentC.mk' rfl rfl (Imp.le (Le.bool (sOk_not (by first | (simp; omega) | (simp [*]; done) | (simp [cmpQ_pos, *]; omega) | (simp [cmpQ_pos, *]))))) ⟨rfl, trivial⟩ rfl ⟨⟨rfl, (SupX.lit rfl)⟩, trivial⟩ rfl
  ·
   refine RGon h59_2 rfl (x9 fo103_2 rfl) rfl ⟨rfl, trivial⟩ trivial trivial (RGon h59_2 rfl (x9 fo53_1 rfl) rfl ⟨rfl, trivial⟩ trivial trivial (xb7 h59_2 rfl rfl (0) ti49 rfl rfl rfl (At.t (At.g 2 rfl rfl) (At.g 1 rfl rfl)) rfl (RGon h59_2 rfl (xb2 (0) ti49 rfl rfl) rfl ⟨rfl, trivial⟩ ⟨rfl, trivial⟩ trivial (RGon h59_2 rfl (xa0 (c_FCmp1 s.v.f hD (num_valid hv (by omega))) fi79 rfl) rfl ⟨rfl, rfl, trivial⟩ trivial trivial (RGon h59_2 rfl xg3 rfl ⟨rfl, rfl, trivial⟩ trivial trivial (R2 (xb4 h59_2) rfl rfl (R1 x5 rfl ?_)))))))
   refine x7 (by kernel_rfl) (x3 (xa2 ?_))
   exact xg2 LentC.mk' rfl rfl (Imp.le (Le.bool (sOk_not (by first | (simp; omega) | (simp [*]; done) | (simp [cmpQ_pos, *]; omega) | (simp [cmpQ_pos, *]))))) ⟨rfl, trivial⟩ rfl ⟨⟨rfl, (SupX.lit rfl)⟩, trivial⟩ rfl
theorem c_SvIndex (l : List Tst) (hv : ∀ s ∈ l, s.v.valid = true) (hD : ∀ s ∈ l, s.v.f.dig) :
  CtG Tryz.prog 195 [(3, ⟨49, 4, true, [.val (tFr (fr ((1 : Int) : Rat)))]⟩)] [.val (tL 8 true tTs l), .own (.fn 194 [.ptr 3 0])] (.val (tI (ixF (fun s : Tst => !sOk s) l))) [(3, ⟨49, 4, true, [.val (tFr (fr ((1 : Int) : Rat)))]⟩)] [] := by
 refine CtG.intro [3] Tryz.func195 rfl Tryz.ntmps195 rfl rfl ⟨⟨rfl, (SupX.lit rfl)⟩, trivial⟩ ?_
 intro w F η
 refine C_len (s := 0) rfl (fun hl0 => ?_)
 refine x6 ?_
 refine x8 ?_
 refine R1 x5 rfl (x7 (by kernel_rfl) (x3 (x6 (x6 ?_))))
 refine x8 ?_
 refine R1 x4 rfl (R1 (xc1 Tryz.underlying88) rfl (R1 x4 rfl (x7 (by kernel_rfl) (x3 (xb3 ?_)))))
 refine xd9 (fun (i : Nat) => i ≤ l.length ∧ (l.take i).any (fun s : Tst => !sOk s) = false) (fun (i : Nat) => upd (upd (upd (upd (fun _ => none) 0 (some (.val (tL 8 true tTs l)))) 1 (some (.own (.fn 194 [.ptr 3 0])))) 7 (some (.val (tI l.length)))) 8 (some (.val (tI i)))) (fun (i : Nat) => upd (fun _ => none) 3 (some (⟨49, 4, true, [.val (tFr (fr ((1 : Int) : Rat)))]⟩))) (nm [3]) (fun (i : Nat) => l.length - i) (0) ⟨Nat.zero_le _, rfl⟩ (Sub.int rfl (by first | omega | rfl | (dsimp only; omega)) (Sub.int rfl (by first | omega | rfl | (dsimp only; omega)) (Sub.cons rfl (Sub.cons rfl Sub.nil)))) (SubK.cons rfl SubK.nil) (SupG.val (SupG.val (SupG.own rfl (SupG.val SupG.nil)))) (SupH.cons rfl (supJL rfl) SupH.nil) (lkOk rfl) ?_
 intro i hI
 obtain ⟨hi, ha⟩ := hI
 refine x6 ?_
 refine x8 ?_
 refine R2 xd7 rfl rfl (x7 (by kernel_rfl) (x3 (x6 ?_)))
 refine xb8 rfl (fun h108 => ?_) (fun h108 => ?_)
 ·
  refine xa4 (x3 (x6 (xb3 (x6 ?_))))
  refine x8 ?_
  refine R1 x4 rfl (R1 x5 rfl (x7 (by kernel_rfl) (x3 (x6 ?_))))
  refine x8 ?_
  refine R1 x4 rfl (R1 x4 rfl (R1 x4 rfl (R2 (xc3 sl88 (i) (by omega) (gD (l := l) (n := i) (d := tst0) (by omega))) rfl rfl (R1 (xc7 ti103) rfl (RE (d_callCX (ps := [.val (tTs _)]) (caps := [.ptr 3 0]) (fun _ => 3) (c_SvR1 (l.getD i tst0) (hv _ (xh8 (by omega))) (hD _ (xh8 (by omega)))) fi194 rfl (krC (ρ := fun _ => 3) (k := 3) rfl (krN (ρ := fun _ => 3))) (krC (ρ := fun _ => 3) (k := 3) rfl (krN (ρ := fun _ => 3))) ⟨⟨rfl, (SupX.lit rfl)⟩, trivial⟩ rfl) ⟨rfl, rfl, trivial⟩ ⟨rfl, trivial⟩ trivial (x7 (by kernel_rfl) (x3 ?_)))))))
  refine xf5 rfl (fun h109 => ?_) (fun h109 => ?_)
  ·
   refine x6 ?_
   refine x8 ?_
   refine R1 x4 rfl (R1 x5 rfl (x7 (by kernel_rfl) (x3 (xa2 (xc9 (xa7 (xa7 ?_)))))))
   refine xc9 (xa7 ?_)
   exact xg2 LentC.mk' rfl rfl (Imp.int (ixF_at (by omega) ha h109)) ⟨rfl, trivial⟩ rfl ⟨⟨rfl, (SupX.lit rfl)⟩, trivial⟩ rfl
  ·
   refine xa4 (xc8 (x3 ?_))
   refine x8 ?_
   refine R2 (xc2 (wr64 (by omega) (by omega))) rfl rfl (R1 x4 rfl (x7 (by kernel_rfl) ?_))
   exact xc6 (i + 1) ⟨⟨by omega, by rw [any_next (by omega), ha, h109]; rfl⟩, (by omega)⟩ (Sub.int rfl (by first | omega | rfl | (dsimp only; omega)) (Sub.int rfl (by first | omega | rfl | (dsimp only; omega)) (Sub.cons rfl (Sub.cons rfl Sub.nil)))) (SubK.cons rfl SubK.nil) (SupG.val (SupG.val (SupG.own rfl (SupG.val SupG.nil)))) (SupH.cons rfl (supJL rfl) SupH.nil) (lkOk rfl)
 ·
  refine xd4 (xc0 (xc0 (xe2 (x3 (x6 ?_)))))
  refine x8 ?_
  refine R1 x5 rfl (x7 (by kernel_rfl) (x3 (xa2 ?_)))
  exact xg2 LentC.mk' rfl rfl (Imp.int (ixF_end (by rw [← ha, show i = l.length by omega, List.take_length]))) ⟨rfl, trivial⟩ rfl ⟨⟨rfl, (SupX.lit rfl)⟩, trivial⟩ rfl
theorem c_SvContains (l : List Tst) (hv : ∀ s ∈ l, s.v.valid = true) (hD : ∀ s ∈ l, s.v.f.dig) :
  CtG Tryz.prog 152 [(3, ⟨49, 4, true, [.val (tFr (fr ((1 : Int) : Rat)))]⟩)] [.val (tL 8 true tTs l), .own (.fn 194 [.ptr 3 0])] (.val (tB (l.any (fun s : Tst => !sOk s)))) [(3, ⟨49, 4, true, [.val (tFr (fr ((1 : Int) : Rat)))]⟩)] [] := by
 refine CtG.intro [3] Tryz.func152 rfl Tryz.ntmps152 rfl rfl ⟨⟨rfl, (SupX.lit rfl)⟩, trivial⟩ ?_
 intro w F η
 refine x6 ?_
 refine x8 ?_
 refine R1 x5 rfl (x7 (by kernel_rfl) (x3 (x6 ?_)))
 refine x8 ?_
 refine R1 x4 rfl (R1 x4 rfl (RE (xi4 (fun _ => 3) (c_SvIndex l hv hD) fi195 rfl (krC (ρ := fun _ => 3) (k := 3) rfl (krN (ρ := fun _ => 3))) (krC (ρ := fun _ => 3) (k := 3) rfl (krN (ρ := fun _ => 3))) ⟨⟨rfl, (SupX.lit rfl)⟩, trivial⟩ rfl) ⟨rfl, rfl, trivial⟩ ⟨rfl, trivial⟩ trivial (R2 d_geq rfl rfl (R1 x5 rfl (x7 (by kernel_rfl) (x3 (xa2 ?_)))))))
 exact xg2 LentC.mk' rfl rfl (Imp.le (Le.bool ixF_any)) ⟨rfl, trivial⟩ rfl ⟨⟨rfl, (SupX.lit rfl)⟩, trivial⟩ rfl
theorem c_SvRight (l : List Tst) (hD : ∀ s ∈ l, s.v.f.dig) :
  Ct Tryz.prog 148 [tL 8 true tTs l] (tB (sRight l)) := by
 refine Ct.intro Tryz.func148 rfl Tryz.ntmps148 rfl ?_
 intro w F
 refine x6 ?_
 refine x8 ?_
 refine R1 x5 rfl (x7 (by kernel_rfl) (x3 (x6 (x6 ?_))))
 refine x8 ?_
 refine R1 x4 rfl (R1 (xa0 (c_TRight l hD) fi103 rfl) rfl (R1 xe5 rfl (x7 (by kernel_rfl) (x3 ?_))))
 refine xf5 rfl (fun h54 => ?_) (fun h54 => ?_)
 ·
  refine x6 ?_
  refine x8 ?_
  refine R1 x5 rfl (x7 (by kernel_rfl) (x3 (xa2 (xa7 ?_))))
  exact xa8 Plain.mk' rfl rfl (Le.bool (by rw [sRight, show tRight l = false by simpa using h54]; rfl))
 ·
  have ht : tRight l = true := by simpa using h54
  have hv := tRight_valid ht
  refine xa4 (x3 (x6 ?_))
  refine x8 ?_
  refine R1 (xa0 (c_FFromInt 1 (by decide) (by decide)) fi71 rfl) rfl (RE (xb9 (k := 3) (n := 4) (agg := true) zr49.1 zr49.2 rfl) trivial trivial ⟨rfl, trivial⟩ (RE (xa6 (es := 4) (agg := true) (0) ti49 rfl rfl rfl) ⟨rfl, rfl, trivial⟩ ⟨rfl, trivial⟩ trivial (x7 (by kernel_rfl) (x3 (x6 ?_)))))
  refine x8 ?_
  refine R1 x4 rfl (R1 (d_makeFunc (ps := [.ptr 3 0]) rfl) rfl (RE (xi4 (fun _ => 3) (c_SvContains l hv hD) fi152 rfl (krC (ρ := fun _ => 3) (k := 3) rfl (krN (ρ := fun _ => 3))) (krC (ρ := fun _ => 3) (k := 3) rfl (krN (ρ := fun _ => 3))) ⟨⟨rfl, (SupX.lit rfl)⟩, trivial⟩ rfl) ⟨rfl, rfl, trivial⟩ ⟨rfl, trivial⟩ trivial (R1 xe5 rfl (R1 x5 rfl (x7 (by kernel_rfl) (x3 (xa2 ?_)))))))
  exact xa8 Plain.mk' rfl rfl (Le.bool (by rw [sRight, ht, Bool.true_and, ← all_any2]))
abbrev tRec (l : List Tst) (a b : Int) : Ty := tS [⟨2, true, tSn ⟨a, b⟩⟩, ⟨1, false, tL 8 true tTs l⟩]
def askB (l : List Tst) (a b : Int) : Bool := sRight l && decide (0 ≤ a) && decide (a ≤ 65536) && decide (0 ≤ b) && decide (b ≤ 65536)
theorem askB_iff {l : List Tst} {a b : Int} : askB l a b = true ↔ sRight l = true ∧ 0 ≤ a ∧ a ≤ 65536 ∧ 0 ≤ b ∧ b ≤ 65536 := by
  simp only [askB, Bool.and_eq_true, decide_eq_true_eq, and_assoc]
theorem c_asked (l : List Tst) (a b : Int) (hD : ∀ s ∈ l, s.v.f.dig) :
  Ct Tryz.prog 96 [tL 8 true tTs l, tI a, tI b] (tT [tRec l a b, tB (askB l a b)]) := by
 refine Ct.intro Tryz.func96 rfl Tryz.ntmps96 rfl ?_
 intro w F
 refine x6 ?_
 refine x8 ?_
 refine RE (xb9 (k := 6) (n := 3) (agg := true) zr139.1 zr139.2 rfl) trivial trivial ⟨rfl, trivial⟩ (R1 x5 rfl (x7 (by kernel_rfl) (x3 (x6 ?_))))
 refine x8 ?_
 refine R1 x4 rfl (R1 (xa0 (c_SvRight l hD) fi148 rfl) rfl (R1 x4 rfl ?_))
 refine RGcase (t := 11) rfl (fun h25 => ?_) (fun h25 => ?_)
 ·
  refine RGon h25 rfl x4 rfl ⟨rfl, trivial⟩ trivial trivial (RGon h25 rfl xg0 rfl ⟨rfl, rfl, trivial⟩ trivial trivial (R2 (xb5 h25) rfl rfl (R1 x4 rfl ?_)))
  refine RGcaseD (t := 15) rfl (fun h25_2 => ?_) (fun h25_2 => ?_)
  ·
   refine RGon (decide_eq_true h25_2) rfl x4 rfl ⟨rfl, trivial⟩ trivial trivial (RGon (decide_eq_true h25_2) rfl xg0 rfl ⟨rfl, rfl, trivial⟩ trivial trivial (R2 (xb5 (decide_eq_true h25_2)) rfl rfl (R1 x4 rfl ?_)))
   refine RGcaseD (t := 19) rfl (fun h25_3 => ?_) (fun h25_3 => ?_)
   ·
    refine RGon (decide_eq_true h25_3) rfl x4 rfl ⟨rfl, trivial⟩ trivial trivial (RGon (decide_eq_true h25_3) rfl xg0 rfl ⟨rfl, rfl, trivial⟩ trivial trivial (R2 (xb5 (decide_eq_true h25_3)) rfl rfl (R1 x4 rfl ?_)))
    refine RGcaseD (t := 23) rfl (fun h25_4 => ?_) (fun h25_4 => ?_)
    ·
     refine RGon (decide_eq_true h25_4) rfl x4 rfl ⟨rfl, trivial⟩ trivial trivial (RGon (decide_eq_true h25_4) rfl xg0 rfl ⟨rfl, rfl, trivial⟩ trivial trivial (R2 (xb5 (decide_eq_true h25_4)) rfl rfl (R1 x5 rfl (x7 (by kernel_rfl) (x3 (x6 ?_))))))
     refine x8 ?_
     refine R1 x4 rfl (R1 x4 rfl (R2 (xd1 (r := tS [⟨1, false, tI a⟩, ⟨1, false, tI b⟩]) (ts := [(0, tI a), (1, tI b)]) bu99 zr99.2 ⟨_, rfl⟩ rfl ⟨_, _, _, _, rfl, Up.f (fs := [⟨1, false, (tE (.int .i64 0))⟩, ⟨1, false, (tE (.int .i64 0))⟩]) (f := ⟨1, false, (tE (.int .i64 0))⟩) (fs' := [⟨1, false, tI a⟩, ⟨1, false, (tE (.int .i64 0))⟩]) 0 rfl rfl rfl, inferInstance, ⟨_, _, _, _, rfl, Up.f (fs := [⟨1, false, tI a⟩, ⟨1, false, (tE (.int .i64 0))⟩]) (f := ⟨1, false, (tE (.int .i64 0))⟩) (fs' := [⟨1, false, tI a⟩, ⟨1, false, tI b⟩]) 1 rfl rfl rfl, inferInstance, Le.refl⟩⟩) rfl rfl (R1 x4 rfl (R2 (xd1 (r := tS [⟨2, true, tSn ⟨a, b⟩⟩, ⟨1, false, tL 8 true tTs l⟩]) (ts := [(0, tSn ⟨a, b⟩), (1, tL 8 true tTs l)]) bu139 zr139.2 ⟨_, rfl⟩ rfl ⟨_, _, _, _, rfl, Up.f (fs := [⟨2, true, (tS [⟨1, false, (tE (.int .i64 0))⟩, ⟨1, false, (tE (.int .i64 0))⟩])⟩, ⟨1, false, (tE (.slice none 0 0))⟩]) (f := ⟨2, true, (tS [⟨1, false, (tE (.int .i64 0))⟩, ⟨1, false, (tE (.int .i64 0))⟩])⟩) (fs' := [⟨2, true, tSn ⟨a, b⟩⟩, ⟨1, false, (tE (.slice none 0 0))⟩]) 0 rfl rfl rfl, inferInstance, ⟨_, _, _, _, rfl, Up.f (fs := [⟨2, true, tSn ⟨a, b⟩⟩, ⟨1, false, (tE (.slice none 0 0))⟩]) (f := ⟨1, false, (tE (.slice none 0 0))⟩) (fs' := [⟨2, true, tSn ⟨a, b⟩⟩, ⟨1, false, tL 8 true tTs l⟩]) 1 rfl rfl rfl, inferInstance, Le.refl⟩⟩) rfl rfl (R1 x4 rfl (RE (xa6 (es := 3) (agg := true) (0) ti139 rfl rfl rfl) ⟨rfl, rfl, trivial⟩ ⟨rfl, trivial⟩ trivial (R1 x5 rfl ?_)))))))
     refine x7 (by kernel_rfl) (x3 (xa2 ?_))
     exact xe8 Plain.mk' (rs := [.cell 6 139, .tmp 7]) rfl rfl ⟨⟨_, _, _, _, _, rfl, rfl, ti139, Le.refl⟩, ⟨_, rfl, (Le.bool (by simp only [askB]; simp [*]))⟩, trivial⟩
    ·
     refine RGoff (decide_eq_false h25_4) rfl rfl (RGoff (decide_eq_false h25_4) rfl rfl (R2 (xb4 (decide_eq_false h25_4)) rfl rfl (R1 x5 rfl (x7 (by kernel_rfl) (x3 (x6 ?_))))))
     refine x8 ?_
     refine R1 x4 rfl (R1 x4 rfl (R2 (xd1 (r := tS [⟨1, false, tI a⟩, ⟨1, false, tI b⟩]) (ts := [(0, tI a), (1, tI b)]) bu99 zr99.2 ⟨_, rfl⟩ rfl ⟨_, _, _, _, rfl, Up.f (fs := [⟨1, false, (tE (.int .i64 0))⟩, ⟨1, false, (tE (.int .i64 0))⟩]) (f := ⟨1, false, (tE (.int .i64 0))⟩) (fs' := [⟨1, false, tI a⟩, ⟨1, false, (tE (.int .i64 0))⟩]) 0 rfl rfl rfl, inferInstance, ⟨_, _, _, _, rfl, Up.f (fs := [⟨1, false, tI a⟩, ⟨1, false, (tE (.int .i64 0))⟩]) (f := ⟨1, false, (tE (.int .i64 0))⟩) (fs' := [⟨1, false, tI a⟩, ⟨1, false, tI b⟩]) 1 rfl rfl rfl, inferInstance, Le.refl⟩⟩) rfl rfl (R1 x4 rfl (R2 (xd1 (r := tS [⟨2, true, tSn ⟨a, b⟩⟩, ⟨1, false, tL 8 true tTs l⟩]) (ts := [(0, tSn ⟨a, b⟩), (1, tL 8 true tTs l)]) bu139 zr139.2 ⟨_, rfl⟩ rfl ⟨_, _, _, _, rfl, Up.f (fs := [⟨2, true, (tS [⟨1, false, (tE (.int .i64 0))⟩, ⟨1, false, (tE (.int .i64 0))⟩])⟩, ⟨1, false, (tE (.slice none 0 0))⟩]) (f := ⟨2, true, (tS [⟨1, false, (tE (.int .i64 0))⟩, ⟨1, false, (tE (.int .i64 0))⟩])⟩) (fs' := [⟨2, true, tSn ⟨a, b⟩⟩, ⟨1, false, (tE (.slice none 0 0))⟩]) 0 rfl rfl rfl, inferInstance, ⟨_, _, _, _, rfl, Up.f (fs := [⟨2, true, tSn ⟨a, b⟩⟩, ⟨1, false, (tE (.slice none 0 0))⟩]) (f := ⟨1, false, (tE (.slice none 0 0))⟩) (fs' := [⟨2, true, tSn ⟨a, b⟩⟩, ⟨1, false, tL 8 true tTs l⟩]) 1 rfl rfl rfl, inferInstance, Le.refl⟩⟩) rfl rfl (R1 x4 rfl (RE (xa6 (es := 3) (agg := true) (0) ti139 rfl rfl rfl) ⟨rfl, rfl, trivial⟩ ⟨rfl, trivial⟩ trivial (R1 x5 rfl ?_)))))))
     refine x7 (by kernel_rfl) (x3 (xa2 ?_))
     exact xe8 Plain.mk' (rs := [.cell 6 139, .tmp 7]) rfl rfl ⟨⟨_, _, _, _, _, rfl, rfl, ti139, Le.refl⟩, ⟨_, rfl, (Le.bool (by simp only [askB]; simp [*]))⟩, trivial⟩
   ·
    refine RGoff (decide_eq_false h25_3) rfl rfl (RGoff (decide_eq_false h25_3) rfl rfl (R2 (xb4 (decide_eq_false h25_3)) rfl rfl (R1 x4 rfl (RGoff0 rfl rfl (RGoff0 rfl rfl (R2 (xb4 rfl) rfl rfl (R1 x5 rfl ?_)))))))
    refine x7 (by kernel_rfl) (x3 (x6 ?_))
    refine x8 ?_
    refine R1 x4 rfl (R1 x4 rfl (R2 (xd1 (r := tS [⟨1, false, tI a⟩, ⟨1, false, tI b⟩]) (ts := [(0, tI a), (1, tI b)]) bu99 zr99.2 ⟨_, rfl⟩ rfl ⟨_, _, _, _, rfl, Up.f (fs := [⟨1, false, (tE (.int .i64 0))⟩, ⟨1, false, (tE (.int .i64 0))⟩]) (f := ⟨1, false, (tE (.int .i64 0))⟩) (fs' := [⟨1, false, tI a⟩, ⟨1, false, (tE (.int .i64 0))⟩]) 0 rfl rfl rfl, inferInstance, ⟨_, _, _, _, rfl, Up.f (fs := [⟨1, false, tI a⟩, ⟨1, false, (tE (.int .i64 0))⟩]) (f := ⟨1, false, (tE (.int .i64 0))⟩) (fs' := [⟨1, false, tI a⟩, ⟨1, false, tI b⟩]) 1 rfl rfl rfl, inferInstance, Le.refl⟩⟩) rfl rfl (R1 x4 rfl (R2 (xd1 (r := tS [⟨2, true, tSn ⟨a, b⟩⟩, ⟨1, false, tL 8 true tTs l⟩]) (ts := [(0, tSn ⟨a, b⟩), (1, tL 8 true tTs l)]) bu139 zr139.2 ⟨_, rfl⟩ rfl ⟨_, _, _, _, rfl, Up.f (fs := [⟨2, true, (tS [⟨1, false, (tE (.int .i64 0))⟩, ⟨1, false, (tE (.int .i64 0))⟩])⟩, ⟨1, false, (tE (.slice none 0 0))⟩]) (f := ⟨2, true, (tS [⟨1, false, (tE (.int .i64 0))⟩, ⟨1, false, (tE (.int .i64 0))⟩])⟩) (fs' := [⟨2, true, tSn ⟨a, b⟩⟩, ⟨1, false, (tE (.slice none 0 0))⟩]) 0 rfl rfl rfl, inferInstance, ⟨_, _, _, _, rfl, Up.f (fs := [⟨2, true, tSn ⟨a, b⟩⟩, ⟨1, false, (tE (.slice none 0 0))⟩]) (f := ⟨1, false, (tE (.slice none 0 0))⟩) (fs' := [⟨2, true, tSn ⟨a, b⟩⟩, ⟨1, false, tL 8 true tTs l⟩]) 1 rfl rfl rfl, inferInstance, Le.refl⟩⟩) rfl rfl (R1 x4 rfl (RE (xa6 (es := 3) (agg := true) (0) ti139 rfl rfl rfl) ⟨rfl, rfl, trivial⟩ ⟨rfl, trivial⟩ trivial (R1 x5 rfl ?_)))))))
    refine x7 (by kernel_rfl) (x3 (xa2 ?_))
    exact xe8 Plain.mk' (rs := [.cell 6 139, .tmp 7]) rfl rfl ⟨⟨_, _, _, _, _, rfl, rfl, ti139, Le.refl⟩, ⟨_, rfl, (Le.bool (by simp only [askB]; simp [*]))⟩, trivial⟩
  ·
   refine RGoff (decide_eq_false h25_2) rfl rfl (RGoff (decide_eq_false h25_2) rfl rfl (R2 (xb4 (decide_eq_false h25_2)) rfl rfl (R1 x4 rfl (RGoff0 rfl rfl (RGoff0 rfl rfl (R2 (xb4 rfl) rfl rfl (R1 x4 rfl ?_)))))))
   refine RGoff0 rfl rfl (RGoff0 rfl rfl (R2 (xb4 rfl) rfl rfl (R1 x5 rfl (x7 (by kernel_rfl) (x3 (x6 ?_))))))
   refine x8 ?_
   refine R1 x4 rfl (R1 x4 rfl (R2 (xd1 (r := tS [⟨1, false, tI a⟩, ⟨1, false, tI b⟩]) (ts := [(0, tI a), (1, tI b)]) bu99 zr99.2 ⟨_, rfl⟩ rfl ⟨_, _, _, _, rfl, Up.f (fs := [⟨1, false, (tE (.int .i64 0))⟩, ⟨1, false, (tE (.int .i64 0))⟩]) (f := ⟨1, false, (tE (.int .i64 0))⟩) (fs' := [⟨1, false, tI a⟩, ⟨1, false, (tE (.int .i64 0))⟩]) 0 rfl rfl rfl, inferInstance, ⟨_, _, _, _, rfl, Up.f (fs := [⟨1, false, tI a⟩, ⟨1, false, (tE (.int .i64 0))⟩]) (f := ⟨1, false, (tE (.int .i64 0))⟩) (fs' := [⟨1, false, tI a⟩, ⟨1, false, tI b⟩]) 1 rfl rfl rfl, inferInstance, Le.refl⟩⟩) rfl rfl (R1 x4 rfl (R2 (xd1 (r := tS [⟨2, true, tSn ⟨a, b⟩⟩, ⟨1, false, tL 8 true tTs l⟩]) (ts := [(0, tSn ⟨a, b⟩), (1, tL 8 true tTs l)]) bu139 zr139.2 ⟨_, rfl⟩ rfl ⟨_, _, _, _, rfl, Up.f (fs := [⟨2, true, (tS [⟨1, false, (tE (.int .i64 0))⟩, ⟨1, false, (tE (.int .i64 0))⟩])⟩, ⟨1, false, (tE (.slice none 0 0))⟩]) (f := ⟨2, true, (tS [⟨1, false, (tE (.int .i64 0))⟩, ⟨1, false, (tE (.int .i64 0))⟩])⟩) (fs' := [⟨2, true, tSn ⟨a, b⟩⟩, ⟨1, false, (tE (.slice none 0 0))⟩]) 0 rfl rfl rfl, inferInstance, ⟨_, _, _, _, rfl, Up.f (fs := [⟨2, true, tSn ⟨a, b⟩⟩, ⟨1, false, (tE (.slice none 0 0))⟩]) (f := ⟨1, false, (tE (.slice none 0 0))⟩) (fs' := [⟨2, true, tSn ⟨a, b⟩⟩, ⟨1, false, tL 8 true tTs l⟩]) 1 rfl rfl rfl, inferInstance, Le.refl⟩⟩) rfl rfl (R1 x4 rfl (RE (xa6 (es := 3) (agg := true) (0) ti139 rfl rfl rfl) ⟨rfl, rfl, trivial⟩ ⟨rfl, trivial⟩ trivial (R1 x5 rfl ?_)))))))
   refine x7 (by kernel_rfl) (x3 (xa2 ?_))
   exact xe8 Plain.mk' (rs := [.cell 6 139, .tmp 7]) rfl rfl ⟨⟨_, _, _, _, _, rfl, rfl, ti139, Le.refl⟩, ⟨_, rfl, (Le.bool (by simp only [askB]; simp [*]))⟩, trivial⟩
 ·
  refine RGoff h25 rfl rfl (RGoff h25 rfl rfl (R2 (xb4 h25) rfl rfl (R1 x4 rfl (RGoff0 rfl rfl (RGoff0 rfl rfl (R2 (xb4 rfl) rfl rfl (R1 x4 rfl ?_)))))))
  refine RGoff0 rfl rfl (RGoff0 rfl rfl (R2 (xb4 rfl) rfl rfl (R1 x4 rfl (RGoff0 rfl rfl (RGoff0 rfl rfl (R2 (xb4 rfl) rfl rfl (R1 x5 rfl ?_)))))))
  refine x7 (by kernel_rfl) (x3 (x6 ?_))
  refine x8 ?_
  refine R1 x4 rfl (R1 x4 rfl (R2 (xd1 (r := tS [⟨1, false, tI a⟩, ⟨1, false, tI b⟩]) (ts := [(0, tI a), (1, tI b)]) bu99 zr99.2 ⟨_, rfl⟩ rfl ⟨_, _, _, _, rfl, Up.f (fs := [⟨1, false, (tE (.int .i64 0))⟩, ⟨1, false, (tE (.int .i64 0))⟩]) (f := ⟨1, false, (tE (.int .i64 0))⟩) (fs' := [⟨1, false, tI a⟩, ⟨1, false, (tE (.int .i64 0))⟩]) 0 rfl rfl rfl, inferInstance, ⟨_, _, _, _, rfl, Up.f (fs := [⟨1, false, tI a⟩, ⟨1, false, (tE (.int .i64 0))⟩]) (f := ⟨1, false, (tE (.int .i64 0))⟩) (fs' := [⟨1, false, tI a⟩, ⟨1, false, tI b⟩]) 1 rfl rfl rfl, inferInstance, Le.refl⟩⟩) rfl rfl (R1 x4 rfl (R2 (xd1 (r := tS [⟨2, true, tSn ⟨a, b⟩⟩, ⟨1, false, tL 8 true tTs l⟩]) (ts := [(0, tSn ⟨a, b⟩), (1, tL 8 true tTs l)]) bu139 zr139.2 ⟨_, rfl⟩ rfl ⟨_, _, _, _, rfl, Up.f (fs := [⟨2, true, (tS [⟨1, false, (tE (.int .i64 0))⟩, ⟨1, false, (tE (.int .i64 0))⟩])⟩, ⟨1, false, (tE (.slice none 0 0))⟩]) (f := ⟨2, true, (tS [⟨1, false, (tE (.int .i64 0))⟩, ⟨1, false, (tE (.int .i64 0))⟩])⟩) (fs' := [⟨2, true, tSn ⟨a, b⟩⟩, ⟨1, false, (tE (.slice none 0 0))⟩]) 0 rfl rfl rfl, inferInstance, ⟨_, _, _, _, rfl, Up.f (fs := [⟨2, true, tSn ⟨a, b⟩⟩, ⟨1, false, (tE (.slice none 0 0))⟩]) (f := ⟨1, false, (tE (.slice none 0 0))⟩) (fs' := [⟨2, true, tSn ⟨a, b⟩⟩, ⟨1, false, tL 8 true tTs l⟩]) 1 rfl rfl rfl, inferInstance, Le.refl⟩⟩) rfl rfl (R1 x4 rfl (RE (xa6 (es := 3) (agg := true) (0) ti139 rfl rfl rfl) ⟨rfl, rfl, trivial⟩ ⟨rfl, trivial⟩ trivial (R1 x5 rfl ?_)))))))
  refine x7 (by kernel_rfl) (x3 (xa2 ?_))
  exact xe8 Plain.mk' (rs := [.cell 6 139, .tmp 7]) rfl rfl ⟨⟨_, _, _, _, _, rfl, rfl, ti139, Le.refl⟩, ⟨_, rfl, (Le.bool (by simp only [askB]; simp [*]))⟩, trivial⟩
theorem c_none (l : List Tst) (a b : Int) :
  Ct Tryz.prog 97 [tRec l a b] (tB (decide (b ≤ a))) := by
 refine Ct.intro Tryz.func97 rfl Tryz.ntmps97 rfl ?_
 intro w F
 refine x6 ?_
 refine x8 ?_
 refine RE (xd2 (k := 1) ti139 rfl) ⟨rfl, trivial⟩ trivial ⟨rfl, trivial⟩ (R1 x5 rfl (x7 (by kernel_rfl) (x3 (x6 ?_))))
 refine x8 ?_
 refine R1 (x9 fo139_0 rfl) rfl (R1 (x9 fo99_1 rfl) rfl (xa3 (0) ti3 rfl rfl rfl (At.t (At.g 0 rfl rfl) (At.g 1 rfl rfl)) rfl (R1 (x9 fo139_0 rfl) rfl (R1 (x9 fo99_0 rfl) rfl (xa3 (0) ti3 rfl rfl rfl (At.t (At.g 0 rfl rfl) (At.g 0 rfl rfl)) rfl (R2 xg0 rfl rfl (R1 x5 rfl ?_)))))))
 refine x7 (by kernel_rfl) (x3 (xa2 ?_))
 exact xa8 Plain.mk' rfl rfl Le.refl
/-- No working day of the days asked for. -/
def idle (a b : Int) (s : Tst) : Bool := decide (s.v.f.n.l.length = 0) || decide (s.hi ≤ a) || decide (b ≤ s.lo)
theorem idle_iff {a b : Int} {s : Tst} : idle a b s = true ↔ (s.v.f.n.l.length : Int) = 0 ∨ s.hi ≤ a ∨ b ≤ s.lo := by
  simp only [idle, Bool.or_eq_true, decide_eq_true_eq, or_assoc]; omega
theorem idle_eq {a b : Int} {s : Tst} {c : Bool} (h : c = true ↔ (s.v.f.n.l.length : Int) = 0 ∨ s.hi ≤ a ∨ b ≤ s.lo) : c = idle a b s := Bool.eq_iff_iff.2 (h.trans idle_iff.symm)
def clipS (a b : Int) (s : Tst) : Sn := ⟨max s.lo a, min s.hi b⟩
def wkS (l : List Tst) (a b : Int) : List Sn := (l.filter fun s => !idle a b s).map (clipS a b)
def wkd (l : List Tst) (a b : Int) : List Sn := if b ≤ a then [] else if (wkS l a b).all Sn.ok = true then mkS (wkS l a b) else []
theorem wkS_next {l : List Tst} {a b : Int} {i : Nat} (hi : i < l.length) : wkS (l.take (i + 1)) a b = wkS (l.take i) a b ++ (if idle a b (l.getD i tst0) then [] else [clipS a b (l.getD i tst0)]) := by
  rw [wkS, List.take_succ_eq_append_getElem hi, List.filter_append, List.map_append, List.getD_eq_getElem?_getD, List.getElem?_eq_getElem hi]
  by_cases h : idle a b l[i] = true <;> simp [h, wkS]
theorem wkS_len {l : List Tst} {a b : Int} : (wkS l a b).length ≤ l.length := by
  rw [wkS, List.length_map]; exact List.length_filter_le _ _
theorem c_idle (l : List Tst) (a b : Int) (s : Tst) :
  CtG Tryz.prog 150 [(1, ⟨139, 3, true, [.val (tRec l a b)]⟩)] [.val (tTs s), .own (.ptr 1 0)] (.val (tB (idle a b s))) [(1, ⟨139, 3, true, [.val (tRec l a b)]⟩)] [] := by
 refine CtG.intro [1] Tryz.func150 rfl Tryz.ntmps150 rfl rfl ⟨⟨rfl, (SupX.lit rfl)⟩, trivial⟩ ?_
 intro w F η
 refine x6 ?_
 refine x8 ?_
 refine RE (xd2 (k := 2) ti103 rfl) ⟨rfl, trivial⟩ trivial ⟨rfl, trivial⟩ (R1 x5 rfl (x7 (by kernel_rfl) (x3 (x6 ?_))))
 refine x8 ?_
 refine R1 (x9 fo103_2 rfl) rfl (R1 (x9 fo53_1 rfl) rfl (R1 (x9 fo49_0 rfl) rfl (R1 (x9 fo47_1 rfl) rfl (xa3 (0) ti45 rfl rfl rfl (At.t (At.g 2 rfl rfl) (At.t (At.g 1 rfl rfl) (At.t (At.g 0 rfl rfl) (At.g 1 rfl rfl)))) rfl (R1 (xc1 Tryz.underlying45) rfl (R2 xf1 rfl rfl (R1 x4 rfl ?_)))))))
 refine RGcaseD (t := 11) rfl (fun h40 => ?_) (fun h40 => ?_)
 ·
  refine RGoff (decide_eq_true h40) rfl rfl (RGoff (decide_eq_true h40) rfl rfl (RGoff (decide_eq_true h40) rfl rfl (RGoff (decide_eq_true h40) rfl rfl (RGoff (decide_eq_true h40) rfl rfl (RGoff (decide_eq_true h40) rfl rfl (R2 (xb5 (decide_eq_true h40)) rfl rfl (R1 x4 rfl ?_)))))))
  refine RGoff1 rfl rfl (RGoff1 rfl rfl (RGoff1 rfl rfl (RGoff1 rfl rfl (RGoff1 rfl rfl (RGoff1 rfl rfl (R2 (xb5 rfl) rfl rfl (R1 x5 rfl ?_)))))))
  refine x7 (by kernel_rfl) (x3 (xa2 ?_))
  exact xg2 LentC.mk' rfl rfl (Imp.le (Le.bool (idle_eq (by (try dsimp only at *); (try first | simp only [true_iff] | simp only [decide_eq_true_eq]); omega)))) ⟨rfl, trivial⟩ rfl ⟨⟨rfl, (SupX.lit rfl)⟩, trivial⟩ rfl
 ·
  refine RGon (decide_eq_false h40) rfl (x9 fo103_1 rfl) rfl ⟨rfl, trivial⟩ trivial trivial (xb7 (decide_eq_false h40) rfl rfl (0) ti3 rfl rfl rfl (At.g 1 rfl rfl) rfl (RGon (decide_eq_false h40) rfl (x9 fo139_0 rfl) rfl ⟨rfl, trivial⟩ trivial trivial (RGon (decide_eq_false h40) rfl (x9 fo99_0 rfl) rfl ⟨rfl, trivial⟩ trivial trivial (xb7 (decide_eq_false h40) rfl rfl (0) ti3 rfl rfl rfl (At.t (At.g 0 rfl rfl) (At.g 0 rfl rfl)) rfl (RGon (decide_eq_false h40) rfl xg0 rfl ⟨rfl, rfl, trivial⟩ trivial trivial (R2 (xb4 (decide_eq_false h40)) rfl rfl (R1 x4 rfl ?_)))))))
  refine RGcaseD (t := 19) rfl (fun h40_2 => ?_) (fun h40_2 => ?_)
  ·
   refine RGoff (decide_eq_true h40_2) rfl rfl (RGoff (decide_eq_true h40_2) rfl rfl (RGoff (decide_eq_true h40_2) rfl rfl (RGoff (decide_eq_true h40_2) rfl rfl (RGoff (decide_eq_true h40_2) rfl rfl (RGoff (decide_eq_true h40_2) rfl rfl (R2 (xb5 (decide_eq_true h40_2)) rfl rfl (R1 x5 rfl ?_)))))))
   refine x7 (by kernel_rfl) (x3 (xa2 ?_))
   exact xg2 LentC.mk' rfl rfl (Imp.le (Le.bool (idle_eq (by (try dsimp only at *); (try first | simp only [true_iff] | simp only [decide_eq_true_eq]); omega)))) ⟨rfl, trivial⟩ rfl ⟨⟨rfl, (SupX.lit rfl)⟩, trivial⟩ rfl
  ·
   refine RGon (decide_eq_false h40_2) rfl (x9 fo103_0 rfl) rfl ⟨rfl, trivial⟩ trivial trivial (xb7 (decide_eq_false h40_2) rfl rfl (0) ti3 rfl rfl rfl (At.g 0 rfl rfl) rfl (RGon (decide_eq_false h40_2) rfl (x9 fo139_0 rfl) rfl ⟨rfl, trivial⟩ trivial trivial (RGon (decide_eq_false h40_2) rfl (x9 fo99_1 rfl) rfl ⟨rfl, trivial⟩ trivial trivial (xb7 (decide_eq_false h40_2) rfl rfl (0) ti3 rfl rfl rfl (At.t (At.g 0 rfl rfl) (At.g 1 rfl rfl)) rfl (RGon (decide_eq_false h40_2) rfl d_geq rfl ⟨rfl, rfl, trivial⟩ trivial trivial (R2 (xb4 (decide_eq_false h40_2)) rfl rfl (R1 x5 rfl ?_)))))))
   refine x7 (by kernel_rfl) (x3 (xa2 ?_))
   exact xg2 LentC.mk' rfl rfl (Imp.le (Le.bool (idle_eq (by (try dsimp only at *); (try first | simp only [true_iff] | simp only [decide_eq_true_eq]); omega)))) ⟨rfl, trivial⟩ rfl ⟨⟨rfl, (SupX.lit rfl)⟩, trivial⟩ rfl
theorem c_worked (l : List Tst) (a b : Int) (hl : l.length ≤ 1000000) :
  Ct Tryz.prog 101 [tRec l a b] (tL 2 true tSn (wkd l a b)) := by
 refine Ct.intro Tryz.func101 rfl Tryz.ntmps101 rfl ?_
 intro w F
 refine x6 ?_
 refine x8 ?_
 refine RE (xd2 (k := 1) ti139 rfl) ⟨rfl, trivial⟩ trivial ⟨rfl, trivial⟩ (R1 x5 rfl (x7 (by kernel_rfl) (x3 (x6 (x6 ?_)))))
 refine x8 ?_
 refine RE (xb2 (0) ti139 rfl rfl) ⟨rfl, trivial⟩ ⟨rfl, trivial⟩ trivial (R1 (xa0 (c_none l a b) fi97 rfl) rfl (x7 (by kernel_rfl) (x3 ?_)))
 refine xb8 rfl (fun h36 => ?_) (fun h36 => ?_)
 ·
  refine x6 ?_
  refine x8 ?_
  refine R1 x5 rfl (x7 (by kernel_rfl) (x3 (xa2 (xa7 ?_))))
  exact xa8 Plain.mk' rfl rfl (leNil (by rw [wkd, if_pos h36]))
 ·
  refine xa4 (x3 (x6 ?_))
  refine x8 ?_
  refine R1 (d_makeFunc (ps := [.ptr 1 0]) rfl) rfl (R1 x5 rfl (x7 (by kernel_rfl) (x3 (x6 ?_))))
  refine x8 ?_
  refine RE (xi1 (k := 4) 99 2 true rfl (fun h => by cases h)) trivial trivial ⟨rfl, trivial⟩ (x7 (by kernel_rfl) (x3 (x6 (x6 ?_))))
  refine x8 ?_
  refine R1 (x9 fo139_1 rfl) rfl (xa3 (0) ti88 rfl rfl rfl (At.g 1 rfl rfl) rfl (R1 (xc1 Tryz.underlying88) rfl (R1 x4 rfl (x7 (by kernel_rfl) (x3 (xb3 ?_))))))
  refine xd9 (fun (fm : (Nat) × (List Sn)) => (fun (i : Nat) (xs : List Sn) => i ≤ l.length ∧ xs = wkS (l.take i) a b) fm.1 fm.2) (fun (fm : (Nat) × (List Sn)) => (fun (i : Nat) (xs : List Sn) => upd (upd (upd (upd (upd (upd (fun _ => none) 1 (some (.own (.ptr 1 0)))) 3 (some (.own (.fn 150 [.ptr 1 0])))) 4 (some (.own (.sl 4 2 0 xs.length)))) 13 (some (.val (tL 8 true tTs l)))) 14 (some (.val (tI l.length)))) 15 (some (.val (tI i)))) fm.1 fm.2) (fun (fm : (Nat) × (List Sn)) => (fun (i : Nat) (xs : List Sn) => upd (upd (fun _ => none) 1 (some (⟨139, 3, true, [.val (tRec l a b)]⟩))) 4 (some (⟨99, 2, true, rV tSn xs⟩))) fm.1 fm.2) (nm [1, 4]) (fun (fm : (Nat) × (List Sn)) => (fun (i : Nat) (xs : List Sn) => l.length - i) fm.1 fm.2) ((0, [])) (by dsimp only; exact ⟨Nat.zero_le _, rfl⟩) (Sub.int rfl (by first | omega | rfl | (dsimp only; omega)) (Sub.int rfl (by first | omega | rfl | (dsimp only; omega)) (Sub.cons rfl (Sub.cons rfl (Sub.cons rfl (Sub.cons rfl Sub.nil)))))) ((SubK.consI rfl ImpK.refl) ((SubK.consI rfl ImpK.refl) SubK.nil)) (SupG.val (SupG.val (SupG.val (SupG.own rfl (SupG.own rfl (SupG.own rfl SupG.nil)))))) (SupH.cons rfl (supJ xf2) (SupH.cons rfl (supJL rfl) SupH.nil)) (lkOk rfl) ?_
  intro fm hI
  obtain ⟨i, xs⟩ := fm
  replace hI : i ≤ l.length ∧ xs = wkS (l.take i) a b := hI
  show wc _ _ _ _ (upd (upd (upd (upd (upd (upd (fun _ => none) 1 (some (.own (.ptr 1 0)))) 3 (some (.own (.fn 150 [.ptr 1 0])))) 4 (some (.own (.sl 4 2 0 xs.length)))) 13 (some (.val (tL 8 true tTs l)))) 14 (some (.val (tI l.length)))) 15 (some (.val (tI i)))) (upd (upd (fun _ => none) 1 (some (⟨139, 3, true, [.val (tRec l a b)]⟩))) 4 (some (⟨99, 2, true, rV tSn xs⟩))) _
  obtain ⟨hi, hx⟩ := hI
  have hxl : xs.length ≤ i := by
   have h := wkS_len (l := l.take i) (a := a) (b := b)
   rw [← hx, List.length_take] at h; omega
  refine x6 ?_
  refine x8 ?_
  refine R2 xd7 rfl rfl (x7 (by kernel_rfl) (x3 (x6 ?_)))
  refine xb8 rfl (fun h43 => ?_) (fun h43 => ?_)
  ·
   refine xa4 (x3 (x6 (xb3 (x6 ?_))))
   refine x8 ?_
   refine R2 (xc3 sl88 (i) (by omega) (gD (l := l) (n := i) (d := tst0) (by omega))) rfl rfl (R1 (xc7 ti103) rfl (RE (xb9 (k := 6) (n := 8) (agg := true) zr103.1 zr103.2 rfl) trivial trivial ⟨rfl, trivial⟩ (RE (xa6 (es := 8) (agg := true) (0) ti103 rfl rfl rfl) ⟨rfl, rfl, trivial⟩ ⟨rfl, trivial⟩ trivial (x7 (by kernel_rfl) (x3 (x6 ?_))))))
   refine x8 ?_
   refine R1 x4 rfl (RE (xb2 (0) ti103 rfl rfl) ⟨rfl, trivial⟩ ⟨rfl, trivial⟩ trivial (RE (d_callCX (ps := [.val (tTs _)]) (caps := [.ptr 1 0]) (fun _ => 1) (c_idle l a b (l.getD i tst0)) fi150 rfl (krC (ρ := fun _ => 1) (k := 1) rfl (krN (ρ := fun _ => 1))) (krC (ρ := fun _ => 1) (k := 1) rfl (krN (ρ := fun _ => 1))) ⟨⟨rfl, (SupX.lit rfl)⟩, trivial⟩ rfl) ⟨rfl, rfl, trivial⟩ ⟨rfl, trivial⟩ trivial (R1 xe5 rfl (x7 (by kernel_rfl) (x3 ?_)))))
   refine xf5 rfl (fun h44 => ?_) (fun h44 => ?_)
   ·
    refine x8 ?_
    refine R1 x4 rfl (R1 (x9 fo103_0 rfl) rfl (xa3 (0) ti3 rfl rfl rfl (At.g 0 rfl rfl) rfl (R1 (x9 fo139_0 rfl) rfl (R1 (x9 fo99_0 rfl) rfl (xa3 (0) ti3 rfl rfl rfl (At.t (At.g 0 rfl rfl) (At.g 0 rfl rfl)) rfl (R2 d_max2 rfl rfl (R1 (x9 fo103_1 rfl) rfl ?_)))))))
    refine xa3 (0) ti3 rfl rfl rfl (At.g 1 rfl rfl) rfl (R1 (x9 fo139_0 rfl) rfl (R1 (x9 fo99_1 rfl) rfl (xa3 (0) ti3 rfl rfl rfl (At.t (At.g 0 rfl rfl) (At.g 1 rfl rfl)) rfl (R2 d_min2 rfl rfl (R2 (xd1 (r := tS [⟨1, false, tI (max (l.getD i tst0).lo a)⟩, ⟨1, false, tI (min (l.getD i tst0).hi b)⟩]) (ts := [(0, tI (max (l.getD i tst0).lo a)), (1, tI (min (l.getD i tst0).hi b))]) bu99 zr99.2 ⟨_, rfl⟩ rfl ⟨_, _, _, _, rfl, Up.f (fs := [⟨1, false, (tE (.int .i64 0))⟩, ⟨1, false, (tE (.int .i64 0))⟩]) (f := ⟨1, false, (tE (.int .i64 0))⟩) (fs' := [⟨1, false, tI (max (l.getD i tst0).lo a)⟩, ⟨1, false, (tE (.int .i64 0))⟩]) 0 rfl rfl rfl, inferInstance, ⟨_, _, _, _, rfl, Up.f (fs := [⟨1, false, tI (max (l.getD i tst0).lo a)⟩, ⟨1, false, (tE (.int .i64 0))⟩]) (f := ⟨1, false, (tE (.int .i64 0))⟩) (fs' := [⟨1, false, tI (max (l.getD i tst0).lo a)⟩, ⟨1, false, tI (min (l.getD i tst0).hi b)⟩]) 1 rfl rfl rfl, inferInstance, Le.refl⟩⟩) rfl rfl (R1 (xg5 (n := 1) (f := tSn) [(clipS a b (l.getD i tst0))] Tryz.underlying93 el99 zf99 rfl (fun _ => inferInstance) rfl rfl rfl) rfl (RE (xf4 (k := 4) (k' := 38) (f := tSn) (ys := [(clipS a b (l.getD i tst0))]) (ts' := rV tSn (xs ++ [(clipS a b (l.getD i tst0))])) Tryz.underlying93 el99 zf99 rfl rfl (fun _ => inferInstance) rV_len (by simp; omega) (by simp; omega) (by simp [rV]) (n' := xs.length + 1) rfl) ⟨rfl, rfl, trivial⟩ ⟨rfl, trivial⟩ ⟨rfl, trivial⟩ ?_)))))))
    refine R1 x5 rfl (x7 (by kernel_rfl) (xc8 (x3 ?_)))
    refine x8 ?_
    refine R2 (xc2 (wr64 (by omega) (by omega))) rfl rfl (R1 x4 rfl (x7 (by kernel_rfl) ?_))
    exact K_famR (l := [1, 4]) (fun j => cond (Nat.beq j 4) 38 (j)) ((i + 1, xs ++ [(clipS a b (l.getD i tst0))])) ⟨(by dsimp only; exact ⟨by omega, by rw [wkS_next (by omega), ← hx, if_neg (by simpa using h44)]⟩), (by dsimp only; omega)⟩ (SubR.int rfl (by first | omega | rfl | (dsimp only; omega)) (SubR.int rfl (by first | omega | rfl | (dsimp only; omega)) (SubR.cons rfl ((SubR.consI rfl (Imp.of (by dsimp only; rw [List.length_append]; rfl))) (SubR.cons rfl (SubR.cons rfl SubR.nil)))))) ((SubKR.consI rfl (ImpK.of ren_rV.symm)) ((SubKR.consI rfl ImpK.refl) SubKR.nil)) (SupG.val (SupG.val (SupG.val (SupG.own rfl (SupG.own rfl (SupG.own rfl SupG.nil)))))) (SupH.cons rfl (supJ xf2) (SupH.cons rfl (supJL rfl) SupH.nil)) (lkOk rfl) rfl rfl (fun _ h => by cases h)
   ·
    refine xa4 (xc8 (x3 ?_))
    refine x8 ?_
    refine R2 (xc2 (wr64 (by omega) (by omega))) rfl rfl (R1 x4 rfl (x7 (by kernel_rfl) ?_))
    exact xc6 ((i + 1, xs)) ⟨(by dsimp only; exact ⟨by omega, by rw [wkS_next (by omega), ← hx, if_pos (by simpa using h44), List.append_nil]⟩), (by dsimp only; omega)⟩ (Sub.int rfl (by first | omega | rfl | (dsimp only; omega)) (Sub.int rfl (by first | omega | rfl | (dsimp only; omega)) (Sub.cons rfl (Sub.cons rfl (Sub.cons rfl (Sub.cons rfl Sub.nil)))))) ((SubK.consI rfl ImpK.refl) ((SubK.consI rfl ImpK.refl) SubK.nil)) (SupG.val (SupG.val (SupG.val (SupG.own rfl (SupG.own rfl (SupG.own rfl SupG.nil)))))) (SupH.cons rfl (supJ xf2) (SupH.cons rfl (supJL rfl) SupH.nil)) (lkOk rfl)
  ·
   refine xd4 (xc0 (xc0 (xe2 (x3 (x6 ?_)))))
   refine x8 ?_
   refine RE (xh9 (f := tSn) (xs := xs) (fun _ h => h) (rV_all rfl) rfl) ⟨rfl, trivial⟩ ⟨rfl, trivial⟩ trivial (R1 (xa0 (c_SnMake xs (by omega)) fi110 rfl) rfl (R1 x4 rfl (R1 (xa5 rfl) rfl (R1 (xa5 rfl) rfl (R1 x5 rfl (R1 x5 rfl (x7 (by kernel_rfl) ?_)))))))
   refine x3 (x6 ?_)
   refine x8 ?_
   refine R1 x4 rfl (R1 x5 rfl (x7 (by kernel_rfl) (x3 (xa2 ?_))))
   exact xa8 Plain.mk' rfl rfl (Le.of (by rw [wkd, if_neg h36, hx, show i = l.length by omega, List.take_length]))
end An.S

/- Layer 8: service. -/
namespace An.S
open Go Go.Proofs An
set_option maxHeartbeats 2000000
theorem fi55 : FnI Tryz.prog 55 := ⟨_, Tryz.func55, by kernel_rfl, rfl⟩
theorem fi96 : FnI Tryz.prog 96 := ⟨_, Tryz.func96, by kernel_rfl, rfl⟩
theorem nonneg_of {f : Fr} (hD : f.dig) (hv : f.valid = true) (hn : f.n.neg = false) : 0 ≤ f.rat := by
  obtain ⟨e, _⟩ := Fr.of_valid' hD hv
  rw [e] at hn
  have h1 : ¬ f.rat.num < 0 := of_decide_eq_false hn
  exact Rat.num_nonneg.1 (by omega)
def q4 : Rat := 4 / 1461
theorem fr_q4 : fr q4 = ⟨wh 4, wh 1461⟩ := by
  have h1 : q4.num = 4 := by decide +kernel
  have h2 : q4.den = 1461 := by decide +kernel
  rw [fr, h1, h2]; rfl
theorem len16_small {n : Int} (h1 : -9223372036854775808 ≤ n) (h2 : n ≤ 9223372036854775807) : len16 n ≤ 256 := Nat.le_trans (len16_64 h1 h2) (by decide)
theorem short_q4 : short q4 := by
  have h1 : q4.num = 4 := by decide +kernel
  have h2 : q4.den = 1461 := by decide +kernel
  exact ⟨by rw [h1]; exact len16_small (by decide) (by decide), by rw [h2]; exact len16_small (by decide) (by decide)⟩
theorem c_FMulQ4 (q : Rat) (hq : short q) : Ct Tryz.prog 73 [tFr (fr q), tFr ⟨wh 4, wh 1461⟩] (tT [tFr (resF (q * q4)), tI (resFE (q * q4))]) := by
  have h := c_FMul q q4 hq short_q4
  rw [fr_q4] at h; exact h
theorem c_FMulQ4s {o : Option Rat} {q : Rat} (ho : o = some q) (hq : short q) : Ct Tryz.prog 73 [tFr (sumF o), tFr ⟨wh 4, wh 1461⟩] (tT [tFr (resF (q * q4)), tI (resFE (q * q4))]) := by
  rw [ho]; exact c_FMulQ4 q hq
theorem sum_short : ∀ (l : List Tst) (o : Option Rat), (∀ q, o = some q → short q) → ∀ q, l.foldl sumStep o = some q → short q
  | [], o, ho, q, h => ho q h
  | s :: r, o, ho, q, h => sum_short r (sumStep o s) (fun p hp => by
      cases o with
      | none => cases hp
      | some x =>
        simp only [sumStep] at hp
        split at hp
        · rename_i h2; cases hp; exact h2.2
        · cases hp) q h
theorem sumT_short {l : List Tst} {q : Rat} (h : sumT l = some q) : short q := sum_short l _ (fun p hp => by cases hp; exact short_int (len16_small (by decide) (by decide))) q h
def mulO (q p : Rat) : Option Rat := if short (q * p) then some (q * p) else none
theorem resF_mulO {q p : Rat} : resF (q * p) = sumF (mulO q p) := by rw [resF, mulO]; split <;> rfl
theorem resFE_mulO {q p : Rat} : resFE (q * p) = sumE (mulO q p) := by rw [resFE, mulO]; split <;> rfl
/-- Years of service. -/
def yq (l : List Tst) (a b : Int) : Option Rat := if b ≤ a then some ((0 : Int) : Rat) else (sumT (cutT l a b)).bind fun q => mulO q q4
theorem ask_sum {l : List Tst} {a b : Int} (h : askB l a b = true) (hab : ¬ b ≤ a) : sumC l a b := by
  obtain ⟨h1, h2, h3, h4, h5⟩ := askB_iff.1 h
  simp only [sRight, Bool.and_eq_true, List.all_eq_true] at h1
  refine ⟨⟨h1.1, by simp [Sn.ok]; omega⟩, ?_⟩
  rcases Nat.eq_zero_or_pos l.length with h0 | h0
  · exact .inl h0
  · have := h1.2 _ (xh8 (l := l) h0)
    simp only [sOk, Bool.and_eq_true, decide_eq_true_eq] at this
    exact .inr (.inl this.1.1)
theorem sumF_short {o : Option Rat} (h : ∀ q, o = some q → short q) : sumE o = 0 → ∃ q, o = some q ∧ short q := by
  cases o with
  | none => intro h; cases h
  | some q => intro _; exact ⟨q, rfl, h q rfl⟩
theorem yq_short {l : List Tst} {a b : Int} {q : Rat} (h : yq l a b = some q) : short q := by
  rw [yq] at h
  split at h
  · cases h; exact short_int (len16_small (by decide) (by decide))
  · cases hs : sumT (cutT l a b) with
    | none => rw [hs] at h; cases h
    | some x =>
      rw [hs, Option.bind_some, mulO] at h
      split at h
      · cases h; assumption
      · cases h
theorem c_TSumOk (l : List Tst) (a b : Int) (hl : l.length ≤ 500000) (hD : ∀ s ∈ l, s.v.f.dig) (h : sumC l a b) : Ct Tryz.prog 55 [tL 8 true tTs l, tI a, tI b] (tT [tFr (sumF (sumT (cutT l a b))), tI (sumE (sumT (cutT l a b)))]) := by
  have := c_TSum l a b hl hD
  rw [if_pos h, if_pos h] at this; exact this
theorem c_Years (l : List Tst) (a b : Int) (hl : l.length ≤ 500000) (hD : ∀ s ∈ l, s.v.f.dig) :
  Ct Tryz.prog 43 [tL 8 true tTs l, tI a, tI b] (tT [tFr (if askB l a b = true then sumF (yq l a b) else fr0), tI (if askB l a b = true then sumE (yq l a b) else 2)]) := by
 refine Ct.intro Tryz.func43 rfl Tryz.ntmps43 rfl ?_
 intro w F
 refine x6 ?_
 refine x8 ?_
 refine RE (xb9 (k := 6) (n := 4) (agg := true) zr49.1 zr49.2 rfl) trivial trivial ⟨rfl, trivial⟩ (R1 x5 rfl (x7 (by kernel_rfl) (x3 (x6 ?_))))
 refine x8 ?_
 refine R1 x4 rfl (R1 x4 rfl (R1 x4 rfl (R3 (xa0 (c_asked l a b hD) fi96 rfl) rfl rfl rfl (R1 x4 rfl (R1 (xa5 rfl) rfl (R1 (xa5 rfl) rfl (RE (xb9 (k := 8) (n := 3) (agg := true) zr139.1 zr139.2 rfl) trivial trivial ⟨rfl, trivial⟩ ?_)))))))
 refine RE (xa6 (es := 3) (agg := true) (0) ti139 rfl rfl rfl) ⟨rfl, rfl, trivial⟩ ⟨rfl, trivial⟩ trivial (R1 x5 rfl (x7 (by kernel_rfl) (x3 (x6 (x6 ?_)))))
 refine x8 ?_
 refine R1 x4 rfl (R1 xe5 rfl (x7 (by kernel_rfl) (x3 ?_)))
 refine xf5 rfl (fun h66 => ?_) (fun h66 => ?_)
 ·
  have hk : ¬ askB l a b = true := by simpa using h66
  refine x6 ?_
  refine x8 ?_
  refine R0 (xd1 (r := tS [⟨2, true, (tS [⟨1, false, (tE (.bool false))⟩, ⟨1, false, (tLm [])⟩])⟩, ⟨2, true, (tS [⟨1, false, (tE (.bool false))⟩, ⟨1, false, (tLm [])⟩])⟩]) (ts := []) bu49 zr49.2 ⟨_, rfl⟩ rfl Le.refl)  (RE (xa6 (es := 4) (agg := true) (0) ti49 rfl rfl rfl) ⟨rfl, rfl, trivial⟩ ⟨rfl, trivial⟩ trivial (R1 x5 rfl (x7 (by kernel_rfl) (x3 (xa2 (xa7 ?_))))))
  exact xe8 Plain.mk' (rs := [.cell 6 49, .tmp 7]) rfl rfl ⟨⟨_, _, _, _, _, rfl, rfl, ti49, (Le.of (by rw [if_neg hk]; rfl))⟩, ⟨_, rfl, (Le.int (by rw [if_neg hk]))⟩, trivial⟩
 ·
  have hk : askB l a b = true := by simpa using h66
  refine xa4 (x3 (x6 (x6 ?_)))
  refine x8 ?_
  refine RE (xb2 (0) ti139 rfl rfl) ⟨rfl, trivial⟩ ⟨rfl, trivial⟩ trivial (R1 (xa0 (c_none l a b) fi97 rfl) rfl (x7 (by kernel_rfl) (x3 ?_)))
  refine xb8 rfl (fun h69 => ?_) (fun h69 => ?_)
  ·
   refine x6 ?_
   refine x8 ?_
   refine R1 (xa0 (c_FFromInt 0 (by decide) (by decide)) fi71 rfl) rfl (RE (xa6 (es := 4) (agg := true) (0) ti49 rfl rfl rfl) ⟨rfl, rfl, trivial⟩ ⟨rfl, trivial⟩ trivial (R1 x5 rfl (x7 (by kernel_rfl) (x3 (xa2 (xa7 ?_))))))
   exact xe8 Plain.mk' (rs := [.cell 6 49, .tmp 7]) rfl rfl ⟨⟨_, _, _, _, _, rfl, rfl, ti49, (Le.of (by rw [if_pos hk, yq, if_pos h69]; rfl))⟩, ⟨_, rfl, (Le.int (by rw [if_pos hk, yq, if_pos h69]; rfl))⟩, trivial⟩
  ·
   refine xa4 (x3 (x6 ?_))
   refine x8 ?_
   refine R1 x4 rfl (R1 x4 rfl (R1 x4 rfl (R3 (xa0 (c_TSumOk l a b hl hD (ask_sum hk h69)) fi55 rfl) rfl rfl rfl (R1 x4 rfl (R1 (xa5 rfl) rfl (R1 (xa5 rfl) rfl (RE (xb9 (k := 10) (n := 4) (agg := true) zr49.1 zr49.2 rfl) trivial trivial ⟨rfl, trivial⟩ ?_)))))))
   refine RE (xa6 (es := 4) (agg := true) (0) ti49 rfl rfl rfl) ⟨rfl, rfl, trivial⟩ ⟨rfl, trivial⟩ trivial (R1 x5 rfl (x7 (by kernel_rfl) (x3 (x6 (x6 ?_)))))
   refine x8 ?_
   refine R1 x4 rfl (R2 d_neq rfl rfl (x7 (by kernel_rfl) (x3 ?_)))
   refine xb8 rfl (fun h73 => ?_) (fun h73 => ?_)
   ·
    refine x6 ?_
    refine x8 ?_
    refine R0 (xd1 (r := tS [⟨2, true, (tS [⟨1, false, (tE (.bool false))⟩, ⟨1, false, (tLm [])⟩])⟩, ⟨2, true, (tS [⟨1, false, (tE (.bool false))⟩, ⟨1, false, (tLm [])⟩])⟩]) (ts := []) bu49 zr49.2 ⟨_, rfl⟩ rfl Le.refl)  (R1 x4 rfl (RE (xa6 (es := 4) (agg := true) (0) ti49 rfl rfl rfl) ⟨rfl, rfl, trivial⟩ ⟨rfl, trivial⟩ trivial (R1 x5 rfl (x7 (by kernel_rfl) (x3 (xa2 (xa7 ?_)))))))
    exact xe8 Plain.mk' (rs := [.cell 6 49, .tmp 7]) rfl rfl ⟨⟨_, _, _, _, _, rfl, rfl, ti49, (Le.of (by rw [if_pos hk, yq, if_neg h69]; cases hs : sumT (cutT l a b) with | none => rfl | some q => rw [hs] at h73; exact absurd rfl h73))⟩, ⟨_, rfl, (Le.int (by rw [if_pos hk, yq, if_neg h69]; cases hs : sumT (cutT l a b) with | none => rfl | some q => rw [hs] at h73; exact absurd rfl h73))⟩, trivial⟩
   ·
    obtain ⟨q, hq, hqs⟩ := sumF_short (fun q h => sumT_short h) (Decidable.not_not.1 h73)
    refine xa4 (x3 (x6 ?_))
    refine xd8 mixed ?_
    refine RE (xb2 (0) ti49 rfl rfl) ⟨rfl, trivial⟩ ⟨rfl, trivial⟩ trivial (R1 (xa0 (c_FromInt 4 (by decide) (by decide)) fi91 rfl) rfl (R1 (xa0 (c_FromInt 1461 (by decide) (by decide)) fi91 rfl) rfl (R2 (xd1 (r := tS [⟨2, true, tWh (wh 4)⟩, ⟨2, true, tWh (wh 1461)⟩]) (ts := [(0, tWh (wh 4)), (1, tWh (wh 1461))]) bu49 zr49.2 ⟨_, rfl⟩ rfl ⟨_, _, _, _, rfl, Up.f (fs := [⟨2, true, (tS [⟨1, false, (tE (.bool false))⟩, ⟨1, false, (tLm [])⟩])⟩, ⟨2, true, (tS [⟨1, false, (tE (.bool false))⟩, ⟨1, false, (tLm [])⟩])⟩]) (f := ⟨2, true, (tS [⟨1, false, (tE (.bool false))⟩, ⟨1, false, (tLm [])⟩])⟩) (fs' := [⟨2, true, tWh (wh 4)⟩, ⟨2, true, (tS [⟨1, false, (tE (.bool false))⟩, ⟨1, false, (tLm [])⟩])⟩]) 0 rfl rfl rfl, inferInstance, ⟨_, _, _, _, rfl, Up.f (fs := [⟨2, true, tWh (wh 4)⟩, ⟨2, true, (tS [⟨1, false, (tE (.bool false))⟩, ⟨1, false, (tLm [])⟩])⟩]) (f := ⟨2, true, (tS [⟨1, false, (tE (.bool false))⟩, ⟨1, false, (tLm [])⟩])⟩) (fs' := [⟨2, true, tWh (wh 4)⟩, ⟨2, true, tWh (wh 1461)⟩]) 1 rfl rfl rfl, inferInstance, Le.refl⟩⟩) rfl rfl (R2 (xa0 (c_FMulQ4s hq hqs) fi73 rfl) rfl rfl (R1 (xa5 rfl) rfl (R1 (xa5 rfl) rfl (RE (xa6 (es := 4) (agg := true) (0) ti49 rfl rfl rfl) ⟨rfl, rfl, trivial⟩ ⟨rfl, trivial⟩ trivial ?_)))))))
    refine R1 x5 rfl (xe0 (by kernel_rfl) (x3 (xa2 ?_)))
    exact xe8 Plain.mk' (rs := [.cell 6 49, .tmp 7]) rfl rfl ⟨⟨_, _, _, _, _, rfl, rfl, ti49, (Le.of (by rw [if_pos hk, yq, if_neg h69, hq, resF_mulO]; rfl))⟩, ⟨_, rfl, (Le.int (by rw [if_pos hk, yq, if_neg h69, hq, resFE_mulO]; rfl))⟩, trivial⟩
end An.S

/- Layer 8: service, limits, months, sets. -/
namespace An.S
open Go Go.Proofs An
set_option maxHeartbeats 2000000
theorem fi43 : FnI Tryz.prog 43 := ⟨_, Tryz.func43, by kernel_rfl, rfl⟩
theorem fi89 : FnI Tryz.prog 89 := ⟨_, Tryz.func89, by kernel_rfl, rfl⟩
theorem fi101 : FnI Tryz.prog 101 := ⟨_, Tryz.func101, by kernel_rfl, rfl⟩
theorem fi102 : FnI Tryz.prog 102 := ⟨_, Tryz.func102, by kernel_rfl, rfl⟩
theorem c_FCmpE {x : Fr} {q : Rat} (hx : x = fr q) (hq : short q) (f : Fr) (hf : f = fr f.rat) (hs : short f.rat) : Ct Tryz.prog 79 [tFr x, tFr f] (tI (cmpQ q f.rat)) := by
  have h := c_FCmp q f.rat hq hs
  rw [← hf, ← hx] at h; exact h
theorem c_FAddE (f : Fr) (hf : f = fr f.rat) (hs : short f.rat) : Ct Tryz.prog 98 [tFr f, tFr (fr ((0 : Int) : Rat))] (tT [tFr f, tI 0]) := by
  have h := c_FAdd f.rat ((0 : Int) : Rat) hs (short_int (len16_small (by decide) (by decide)))
  have e : f.rat + ((0 : Int) : Rat) = f.rat := by simp; exact Rat.add_zero _
  rw [e, resF, resFE, if_pos hs, if_pos hs, ← hf] at h; exact h
theorem yr_ok {l : List Tst} {a b : Int} (h : (if askB l a b = true then sumE (yq l a b) else 2) = 0) : askB l a b = true ∧ ∃ q, yq l a b = some q ∧ short q := by
  split at h
  · rename_i hk; exact ⟨hk, sumF_short (fun q h => yq_short h) h⟩
  · cases h
def capO (l : List Tst) (a b : Int) (f : Fr) : Option Rat := (yq l a b).map fun q => if q ≤ f.rat then q else f.rat
def capC (l : List Tst) (a b : Int) (f : Fr) : Prop := (f.valid = true ∧ f.n.neg = false) ∧ askB l a b = true
instance (l : List Tst) (a b : Int) (f : Fr) : Decidable (capC l a b f) := inferInstanceAs (Decidable (_ ∧ _))
theorem cap_bad {l : List Tst} {a b : Int} {f : Fr} (hv2 : f.valid = true ∧ f.n.neg = false) (h : (if askB l a b = true then sumE (yq l a b) else 2) ≠ 0) : (if capC l a b f then sumF (capO l a b f) else fr0) = fr0 ∧ (if askB l a b = true then sumE (yq l a b) else 2) = (if capC l a b f then sumE (capO l a b f) else 2) := by
  by_cases ha : askB l a b = true
  · rw [if_pos ha] at h
    cases hy : yq l a b with
    | none => rw [if_pos ⟨hv2, ha⟩, if_pos ha, if_pos ⟨hv2, ha⟩, capO, hy]; exact ⟨rfl, rfl⟩
    | some q => rw [hy] at h; exact absurd rfl h
  · have hn : ¬ capC l a b f := fun h => ha h.2
    rw [if_neg hn, if_neg hn, if_neg ha]; exact ⟨rfl, rfl⟩
theorem c_Capped (l : List Tst) (a b : Int) (f : Fr) (hl : l.length ≤ 500000) (hD : ∀ s ∈ l, s.v.f.dig) (hF : f.dig) :
  Ct Tryz.prog 44 [tL 8 true tTs l, tI a, tI b, tFr f] (tT [tFr (if capC l a b f then sumF (capO l a b f) else fr0), tI (if capC l a b f then sumE (capO l a b f) else 2)]) := by
 refine Ct.intro Tryz.func44 rfl Tryz.ntmps44 rfl ?_
 intro w F
 refine x6 ?_
 refine x8 ?_
 refine RE (xd2 (k := 7) ti49 rfl) ⟨rfl, trivial⟩ trivial ⟨rfl, trivial⟩ (RE (xb9 (k := 8) (n := 4) (agg := true) zr49.1 zr49.2 rfl) trivial trivial ⟨rfl, trivial⟩ (R1 x5 rfl (x7 (by kernel_rfl) (x3 (x6 (x6 ?_))))))
 refine x8 ?_
 refine RE (xb2 (0) ti49 rfl rfl) ⟨rfl, trivial⟩ ⟨rfl, trivial⟩ trivial (R1 (xa0 (c_FValid f hF.1 hF.2) fi78 rfl) rfl (R1 xe5 rfl (R1 x4 rfl ?_)))
 refine RGcase (t := 15) rfl (fun h81 => ?_) (fun h81 => ?_)
 ·
  have hk : ¬ capC l a b f := fun h => by rw [h.1.1] at h81; cases h81
  refine RGoff h81 rfl rfl (RGoff h81 rfl rfl (RGoff h81 rfl rfl (R2 (xb5 h81) rfl rfl (x7 (by kernel_rfl) (x3 (C_bT rfl rfl (x6 ?_)))))))
  refine x8 ?_
  refine R0 (xd1 (r := tS [⟨2, true, (tS [⟨1, false, (tE (.bool false))⟩, ⟨1, false, (tLm [])⟩])⟩, ⟨2, true, (tS [⟨1, false, (tE (.bool false))⟩, ⟨1, false, (tLm [])⟩])⟩]) (ts := []) bu49 zr49.2 ⟨_, rfl⟩ rfl Le.refl)  (RE (xa6 (es := 4) (agg := true) (0) ti49 rfl rfl rfl) ⟨rfl, rfl, trivial⟩ ⟨rfl, trivial⟩ trivial (R1 x5 rfl (x7 (by kernel_rfl) (x3 (xa2 (xa7 ?_))))))
  exact xe8 Plain.mk' (rs := [.cell 8 49, .tmp 9]) rfl rfl ⟨⟨_, _, _, _, _, rfl, rfl, ti49, (Le.of (by rw [if_neg hk]; rfl))⟩, ⟨_, rfl, (Le.int (by rw [if_neg hk]))⟩, trivial⟩
 ·
  have hv : f.valid = true := by simpa using h81
  refine RGon h81 rfl (x9 fo49_0 rfl) rfl ⟨rfl, trivial⟩ trivial trivial (RGon h81 rfl (x9 fo47_0 rfl) rfl ⟨rfl, trivial⟩ trivial trivial (xb7 h81 rfl rfl (0) ti4 rfl rfl rfl (At.t (At.g 0 rfl rfl) (At.g 0 rfl rfl)) rfl (R2 (xb4 h81) rfl rfl (x7 (by kernel_rfl) (x3 ?_)))))
  refine xf5 rfl (fun h81_2 => ?_) (fun h81_2 => ?_)
  ·
   have hk : ¬ capC l a b f := fun h => by rw [h.1.2] at h81_2; cases h81_2
   refine x6 ?_
   refine x8 ?_
   refine R0 (xd1 (r := tS [⟨2, true, (tS [⟨1, false, (tE (.bool false))⟩, ⟨1, false, (tLm [])⟩])⟩, ⟨2, true, (tS [⟨1, false, (tE (.bool false))⟩, ⟨1, false, (tLm [])⟩])⟩]) (ts := []) bu49 zr49.2 ⟨_, rfl⟩ rfl Le.refl)  (RE (xa6 (es := 4) (agg := true) (0) ti49 rfl rfl rfl) ⟨rfl, rfl, trivial⟩ ⟨rfl, trivial⟩ trivial (R1 x5 rfl (x7 (by kernel_rfl) (x3 (xa2 (xa7 ?_))))))
   exact xe8 Plain.mk' (rs := [.cell 8 49, .tmp 9]) rfl rfl ⟨⟨_, _, _, _, _, rfl, rfl, ti49, (Le.of (by rw [if_neg hk]; rfl))⟩, ⟨_, rfl, (Le.int (by rw [if_neg hk]))⟩, trivial⟩
  ·
   have hv2 : f.valid = true ∧ f.n.neg = false := ⟨hv, h81_2⟩
   have hf := Fr.of_valid' hF hv
   refine xa4 (x3 (x6 ?_))
   refine x8 ?_
   refine R1 x4 rfl (R1 x4 rfl (R1 x4 rfl (R3 (xa0 (c_Years l a b hl hD) fi43 rfl) rfl rfl rfl (R1 x4 rfl (R1 (xa5 rfl) rfl (R1 (xa5 rfl) rfl (RE (xb9 (k := 10) (n := 4) (agg := true) zr49.1 zr49.2 rfl) trivial trivial ⟨rfl, trivial⟩ ?_)))))))
   refine RE (xa6 (es := 4) (agg := true) (0) ti49 rfl rfl rfl) ⟨rfl, rfl, trivial⟩ ⟨rfl, trivial⟩ trivial (R1 x5 rfl (x7 (by kernel_rfl) (x3 (x6 (x6 ?_)))))
   refine x8 ?_
   refine R1 x4 rfl (R2 d_neq rfl rfl (x7 (by kernel_rfl) (x3 ?_)))
   refine xb8 rfl (fun h85 => ?_) (fun h85 => ?_)
   ·
    refine x6 ?_
    refine x8 ?_
    refine R0 (xd1 (r := tS [⟨2, true, (tS [⟨1, false, (tE (.bool false))⟩, ⟨1, false, (tLm [])⟩])⟩, ⟨2, true, (tS [⟨1, false, (tE (.bool false))⟩, ⟨1, false, (tLm [])⟩])⟩]) (ts := []) bu49 zr49.2 ⟨_, rfl⟩ rfl Le.refl)  (R1 x4 rfl (RE (xa6 (es := 4) (agg := true) (0) ti49 rfl rfl rfl) ⟨rfl, rfl, trivial⟩ ⟨rfl, trivial⟩ trivial (R1 x5 rfl (x7 (by kernel_rfl) (x3 (xa2 (xa7 ?_)))))))
    exact xe8 Plain.mk' (rs := [.cell 8 49, .tmp 9]) rfl rfl ⟨⟨_, _, _, _, _, rfl, rfl, ti49, (Le.of (by rw [(cap_bad hv2 h85).1]; rfl))⟩, ⟨_, rfl, (Le.int (cap_bad hv2 h85).2)⟩, trivial⟩
   ·
    obtain ⟨hk, q, hq, hqs⟩ := yr_ok (Decidable.not_not.1 h85)
    have hc : capC l a b f := ⟨hv2, hk⟩
    refine xa4 (x3 (x6 (x6 ?_)))
    refine x8 ?_
    refine RE (xb2 (0) ti49 rfl rfl) ⟨rfl, trivial⟩ ⟨rfl, trivial⟩ trivial (RE (xb2 (0) ti49 rfl rfl) ⟨rfl, trivial⟩ ⟨rfl, trivial⟩ trivial (R2 (xa0 (c_FCmpE (x := if askB l a b = true then sumF (yq l a b) else fr0) (q := q) (by rw [if_pos hk, hq]; rfl) hqs f hf.1 hf.2) fi79 rfl) rfl rfl (R2 xg0 rfl rfl (x7 (by kernel_rfl) (x3 ?_)))))
    refine xb8 rfl (fun h88 => ?_) (fun h88 => ?_)
    ·
     refine x6 ?_
     refine x8 ?_
     refine RE (xb2 (0) ti49 rfl rfl) ⟨rfl, trivial⟩ ⟨rfl, trivial⟩ trivial (RE (xa6 (es := 4) (agg := true) (0) ti49 rfl rfl rfl) ⟨rfl, rfl, trivial⟩ ⟨rfl, trivial⟩ trivial (R1 x5 rfl (x7 (by kernel_rfl) (x3 (xa2 (xa7 ?_))))))
     exact xe8 Plain.mk' (rs := [.cell 8 49, .tmp 9]) rfl rfl ⟨⟨_, _, _, _, _, rfl, rfl, ti49, (Le.of (by rw [if_pos hc, capO, hq, if_pos hk, Option.map_some, if_pos (Decidable.byContradiction fun h => absurd (cmpQ_pos.2 h) (by omega))]))⟩, ⟨_, rfl, (Le.int (by rw [if_pos hc, capO, hq]; rfl))⟩, trivial⟩
    ·
     refine xa4 (x3 (x6 ?_))
     refine xd8 mixed ?_
     refine RE (xb2 (0) ti49 rfl rfl) ⟨rfl, trivial⟩ ⟨rfl, trivial⟩ trivial (R1 (xa0 (c_FFromInt 0 (by decide) (by decide)) fi71 rfl) rfl (R2 (xa0 (c_FAddE f hf.1 hf.2) fi98 rfl) rfl rfl (R1 (xa5 rfl) rfl (R1 (xa5 rfl) rfl (RE (xa6 (es := 4) (agg := true) (0) ti49 rfl rfl rfl) ⟨rfl, rfl, trivial⟩ ⟨rfl, trivial⟩ trivial (R1 x5 rfl (xe0 (by kernel_rfl) ?_)))))))
     refine x3 (xa2 ?_)
     exact xe8 Plain.mk' (rs := [.cell 8 49, .tmp 9]) rfl rfl ⟨⟨_, _, _, _, _, rfl, rfl, ti49, (Le.of (by rw [if_pos hc, capO, hq, Option.map_some, if_neg (cmpQ_pos.1 (by omega)), hf.1, rat_fr]; rfl))⟩, ⟨_, rfl, (Le.int (by rw [if_pos hc, capO, hq]; rfl))⟩, trivial⟩
theorem c_FFloor (q : Rat) (h : short q) :
  Ct Tryz.prog 89 [tFr (fr q)] (tT [tWh (wh q.floor), tI 0]) := by
 obtain ⟨qn, qd⟩ := h
 have h : short q := ⟨qn, qd⟩
 have hdp : (0 : Int) < (q.den : Int) := by have := q.den_pos; omega
 refine Ct.intro Tryz.func89 rfl Tryz.ntmps89 rfl ?_
 intro w F
 refine x6 ?_
 refine x8 ?_
 refine RE (xd2 (k := 1) ti49 rfl) ⟨rfl, trivial⟩ trivial ⟨rfl, trivial⟩ (RE (xb9 (k := 2) (n := 2) (agg := true) zr47.1 zr47.2 rfl) trivial trivial ⟨rfl, trivial⟩ (R1 x5 rfl (x7 (by kernel_rfl) (x3 (x6 (x6 ?_))))))
 refine x8 ?_
 refine RE (xb2 (0) ti49 rfl rfl) ⟨rfl, trivial⟩ ⟨rfl, trivial⟩ trivial (R1 (xa0 (c_FValidQ q h) fi78 rfl) rfl (R1 xe5 rfl (x7 (by kernel_rfl) (x3 (C_bF rfl rfl (xa4 (x3 ?_)))))))
 refine x6 ?_
 refine x8 ?_
 refine R1 (x9 fo49_0 rfl) rfl (xa3 (0) ti47 rfl rfl rfl (At.g 0 rfl rfl) rfl (R1 (x9 fo49_1 rfl) rfl (xa3 (0) ti47 rfl rfl rfl (At.g 1 rfl rfl) rfl (R2 (xa0 (c_fdivide q.num (q.den : Int) (by omega) (by omega) hdp) fi139 rfl) rfl rfl (R1 x4 rfl (R1 (xa5 rfl) rfl (R1 (xa5 rfl) rfl ?_)))))))
 refine RE (xb9 (k := 4) (n := 2) (agg := true) zr47.1 zr47.2 rfl) trivial trivial ⟨rfl, trivial⟩ (RE (xb9 (k := 5) (n := 2) (agg := true) zr47.1 zr47.2 rfl) trivial trivial ⟨rfl, trivial⟩ (RE (xa6 (es := 2) (agg := true) (0) ti47 rfl rfl rfl) ⟨rfl, rfl, trivial⟩ ⟨rfl, trivial⟩ trivial (RE (xa6 (es := 2) (agg := true) (0) ti47 rfl rfl rfl) ⟨rfl, rfl, trivial⟩ ⟨rfl, trivial⟩ trivial (x7 (by kernel_rfl) (x3 (x6 ?_))))))
 refine x8 ?_
 refine RE (xb2 (0) ti47 rfl rfl) ⟨rfl, trivial⟩ ⟨rfl, trivial⟩ trivial (RE (xa6 (es := 2) (agg := true) (0) ti47 rfl rfl rfl) ⟨rfl, rfl, trivial⟩ ⟨rfl, trivial⟩ trivial (R1 x5 rfl (x7 (by kernel_rfl) (x3 (xa2 ?_)))))
 exact xe8 Plain.mk' (rs := [.cell 2 47, .tmp 3]) rfl rfl ⟨⟨_, _, _, _, _, rfl, rfl, ti47, (Le.of (by rw [Rat.floor_def]))⟩, ⟨_, rfl, Le.refl⟩, trivial⟩
theorem c_FFloorR (q : Rat) (h : short q) : Ct Tryz.prog 89 [tFr (resF q)] (tT [tWh (wh q.floor), tI 0]) := by
  rw [show resF q = fr q from if_pos h]; exact c_FFloor q h
def m12 (f : Fr) : Rat := f.rat * ((12 : Int) : Rat)
def moB (f : Fr) : Prop := f.valid = true ∧ f.n.neg = false
def moC (f : Fr) : Prop := moB f ∧ short (m12 f) ∧ (m12 f).floor ≤ 1048576
instance (f : Fr) : Decidable (moB f) := inferInstanceAs (Decidable (_ ∧ _))
instance (f : Fr) : Decidable (moC f) := inferInstanceAs (Decidable (_ ∧ _))
theorem m12_nonneg {f : Fr} (hF : f.dig) (h : moB f) : 0 ≤ (m12 f).floor := by
  have h1 := nonneg_of hF h.1 h.2
  have h2 : (0 : Rat) ≤ m12 f := Rat.mul_nonneg h1 (by decide +kernel)
  exact Rat.le_floor_iff.2 (by simpa using h2)
theorem len_floor {q : Rat} (h : short q) : len16 q.floor ≤ 256 := by rw [Rat.floor_def]; exact len16_div h.1
theorem cmpZ_pos {x y : Int} : 0 < cmpZ x y ↔ y < x := by
  simp only [cmpZ]; split
  · omega
  · split <;> omega
theorem c_Months (f : Fr) (hF : f.dig) :
  Ct Tryz.prog 40 [tFr f] (tT [tI (if moC f then (m12 f).floor else 0), tI (if moB f then (if moC f then 0 else 3) else 2)]) := by
 refine Ct.intro Tryz.func40 rfl Tryz.ntmps40 rfl ?_
 intro w F
 refine x6 ?_
 refine x8 ?_
 refine RE (xd2 (k := 1) ti49 rfl) ⟨rfl, trivial⟩ trivial ⟨rfl, trivial⟩ (R1 x5 rfl (R1 x5 rfl (x7 (by kernel_rfl) (x3 (x6 (x6 ?_))))))
 refine x8 ?_
 refine RE (xb2 (0) ti49 rfl rfl) ⟨rfl, trivial⟩ ⟨rfl, trivial⟩ trivial (R1 (xa0 (c_FValid f hF.1 hF.2) fi78 rfl) rfl (R1 xe5 rfl (R1 x4 rfl ?_)))
 refine RGcase (t := 11) rfl (fun h96 => ?_) (fun h96 => ?_)
 ·
  have hk : ¬ moB f := fun h => by rw [h.1] at h96; cases h96
  refine RGoff h96 rfl rfl (RGoff h96 rfl rfl (RGoff h96 rfl rfl (R2 (xb5 h96) rfl rfl (x7 (by kernel_rfl) (x3 (C_bT rfl rfl (x6 ?_)))))))
  refine x8 ?_
  refine R1 x5 rfl (R1 x5 rfl (x7 (by kernel_rfl) (x3 (xa2 (xa7 ?_)))))
  exact xe7 Plain.mk' rfl rfl rfl (Le.int (by rw [if_neg (fun h => hk h.1)])) (Le.int (by rw [if_neg hk]))
 ·
  have hv : f.valid = true := by simpa using h96
  refine RGon h96 rfl (x9 fo49_0 rfl) rfl ⟨rfl, trivial⟩ trivial trivial (RGon h96 rfl (x9 fo47_0 rfl) rfl ⟨rfl, trivial⟩ trivial trivial (xb7 h96 rfl rfl (0) ti4 rfl rfl rfl (At.t (At.g 0 rfl rfl) (At.g 0 rfl rfl)) rfl (R2 (xb4 h96) rfl rfl (x7 (by kernel_rfl) (x3 ?_)))))
  refine xf5 rfl (fun h96_2 => ?_) (fun h96_2 => ?_)
  ·
   have hk : ¬ moB f := fun h => by rw [h.2] at h96_2; cases h96_2
   refine x6 ?_
   refine x8 ?_
   refine R1 x5 rfl (R1 x5 rfl (x7 (by kernel_rfl) (x3 (xa2 (xa7 ?_)))))
   exact xe7 Plain.mk' rfl rfl rfl (Le.int (by rw [if_neg (fun h => hk h.1)])) (Le.int (by rw [if_neg hk]))
  ·
   have hb : moB f := ⟨hv, h96_2⟩
   have hf := Fr.of_valid' hF hv
   refine xa4 (x3 (x6 ?_))
   refine xd8 mixed ?_
   refine RE (xb2 (0) ti49 rfl rfl) ⟨rfl, trivial⟩ ⟨rfl, trivial⟩ trivial (R1 (xa0 (c_FFromInt 12 (by decide) (by decide)) fi71 rfl) rfl (R2 (xa0 (c_FMulT f 12 hf.1 hf.2 (short_int (len16_small (by decide) (by decide)))) fi73 rfl) rfl rfl (R1 x4 rfl (R1 (xa5 rfl) rfl (R1 (xa5 rfl) rfl (RE (xb9 (k := 4) (n := 4) (agg := true) zr49.1 zr49.2 rfl) trivial trivial ⟨rfl, trivial⟩ (RE (xa6 (es := 4) (agg := true) (0) ti49 rfl rfl rfl) ⟨rfl, rfl, trivial⟩ ⟨rfl, trivial⟩ trivial ?_)))))))
   refine R1 x5 rfl (xe0 (by kernel_rfl) (x3 (x6 (x6 ?_))))
   refine x8 ?_
   refine R1 x4 rfl (R2 d_neq rfl rfl (x7 (by kernel_rfl) (x3 ?_)))
   refine xb8 rfl (fun h100 => ?_) (fun h100 => ?_)
   ·
    refine x6 ?_
    refine x8 ?_
    refine R1 x4 rfl (R1 x5 rfl (R1 x5 rfl (x7 (by kernel_rfl) (x3 (xa2 (xa7 ?_))))))
    exact xe7 Plain.mk' rfl rfl rfl (Le.int (by rw [if_neg (fun h : moC f => xh7 h100 h.2.1)])) (Le.int (by rw [if_pos hb, if_neg (fun h : moC f => xh7 h100 h.2.1), resFE, if_neg (xh7 h100)]))
   ·
    have hs : short (m12 f) := resFE_zero (Decidable.not_not.1 h100)
    have hlen := len_floor hs
    have hl2 := len16_small (n := 1048576) (by decide) (by decide)
    have hn0 := m12_nonneg hF hb
    refine xa4 (x3 (x6 ?_))
    refine x8 ?_
    refine RE (xb2 (0) ti49 rfl rfl) ⟨rfl, trivial⟩ ⟨rfl, trivial⟩ trivial (R1 (xa0 (c_FFloorR (m12 f) hs) fi89 rfl) rfl (R1 x4 rfl (R1 (xa5 rfl) rfl (R1 (xa5 rfl) rfl (RE (xb9 (k := 6) (n := 2) (agg := true) zr47.1 zr47.2 rfl) trivial trivial ⟨rfl, trivial⟩ (RE (xa6 (es := 2) (agg := true) (0) ti47 rfl rfl rfl) ⟨rfl, rfl, trivial⟩ ⟨rfl, trivial⟩ trivial (R1 x5 rfl ?_)))))))
    refine x7 (by kernel_rfl) (x3 (x6 (x6 ?_)))
    refine xd8 mixed ?_
    refine RE (xb2 (0) ti47 rfl rfl) ⟨rfl, trivial⟩ ⟨rfl, trivial⟩ trivial (R1 (xa0 (c_FromInt 1048576 (by decide) (by decide)) fi91 rfl) rfl (R2 (xa0 (c_Cmp (m12 f).floor 1048576 (by omega) (by omega)) fi90 rfl) rfl rfl (R2 xg3 rfl rfl (xe0 (by kernel_rfl) (x3 ?_)))))
    refine xb8 rfl (fun h104 => ?_) (fun h104 => ?_)
    ·
     have hgt := cmpZ_pos.1 h104
     refine x6 ?_
     refine x8 ?_
     refine R1 x5 rfl (R1 x5 rfl (x7 (by kernel_rfl) (x3 (xa2 (xa7 ?_)))))
     exact xe7 Plain.mk' rfl rfl rfl (Le.int (by rw [if_neg (fun h : moC f => absurd h.2.2 (by omega))])) (Le.int (by rw [if_pos hb, if_neg (fun h : moC f => absurd h.2.2 (by omega))]))
    ·
     have hle : (m12 f).floor ≤ 1048576 := Int.not_lt.1 fun h => h104 (cmpZ_pos.2 h)
     have hc : moC f := ⟨hb, hs, hle⟩
     have hfit : fits (m12 f).floor = true := by simp only [fits, Bool.and_eq_true, decide_eq_true_eq]; omega
     refine xa4 (x3 (x6 ?_))
     refine x8 ?_
     refine RE (xb2 (0) ti47 rfl rfl) ⟨rfl, trivial⟩ ⟨rfl, trivial⟩ trivial (R1 (xa0 (c_WInt (m12 f).floor (by omega)) fi92 rfl) rfl (R1 (xa5 rfl) rfl (R1 (xa5 rfl) rfl (R1 x5 rfl (R1 x5 rfl (x7 (by kernel_rfl) (x3 ?_)))))))
     refine xa2 ?_
     exact xe7 Plain.mk' rfl rfl rfl (Le.int (by rw [if_pos hc, hfit]; rfl)) (Le.int (by rw [if_pos hb, if_pos hc, hfit]; rfl))
/-- Between neighbours. -/
def brk (w : List Sn) : List Sn := (List.range (w.length - 1)).map fun i => ⟨(w.getD i sn0).hi, (w.getD (i + 1) sn0).lo⟩
theorem brk_snoc {w : List Sn} {n : Nat} : (List.range (n + 1)).map (fun i => (⟨(w.getD i sn0).hi, (w.getD (i + 1) sn0).lo⟩ : Sn)) = (List.range n).map (fun i => (⟨(w.getD i sn0).hi, (w.getD (i + 1) sn0).lo⟩ : Sn)) ++ [⟨(w.getD n sn0).hi, (w.getD (n + 1) sn0).lo⟩] := by
  rw [List.range_succ, List.map_append]; rfl
theorem wkd_len {l : List Tst} {a b : Int} : (wkd l a b).length ≤ l.length := by
  rw [wkd]; split
  · simp
  · split
    · have h1 := mrg_len (srt cfSn ((wkS l a b).filter pos)) []
      have h2 := srtSn_len (xs := (wkS l a b).filter pos)
      have h3 := List.length_filter_le pos (wkS l a b)
      have h4 := wkS_len (l := l) (a := a) (b := b)
      have h5 : (mkS (wkS l a b)).length ≤ ([] : List Sn).length + (srt cfSn ((wkS l a b).filter pos)).length := h1
      simp at h5; omega
    · simp
theorem c_Worked (l : List Tst) (a b : Int) (hl : l.length ≤ 500000) (hD : ∀ s ∈ l, s.v.f.dig) :
  Ct Tryz.prog 47 [tL 8 true tTs l, tI a, tI b] (tT [tL 2 true tSn (if askB l a b = true then wkd l a b else []), tI (if askB l a b = true then 0 else 2)]) := by
 refine Ct.intro Tryz.func47 rfl Tryz.ntmps47 rfl ?_
 intro w F
 refine x6 ?_
 refine x8 ?_
 refine R1 x5 rfl (R1 x5 rfl (x7 (by kernel_rfl) (x3 (x6 ?_))))
 refine x8 ?_
 refine R1 x4 rfl (R1 x4 rfl (R1 x4 rfl (R3 (xa0 (c_asked l a b hD) fi96 rfl) rfl rfl rfl (R1 x4 rfl (R1 (xa5 rfl) rfl (R1 (xa5 rfl) rfl (RE (xb9 (k := 8) (n := 3) (agg := true) zr139.1 zr139.2 rfl) trivial trivial ⟨rfl, trivial⟩ ?_)))))))
 refine RE (xa6 (es := 3) (agg := true) (0) ti139 rfl rfl rfl) ⟨rfl, rfl, trivial⟩ ⟨rfl, trivial⟩ trivial (R1 x5 rfl (x7 (by kernel_rfl) (x3 (x6 (x6 ?_)))))
 refine x8 ?_
 refine R1 x4 rfl (R1 xe5 rfl (x7 (by kernel_rfl) (x3 ?_)))
 refine xf5 rfl (fun h113 => ?_) (fun h113 => ?_)
 ·
  have hk : ¬ askB l a b = true := by simpa using h113
  refine x6 ?_
  refine x8 ?_
  refine R1 x5 rfl (R1 x5 rfl (x7 (by kernel_rfl) (x3 (xa2 (xa7 ?_)))))
  exact xe7 Plain.mk' rfl rfl rfl (leNil (by rw [if_neg hk])) (Le.int (by rw [if_neg hk]))
 ·
  have hk : askB l a b = true := by simpa using h113
  refine xa4 (x3 (x6 ?_))
  refine x8 ?_
  refine RE (xb2 (0) ti139 rfl rfl) ⟨rfl, trivial⟩ ⟨rfl, trivial⟩ trivial (R1 (xa0 (c_worked l a b (by omega)) fi101 rfl) rfl (R1 x5 rfl (R1 x5 rfl (x7 (by kernel_rfl) (x3 (xa2 ?_))))))
  exact xe7 Plain.mk' rfl rfl rfl (Le.of (by rw [if_pos hk])) (Le.int (by rw [if_pos hk]))
theorem c_Breaks (l : List Tst) (a b : Int) (hl : l.length ≤ 500000) (hD : ∀ s ∈ l, s.v.f.dig) :
  Ct Tryz.prog 48 [tL 8 true tTs l, tI a, tI b] (tT [tL 2 true tSn (if askB l a b = true then brk (wkd l a b) else []), tI (if askB l a b = true then 0 else 2)]) := by
 have hwl := wkd_len (l := l) (a := a) (b := b)
 refine Ct.intro Tryz.func48 rfl Tryz.ntmps48 rfl ?_
 intro w F
 refine x6 ?_
 refine x8 ?_
 refine R1 x5 rfl (R1 x5 rfl (x7 (by kernel_rfl) (x3 (x6 ?_))))
 refine x8 ?_
 refine R1 x4 rfl (R1 x4 rfl (R1 x4 rfl (R3 (xa0 (c_asked l a b hD) fi96 rfl) rfl rfl rfl (R1 x4 rfl (R1 (xa5 rfl) rfl (R1 (xa5 rfl) rfl (RE (xb9 (k := 8) (n := 3) (agg := true) zr139.1 zr139.2 rfl) trivial trivial ⟨rfl, trivial⟩ ?_)))))))
 refine RE (xa6 (es := 3) (agg := true) (0) ti139 rfl rfl rfl) ⟨rfl, rfl, trivial⟩ ⟨rfl, trivial⟩ trivial (R1 x5 rfl (x7 (by kernel_rfl) (x3 (x6 (x6 ?_)))))
 refine x8 ?_
 refine R1 x4 rfl (R1 xe5 rfl (x7 (by kernel_rfl) (x3 ?_)))
 refine xf5 rfl (fun h122 => ?_) (fun h122 => ?_)
 ·
  have hk : ¬ askB l a b = true := by simpa using h122
  refine x6 ?_
  refine x8 ?_
  refine R1 x5 rfl (R1 x5 rfl (x7 (by kernel_rfl) (x3 (xa2 (xa7 ?_)))))
  exact xe7 Plain.mk' rfl rfl rfl (leNil (by rw [if_neg hk])) (Le.int (by rw [if_neg hk]))
 ·
  have hk : askB l a b = true := by simpa using h122
  refine xa4 (x3 (x6 ?_))
  refine x8 ?_
  refine RE (xi1 (k := 10) 99 2 true rfl (fun h => by cases h)) trivial trivial ⟨rfl, trivial⟩ (x7 (by kernel_rfl) (x3 (x6 ?_)))
  refine x8 ?_
  refine RE (xb2 (0) ti139 rfl rfl) ⟨rfl, trivial⟩ ⟨rfl, trivial⟩ trivial (R1 (xa0 (c_worked l a b (by omega)) fi101 rfl) rfl (R1 x5 rfl (x7 (by kernel_rfl) (x3 (x6 (x6 ?_))))))
  refine x8 ?_
  refine R1 x5 rfl (x7 (by kernel_rfl) (x3 (xb3 ?_)))
  refine xd9 (fun (fm : (Nat) × (List Sn)) => (fun (i : Nat) (xs : List Sn) => (i = 0 ∨ i + 1 ≤ (wkd l a b).length) ∧ xs = (List.range i).map (fun i => (⟨((wkd l a b).getD i sn0).hi, ((wkd l a b).getD (i + 1) sn0).lo⟩ : Sn))) fm.1 fm.2) (fun (fm : (Nat) × (List Sn)) => (fun (i : Nat) (xs : List Sn) => upd (upd (upd (fun _ => none) 10 (some (.own (.sl 10 2 0 xs.length)))) 11 (some (.val (tL 2 true tSn (wkd l a b))))) 12 (some (.val (tI ((i : Int) + 1))))) fm.1 fm.2) (fun (fm : (Nat) × (List Sn)) => (fun (i : Nat) (xs : List Sn) => upd (fun _ => none) 10 (some (⟨99, 2, true, rV tSn xs⟩))) fm.1 fm.2) (nm [10]) (fun (fm : (Nat) × (List Sn)) => (fun (i : Nat) (xs : List Sn) => (wkd l a b).length - i) fm.1 fm.2) ((0, [])) (by dsimp only; exact ⟨.inl rfl, rfl⟩) (Sub.int rfl (by first | omega | rfl | (dsimp only; omega)) (Sub.cons rfl (Sub.cons rfl Sub.nil))) ((SubK.consI rfl ImpK.refl) SubK.nil) (SupG.val (SupG.val (SupG.own rfl SupG.nil))) (SupH.cons rfl (supJ xf2) SupH.nil) (lkOk rfl) ?_
  intro fm hI
  obtain ⟨i, xs⟩ := fm
  replace hI : (i = 0 ∨ i + 1 ≤ (wkd l a b).length) ∧ xs = (List.range i).map (fun i => (⟨((wkd l a b).getD i sn0).hi, ((wkd l a b).getD (i + 1) sn0).lo⟩ : Sn)) := hI
  show wc _ _ _ _ (upd (upd (upd (fun _ => none) 10 (some (.own (.sl 10 2 0 xs.length)))) 11 (some (.val (tL 2 true tSn (wkd l a b))))) 12 (some (.val (tI ((i : Int) + 1))))) (upd (fun _ => none) 10 (some (⟨99, 2, true, rV tSn xs⟩))) _
  obtain ⟨hi, hx⟩ := hI
  have hxl : xs.length = i := by rw [hx]; simp
  refine x6 (x6 ?_)
  refine x8 ?_
  refine R1 x4 rfl (R1 x4 rfl (R1 (xc1 Tryz.underlying93) rfl (R2 xd7 rfl rfl (x7 (by kernel_rfl) (x3 ?_)))))
  refine xb8 rfl (fun h127 => ?_) (fun h127 => ?_)
  ·
   refine xa4 (x3 (x6 (xb3 ?_)))
   refine xd8 mixed ?_
   refine R1 x4 rfl (R1 x4 rfl (R1 x4 rfl (R2 (xe1 (wr64 (by omega) (by omega))) rfl rfl (R2 (xc3 sl93 (i) (by omega) (gD (l := wkd l a b) (n := i) (d := sn0) (by omega))) rfl rfl (R1 (d_fieldP fo99_1 (At.f 1 rfl rfl) rfl) rfl (R1 (xc7 ti3) rfl (R1 x4 rfl ?_)))))))
   refine R1 x4 rfl (R2 (xc3 sl93 (i + 1) (by omega) (gD (l := wkd l a b) (n := i + 1) (d := sn0) (by omega))) rfl rfl (R1 (d_fieldP fo99_0 (At.f 0 rfl rfl) rfl) rfl (R1 (xc7 ti3) rfl (R2 (xd1 (r := tS [⟨1, false, tI ((wkd l a b).getD i sn0).hi⟩, ⟨1, false, tI ((wkd l a b).getD (i + 1) sn0).lo⟩]) (ts := [(0, tI ((wkd l a b).getD i sn0).hi), (1, tI ((wkd l a b).getD (i + 1) sn0).lo)]) bu99 zr99.2 ⟨_, rfl⟩ rfl ⟨_, _, _, _, rfl, Up.f (fs := [⟨1, false, (tE (.int .i64 0))⟩, ⟨1, false, (tE (.int .i64 0))⟩]) (f := ⟨1, false, (tE (.int .i64 0))⟩) (fs' := [⟨1, false, tI ((wkd l a b).getD i sn0).hi⟩, ⟨1, false, (tE (.int .i64 0))⟩]) 0 rfl rfl rfl, inferInstance, ⟨_, _, _, _, rfl, Up.f (fs := [⟨1, false, tI ((wkd l a b).getD i sn0).hi⟩, ⟨1, false, (tE (.int .i64 0))⟩]) (f := ⟨1, false, (tE (.int .i64 0))⟩) (fs' := [⟨1, false, tI ((wkd l a b).getD i sn0).hi⟩, ⟨1, false, tI ((wkd l a b).getD (i + 1) sn0).lo⟩]) 1 rfl rfl rfl, inferInstance, Le.refl⟩⟩) rfl rfl (R1 (xg5 (n := 1) (f := tSn) [⟨((wkd l a b).getD i sn0).hi, ((wkd l a b).getD (i + 1) sn0).lo⟩] Tryz.underlying93 el99 zf99 rfl (fun _ => inferInstance) rfl rfl rfl) rfl (RE (xf4 (k := 10) (k' := 44) (f := tSn) (ys := [⟨((wkd l a b).getD i sn0).hi, ((wkd l a b).getD (i + 1) sn0).lo⟩]) (ts' := rV tSn (xs ++ [⟨((wkd l a b).getD i sn0).hi, ((wkd l a b).getD (i + 1) sn0).lo⟩])) Tryz.underlying93 el99 zf99 rfl rfl (fun _ => inferInstance) rV_len (by simp; omega) (by simp; omega) (by simp [rV]) (n' := xs.length + 1) rfl) ⟨rfl, rfl, trivial⟩ ⟨rfl, trivial⟩ ⟨rfl, trivial⟩ (R1 x5 rfl ?_)))))))
   refine xe0 (by kernel_rfl) (xc8 (x3 ?_))
   refine x8 ?_
   refine R1 x4 rfl (R2 (xc2 (wr64 (by omega) (by omega))) rfl rfl (R1 x5 rfl (x7 (by kernel_rfl) ?_)))
   exact K_famR (l := [10]) (fun j => cond (Nat.beq j 10) 44 (j)) ((i + 1, xs ++ [⟨((wkd l a b).getD i sn0).hi, ((wkd l a b).getD (i + 1) sn0).lo⟩])) ⟨(by dsimp only; exact ⟨by omega, by rw [brk_snoc, ← hx]⟩), (by dsimp only; omega)⟩ (SubR.int rfl (by first | omega | rfl | (dsimp only; omega)) (SubR.cons rfl ((SubR.consI rfl (Imp.of (by dsimp only; rw [List.length_append]; rfl))) SubR.nil))) ((SubKR.consI rfl (ImpK.of ren_rV.symm)) SubKR.nil) (SupG.val (SupG.val (SupG.own rfl SupG.nil))) (SupH.cons rfl (supJ xf2) SupH.nil) (lkOk rfl) rfl rfl (fun _ h => by cases h)
  ·
   refine xd4 (xc0 (xc0 (xe2 (x3 (x6 ?_)))))
   refine x8 ?_
   refine R1 x4 rfl (RE (d_assignS (f := tSn) (xs := xs) (fun _ h => h) (rV_all rfl) rfl) ⟨rfl, trivial⟩ ⟨rfl, trivial⟩ trivial (R1 x5 rfl (x7 (by kernel_rfl) (x3 (xa2 ?_)))))
   exact xe7 Plain.mk' rfl rfl rfl (Le.of (by rw [if_pos hk, hx, brk, show i = (wkd l a b).length - 1 by omega])) (Le.int (by rw [if_pos hk]))
theorem c_Periods (l : List Tst) (a b : Int) (d : Int) (hl : l.length ≤ 500000) (hD : ∀ s ∈ l, s.v.f.dig) :
  Ct Tryz.prog 49 [tL 8 true tTs l, tI a, tI b, tI d] (tT [tL 2 true tSn (if askB l a b = true ∧ sVal (wkd l a b) = true ∧ 0 ≤ d then brg d (wkd l a b) else []), tI (if askB l a b = true ∧ sVal (wkd l a b) = true ∧ 0 ≤ d then 0 else 2)]) := by
 have hwl := wkd_len (l := l) (a := a) (b := b)
 refine Ct.intro Tryz.func49 rfl Tryz.ntmps49 rfl ?_
 intro w F
 refine x6 ?_
 refine x8 ?_
 refine R1 x5 rfl (R1 x5 rfl (x7 (by kernel_rfl) (x3 (x6 ?_))))
 refine x8 ?_
 refine R1 x4 rfl (R1 x4 rfl (R1 x4 rfl (R3 (xa0 (c_asked l a b hD) fi96 rfl) rfl rfl rfl (R1 x4 rfl (R1 (xa5 rfl) rfl (R1 (xa5 rfl) rfl (RE (xb9 (k := 10) (n := 3) (agg := true) zr139.1 zr139.2 rfl) trivial trivial ⟨rfl, trivial⟩ ?_)))))))
 refine RE (xa6 (es := 3) (agg := true) (0) ti139 rfl rfl rfl) ⟨rfl, rfl, trivial⟩ ⟨rfl, trivial⟩ trivial (R1 x5 rfl (x7 (by kernel_rfl) (x3 (x6 (x6 ?_)))))
 refine x8 ?_
 refine R1 x4 rfl (R1 xe5 rfl (R1 x4 rfl ?_))
 refine RGcase (t := 21) rfl (fun h136 => ?_) (fun h136 => ?_)
 ·
  have hk : ¬ (askB l a b = true ∧ sVal (wkd l a b) = true ∧ 0 ≤ d) := fun h => by rw [h.1] at h136; cases h136
  refine RGoff h136 rfl rfl (RGoff h136 rfl rfl (R2 (xb5 h136) rfl rfl (x7 (by kernel_rfl) (x3 (C_bT rfl rfl (x6 ?_))))))
  refine x8 ?_
  refine R1 x5 rfl (R1 x5 rfl (x7 (by kernel_rfl) (x3 (xa2 (xa7 ?_)))))
  exact xe7 Plain.mk' rfl rfl rfl (leNil (by rw [if_neg hk])) (Le.int (by rw [if_neg hk]))
 ·
  have hk0 : askB l a b = true := by simpa using h136
  refine RGon h136 rfl x4 rfl ⟨rfl, trivial⟩ trivial trivial (RGon h136 rfl xd7 rfl ⟨rfl, rfl, trivial⟩ trivial trivial (R2 (xb4 h136) rfl rfl (x7 (by kernel_rfl) (x3 ?_))))
  refine xb8 rfl (fun h136_2 => ?_) (fun h136_2 => ?_)
  ·
   have hk : ¬ (askB l a b = true ∧ sVal (wkd l a b) = true ∧ 0 ≤ d) := by omega
   refine x6 ?_
   refine x8 ?_
   refine R1 x5 rfl (R1 x5 rfl (x7 (by kernel_rfl) (x3 (xa2 (xa7 ?_)))))
   exact xe7 Plain.mk' rfl rfl rfl (leNil (by rw [if_neg hk])) (Le.int (by rw [if_neg hk]))
  ·
   refine xa4 (x3 (x6 ?_))
   refine x8 ?_
   refine RE (xb2 (0) ti139 rfl rfl) ⟨rfl, trivial⟩ ⟨rfl, trivial⟩ trivial (R1 (xa0 (c_worked l a b (by omega)) fi101 rfl) rfl (R1 x4 rfl (R2 (xa0 (c_SBridge (wkd l a b) d (by omega)) fi102 rfl) rfl rfl (R1 (xa5 rfl) rfl (R1 (xa5 rfl) rfl (R1 x5 rfl (R1 x5 rfl ?_)))))))
   refine x7 (by kernel_rfl) (x3 (xa2 ?_))
   exact xe7 Plain.mk' rfl rfl rfl (Le.of (by by_cases hs : sVal (wkd l a b) = true ∧ 0 ≤ d <;> simp [hk0, hs])) (Le.int (by by_cases hs : sVal (wkd l a b) = true ∧ 0 ≤ d <;> simp [hk0, hs]))
end An.S

/- Layers 4 and 5: steps in order, sets of days. Plain data, but for what the walks define. -/
namespace An.S
open Go
theorem tRight_lt {l : List Tst} (h : tRight l = true) : ∀ {j i : Nat}, i < j → j < l.length → (l.getD i tst0).hi ≤ (l.getD j tst0).lo
  | j + 1, i, hij, hj => by
    have h1 := (tRight_at h hj).2.2.2.resolve_left (by omega)
    have h1 : (l.getD j tst0).hi ≤ (l.getD (j + 1) tst0).lo := h1.1
    rcases Nat.lt_or_ge i j with h2 | h2
    · have h3 := tRight_lt h h2 (by omega)
      have h4 := (tRight_at h (i := j) (by omega)).2.1
      omega
    · have : i = j := by omega
      subst this; exact h1
theorem tRight_pair {l : List Tst} (h : tRight l = true) : l.Pairwise fun s t => s.hi ≤ t.lo := by
  refine List.pairwise_iff_getElem.2 fun i j hi hj hij => ?_
  have := tRight_lt h hij hj
  rwa [List.getD_eq_getElem?_getD, List.getD_eq_getElem?_getD, List.getElem?_eq_getElem hi, List.getElem?_eq_getElem hj] at this
/-! Worked days. -/
def okS (s : Sn) : Prop := 0 ≤ s.lo ∧ s.lo < s.hi ∧ s.hi ≤ 65536
def ascS (l : List Sn) : Prop := (∀ s ∈ l, okS s) ∧ l.Pairwise fun s t => s.hi ≤ t.lo
theorem ascS_pos {l : List Sn} (h : ascS l) : l.filter pos = l := List.filter_eq_self.2 fun s hs => by
  have := h.1 s hs
  simp only [pos, decide_eq_true_eq]; exact this.2.1
theorem ascS_srt {l : List Sn} (h : ascS l) : srt cfSn l = l := by
  refine srt_asc swoSn ?_
  refine List.pairwise_iff_forall_sublist.2 fun {s t} hst => ?_
  have h1 := List.pairwise_iff_forall_sublist.1 h.2 hst
  have h2 := (h.1 s (hst.subset (List.mem_cons_self ..))).2.1
  rw [ltSn]; simp; omega
theorem ascS_ok {l : List Sn} (h : ascS l) : l.all Sn.ok = true := List.all_eq_true.2 fun s hs => by
  have := h.1 s hs
  simp only [Sn.ok, Bool.and_eq_true, decide_eq_true_eq]; simp only [okS] at this; omega
/-! Sets. -/
def lastS (l : List Sn) : Sn := l.getD (l.length - 1) sn0
def dayS (l : List Sn) : Int := (l.map fun s => s.hi - s.lo).sum
end An.S

/- Layer 8: service records in order; sums of days. Plain data, but for what the walks define. -/
namespace An.S
open Go
theorem wkS_asc {l : List Tst} {a b : Int} (h : tRight l = true) (h0 : 0 ≤ a) (h1 : b ≤ 65536) (hab : a < b) : ascS (wkS l a b) := by
  refine ⟨fun s hs => ?_, ?_⟩
  · obtain ⟨x, hx, rfl⟩ := List.mem_map.1 hs
    obtain ⟨hm, hi⟩ := List.mem_filter.1 hx
    obtain ⟨i, hi2, rfl⟩ := exists_getD hm
    have h3 := tRight_at h hi2
    have h4 : ¬ _ := fun h' => by rw [idle_iff.2 h'] at hi; cases hi
    simp only [okS, clipS]
    omega
  · refine (((tRight_pair h).filter _).map (S := fun s t => s.hi ≤ t.lo) (clipS a b) fun s t hst => ?_)
    simp only [clipS]; omega
theorem wkd_eq {l : List Tst} {a b : Int} (h : tRight l = true) (h0 : 0 ≤ a) (h1 : b ≤ 65536) : wkd l a b = if b ≤ a then [] else mrg (wkS l a b) := by
  rw [wkd]; split
  · rfl
  · rename_i hab
    have ha := wkS_asc h h0 h1 (by omega)
    rw [if_pos (ascS_ok ha), mkS, ascS_pos ha, ascS_srt ha]
end An.S

/- Law 8: records are built, days are counted. -/
namespace An.S
open Go Go.Proofs An
set_option maxHeartbeats 2000000
def befS (day : Int) (s : Sn) : Int := if s.lo < day then min s.hi day - s.lo else 0
def bef (l : List Sn) (day : Int) : Int := (l.map (befS day)).sum
def bFrom (m : List Nat) (k : Nat) (t : Int) : Int := t + ((m.getD (3 * k) 0 : Nat) : Int) % 2000
def bEnd (m : List Nat) (k : Nat) (t : Int) : Int := bFrom m k t + 1 + ((m.getD (3 * k + 1) 0 : Nat) : Int) % 2000
def bQ (m : List Nat) (k : Nat) : Int := ((m.getD (3 * k + 2) 0 : Nat) : Int) % 5
def qv (q : Int) : Va := ⟨2, fr (kfr q 4), 0⟩
def bSt (m : List Nat) (k : Nat) (t : Int) : Tst := ⟨bFrom m k t, bEnd m k t, qv (bQ m k)⟩
def bRun (m : List Nat) : Nat → Nat → List Tst → Int → List Tst
  | 0, _, out, _ => out
  | f + 1, k, out, t => if 3 * k + 2 < m.length ∧ k < 40 then (if 65536 < bEnd m k t then out else bRun m f (k + 1) (pst1 out (bSt m k t)) (bEnd m k t)) else out
def builtT (m : List Nat) : List Tst := bRun m 41 0 [] 0
end An.S

/- Law 8: quarters, the examples of the chapter. -/
namespace An.S
open Go Go.Proofs An
set_option maxHeartbeats 2000000
set_option maxRecDepth 100000
theorem fi40 : FnI Tryz.prog 40 := ⟨_, Tryz.func40, by kernel_rfl, rfl⟩
theorem fi42 : FnI Tryz.prog 42 := ⟨_, Tryz.func42, by kernel_rfl, rfl⟩
theorem fi44 : FnI Tryz.prog 44 := ⟨_, Tryz.func44, by kernel_rfl, rfl⟩
theorem fi47 : FnI Tryz.prog 47 := ⟨_, Tryz.func47, by kernel_rfl, rfl⟩
theorem fi48 : FnI Tryz.prog 48 := ⟨_, Tryz.func48, by kernel_rfl, rfl⟩
theorem fi49 : FnI Tryz.prog 49 := ⟨_, Tryz.func49, by kernel_rfl, rfl⟩
theorem fi50 : FnI Tryz.prog 50 := ⟨_, Tryz.func50, by kernel_rfl, rfl⟩
theorem fi51 : FnI Tryz.prog 51 := ⟨_, Tryz.func51, by kernel_rfl, rfl⟩
theorem fi95 : FnI Tryz.prog 95 := ⟨_, Tryz.func95, by kernel_rfl, rfl⟩
/-- The sum, and the number, of the quarters up to n that a value is. -/
def qsum (v : Va) : Nat → Int
  | 0 => 0
  | n + 1 => qsum v n + if v = qv ((n : Int) + 1) then (n : Int) + 1 else 0
def qcnt (v : Va) : Nat → Int
  | 0 => 0
  | n + 1 => qcnt v n + if v = qv ((n : Int) + 1) then 1 else 0
def dys (a b : Int) (s : Tst) : Int := min s.hi b - max s.lo a
def quS1 (a b : Int) (s : Tst) : Int := if dys a b s ≤ 0 then 0 else qsum s.v 4 * dys a b s
def quW1 (a b : Int) (s : Tst) : Int := if dys a b s ≤ 0 then 0 else qcnt s.v 4 * dys a b s
def quS (l : List Tst) (a b : Int) : Int := (l.map (quS1 a b)).sum
def quW (l : List Tst) (a b : Int) : Int := (l.map (quW1 a b)).sum
theorem dig_fr (q : Rat) : (fr q).dig := ⟨xe4 xa9 _, xe4 xa9 _⟩
def exL : List Tst := [(⟨0, 100, ⟨2, fr (kfr 1 1), 0⟩⟩ : Tst), (⟨100, 150, ⟨2, fr (kfr 1 2), 0⟩⟩ : Tst), (⟨160, 200, ⟨2, fr (kfr 0 1), 0⟩⟩ : Tst), (⟨200, 300, ⟨2, fr (kfr 1 4), 0⟩⟩ : Tst)]
theorem exD : ∀ s ∈ exL, s.v.f.dig := fun s hs => by
  simp only [exL, List.mem_cons, List.not_mem_nil, or_false] at hs
  rcases hs with rfl | rfl | rfl | rfl <;> exact dig_fr _
theorem c_example  :
  Ct Tryz.prog 42 [] (tL 8 true tTs exL) := by
 refine Ct.intro Tryz.func42 rfl Tryz.ntmps42 rfl ?_
 intro w F
 refine x6 ?_
 refine x8 ?_
 refine R1 x5 rfl (x7 (by kernel_rfl) (x3 (x6 ?_)))
 refine x8 ?_
 refine RE (xa0 (c_step08 0 100 1 1 (by decide) (by decide) (by decide) (by decide)) fi95 rfl) ⟨rfl, rfl, rfl, rfl, trivial⟩ trivial trivial (RE (xa0 (c_step08 100 150 1 2 (by decide) (by decide) (by decide) (by decide)) fi95 rfl) ⟨rfl, rfl, rfl, rfl, trivial⟩ trivial trivial (RE (xa0 (c_step08 160 200 0 1 (by decide) (by decide) (by decide) (by decide)) fi95 rfl) ⟨rfl, rfl, rfl, rfl, trivial⟩ trivial trivial (RE (xa0 (c_step08 200 300 1 4 (by decide) (by decide) (by decide) (by decide)) fi95 rfl) ⟨rfl, rfl, rfl, rfl, trivial⟩ trivial trivial (RE (xg5 (n := 4) (f := tTs) [(⟨0, 100, ⟨2, fr (kfr 1 1), 0⟩⟩ : Tst), (⟨100, 150, ⟨2, fr (kfr 1 2), 0⟩⟩ : Tst), (⟨160, 200, ⟨2, fr (kfr 0 1), 0⟩⟩ : Tst), (⟨200, 300, ⟨2, fr (kfr 1 4), 0⟩⟩ : Tst)] Tryz.underlying88 el103 zf103 rfl (fun _ => inferInstance) rfl rfl rfl) ⟨rfl, rfl, rfl, rfl, trivial⟩ trivial trivial (R1 x5 rfl (x7 (by kernel_rfl) (x3 ?_)))))))
 refine xa2 ?_
 exact xa8 Plain.mk' rfl rfl Le.refl
theorem c_YearsV (l : List Tst) (a b : Int) (q : Rat) (hl : l.length ≤ 500000) (hD : ∀ s ∈ l, s.v.f.dig) (hk : askB l a b = true) (hy : yq l a b = some q) : Ct Tryz.prog 43 [tL 8 true tTs l, tI a, tI b] (tT [tFr (fr q), tI 0]) := by
  have h := c_Years l a b hl hD
  rw [if_pos hk, if_pos hk, hy] at h; exact h
theorem c_CappedV (l : List Tst) (a b : Int) (f : Fr) (q : Rat) (hl : l.length ≤ 500000) (hD : ∀ s ∈ l, s.v.f.dig) (hF : f.dig) (hk : capC l a b f) (hy : capO l a b f = some q) : Ct Tryz.prog 44 [tL 8 true tTs l, tI a, tI b, tFr f] (tT [tFr (fr q), tI 0]) := by
  have h := c_Capped l a b f hl hD hF
  rw [if_pos hk, if_pos hk, hy] at h; exact h
theorem c_MonthsV (f : Fr) (n : Int) (hF : f.dig) (hc : moC f) (hn : (m12 f).floor = n) : Ct Tryz.prog 40 [tFr f] (tT [tI n, tI 0]) := by
  have h := c_Months f hF
  rw [if_pos hc, if_pos hc.1, if_pos hc, hn] at h; exact h
theorem c_WorkedV (l : List Tst) (a b : Int) (w : List Sn) (hl : l.length ≤ 500000) (hD : ∀ s ∈ l, s.v.f.dig) (hk : askB l a b = true) (hw : wkd l a b = w) : Ct Tryz.prog 47 [tL 8 true tTs l, tI a, tI b] (tT [tL 2 true tSn w, tI 0]) := by
  have h := c_Worked l a b hl hD
  rw [if_pos hk, if_pos hk, hw] at h; exact h
theorem c_BreaksV (l : List Tst) (a b : Int) (w : List Sn) (hl : l.length ≤ 500000) (hD : ∀ s ∈ l, s.v.f.dig) (hk : askB l a b = true) (hw : brk (wkd l a b) = w) : Ct Tryz.prog 48 [tL 8 true tTs l, tI a, tI b] (tT [tL 2 true tSn w, tI 0]) := by
  have h := c_Breaks l a b hl hD
  rw [if_pos hk, if_pos hk, hw] at h; exact h
theorem c_PeriodsV (l : List Tst) (a b d : Int) (w : List Sn) (hl : l.length ≤ 500000) (hD : ∀ s ∈ l, s.v.f.dig) (hk : askB l a b = true ∧ sVal (wkd l a b) = true ∧ 0 ≤ d) (hw : brg d (wkd l a b) = w) : Ct Tryz.prog 49 [tL 8 true tTs l, tI a, tI b, tI d] (tT [tL 2 true tSn w, tI 0]) := by
  have h := c_Periods l a b d hl hD
  rw [if_pos hk, if_pos hk, hw] at h; exact h
theorem c_sameF (f : Fr) : Ct Tryz.prog 46 [tFr f, tFr f] (tB true) := by
  have h := c_SameFrac f f
  rw [decide_eq_true rfl] at h; exact h
theorem c_sameS (w : List Sn) : Ct Tryz.prog 50 [tL 2 true tSn w, tL 2 true tSn w] (tB true) := by
  have h := c_SameSpans w w
  rw [decide_eq_true rfl] at h; exact h
theorem exW : wkd exL 0 300 = [⟨0, 150⟩, ⟨200, 300⟩] := (wkd_eq (by decide +kernel) (by decide) (by decide)).trans (by decide +kernel)
theorem exV : wkd exL 150 220 = [⟨200, 220⟩] := (wkd_eq (by decide +kernel) (by decide) (by decide)).trans (by decide +kernel)
theorem c_awake  :
  Ct Tryz.prog 19 [] (tB true) := by
 refine Ct.intro Tryz.func19 rfl Tryz.ntmps19 rfl ?_
 intro w F
 refine x6 ?_
 refine x8 ?_
 refine R1 x5 rfl (x7 (by kernel_rfl) (x3 (x6 ?_)))
 refine x8 ?_
 refine R0 (xa0 c_example fi42 rfl)  (R1 x5 rfl (x7 (by kernel_rfl) (x3 (x6 ?_))))
 refine x8 ?_
 refine R1 x4 rfl (R3 (xa0 (c_YearsV exL 0 300 (kfr 200 487) (by decide) exD (by decide +kernel) (by decide +kernel)) fi43 rfl) rfl rfl rfl (R1 x4 rfl (R1 (xa5 rfl) rfl (R1 (xa5 rfl) rfl (RE (xb9 (k := 2) (n := 4) (agg := true) zr49.1 zr49.2 rfl) trivial trivial ⟨rfl, trivial⟩ (RE (xa6 (es := 4) (agg := true) (0) ti49 rfl rfl rfl) ⟨rfl, rfl, trivial⟩ ⟨rfl, trivial⟩ trivial (R1 x5 rfl ?_)))))))
 refine x7 (by kernel_rfl) (x3 (x6 ?_))
 refine x8 ?_
 refine R1 x4 rfl (R3 (xa0 (c_YearsV exL 50 50 (kfr 0 1) (by decide) exD (by decide +kernel) (by decide +kernel)) fi43 rfl) rfl rfl rfl (R1 x4 rfl (R1 (xa5 rfl) rfl (R1 (xa5 rfl) rfl (RE (xb9 (k := 4) (n := 4) (agg := true) zr49.1 zr49.2 rfl) trivial trivial ⟨rfl, trivial⟩ (RE (xa6 (es := 4) (agg := true) (0) ti49 rfl rfl rfl) ⟨rfl, rfl, trivial⟩ ⟨rfl, trivial⟩ trivial (R1 x5 rfl ?_)))))))
 refine x7 (by kernel_rfl) (x3 (x6 ?_))
 refine x8 ?_
 refine R1 x4 rfl (R3 (xa0 (c_YearsV exL 120 110 (kfr 0 1) (by decide) exD (by decide +kernel) (by decide +kernel)) fi43 rfl) rfl rfl rfl (R1 x4 rfl (R1 (xa5 rfl) rfl (R1 (xa5 rfl) rfl (RE (xb9 (k := 6) (n := 4) (agg := true) zr49.1 zr49.2 rfl) trivial trivial ⟨rfl, trivial⟩ (RE (xa6 (es := 4) (agg := true) (0) ti49 rfl rfl rfl) ⟨rfl, rfl, trivial⟩ ⟨rfl, trivial⟩ trivial (R1 x5 rfl ?_)))))))
 refine x7 (by kernel_rfl) (x3 (x6 ?_))
 refine x8 ?_
 refine R1 x4 rfl (R2 (xa0 (c_KFrac 1 3 (by decide) (by decide) (by decide) (by decide)) fi45 rfl) rfl rfl (RE (xa0 (c_CappedV exL 0 300 (fr (kfr 1 3)) (kfr 1 3) (by decide) exD (dig_fr _) (by decide +kernel) (by decide +kernel)) fi44 rfl) ⟨rfl, rfl, rfl, rfl, trivial⟩ trivial trivial (R1 x4 rfl (R1 (xa5 rfl) rfl (R1 (xa5 rfl) rfl (RE (xb9 (k := 8) (n := 4) (agg := true) zr49.1 zr49.2 rfl) trivial trivial ⟨rfl, trivial⟩ (RE (xa6 (es := 4) (agg := true) (0) ti49 rfl rfl rfl) ⟨rfl, rfl, trivial⟩ ⟨rfl, trivial⟩ trivial ?_)))))))
 refine R1 x5 rfl (x7 (by kernel_rfl) (x3 (x6 ?_)))
 refine x8 ?_
 refine R2 (xa0 (c_KFrac 5 4 (by decide) (by decide) (by decide) (by decide)) fi45 rfl) rfl rfl (R1 (xa0 (c_MonthsV (fr (kfr 5 4)) 15 (dig_fr _) (by decide +kernel) (by decide +kernel)) fi40 rfl) rfl (R1 x4 rfl (R1 (xa5 rfl) rfl (R1 (xa5 rfl) rfl (R1 x5 rfl (R1 x5 rfl (x7 (by kernel_rfl) ?_)))))))
 refine x3 (x6 ?_)
 refine x8 ?_
 refine R2 (xa0 (c_KFrac 1 13 (by decide) (by decide) (by decide) (by decide)) fi45 rfl) rfl rfl (R1 (xa0 (c_MonthsV (fr (kfr 1 13)) 0 (dig_fr _) (by decide +kernel) (by decide +kernel)) fi40 rfl) rfl (R1 x4 rfl (R1 (xa5 rfl) rfl (R1 (xa5 rfl) rfl (R1 x5 rfl (R1 x5 rfl (x7 (by kernel_rfl) ?_)))))))
 refine x3 (x6 (x6 ?_))
 refine xd8 mixed ?_
 refine R1 x4 rfl (R1 x4 rfl (R2 (xc2 (wr64 (by omega) (by omega))) rfl rfl (R1 x4 rfl (R2 (xc2 (wr64 (by omega) (by omega))) rfl rfl (R1 x4 rfl (R2 (xc2 (wr64 (by omega) (by omega))) rfl rfl (R1 x4 rfl ?_)))))))
 refine R2 (xc2 (wr64 (by omega) (by omega))) rfl rfl (R1 x4 rfl (R2 (xc2 (wr64 (by omega) (by omega))) rfl rfl (R2 d_neq rfl rfl (R1 x4 rfl (RGon (decide_eq_false (by omega)) rfl (xb2 (0) ti49 rfl rfl) rfl ⟨rfl, trivial⟩ ⟨rfl, trivial⟩ trivial (RGon (decide_eq_false (by omega)) rfl (xa0 (c_KFrac 200 487 (by decide) (by decide) (by decide) (by decide)) fi45 rfl) rfl ⟨rfl, rfl, trivial⟩ trivial trivial (RGon (decide_eq_false (by omega)) rfl (xa0 (c_sameF _) fi46 rfl) rfl ⟨rfl, rfl, trivial⟩ trivial trivial ?_)))))))
 refine RGon (decide_eq_false (by omega)) rfl xe5 rfl ⟨rfl, trivial⟩ trivial trivial (R2 (xb4 (decide_eq_false (by omega))) rfl rfl (R1 x4 rfl (RGon rfl rfl (xb2 (0) ti49 rfl rfl) rfl ⟨rfl, trivial⟩ ⟨rfl, trivial⟩ trivial (RGon rfl rfl (xa0 (c_KFrac 0 1 (by decide) (by decide) (by decide) (by decide)) fi45 rfl) rfl ⟨rfl, rfl, trivial⟩ trivial trivial (RGon rfl rfl (xa0 (c_sameF _) fi46 rfl) rfl ⟨rfl, rfl, trivial⟩ trivial trivial (RGon rfl rfl xe5 rfl ⟨rfl, trivial⟩ trivial trivial (R2 (xb4 rfl) rfl rfl ?_)))))))
 refine R1 x4 rfl (RGon rfl rfl (xb2 (0) ti49 rfl rfl) rfl ⟨rfl, trivial⟩ ⟨rfl, trivial⟩ trivial (RGon rfl rfl (xb2 (0) ti49 rfl rfl) rfl ⟨rfl, trivial⟩ ⟨rfl, trivial⟩ trivial (RGon rfl rfl (xa0 (c_sameF _) fi46 rfl) rfl ⟨rfl, rfl, trivial⟩ trivial trivial (RGon rfl rfl xe5 rfl ⟨rfl, trivial⟩ trivial trivial (R2 (xb4 rfl) rfl rfl (R1 x4 rfl (RGon rfl rfl (xb2 (0) ti49 rfl rfl) rfl ⟨rfl, trivial⟩ ⟨rfl, trivial⟩ trivial ?_)))))))
 refine RGon rfl rfl (xa0 (c_KFrac 1 3 (by decide) (by decide) (by decide) (by decide)) fi45 rfl) rfl ⟨rfl, rfl, trivial⟩ trivial trivial (RGon rfl rfl (xa0 (c_sameF _) fi46 rfl) rfl ⟨rfl, rfl, trivial⟩ trivial trivial (RGon rfl rfl xe5 rfl ⟨rfl, trivial⟩ trivial trivial (R2 (xb4 rfl) rfl rfl (R1 x4 rfl (RGon rfl rfl x4 rfl ⟨rfl, trivial⟩ trivial trivial (RGon rfl rfl d_neq rfl ⟨rfl, rfl, trivial⟩ trivial trivial (R2 (xb4 rfl) rfl rfl ?_)))))))
 refine R1 x4 rfl (RGon (decide_eq_false (by omega)) rfl x4 rfl ⟨rfl, trivial⟩ trivial trivial (RGon (decide_eq_false (by omega)) rfl d_neq rfl ⟨rfl, rfl, trivial⟩ trivial trivial (R2 (xb4 (decide_eq_false (by omega))) rfl rfl (xe0 (by kernel_rfl) (x3 (C_bF rfl (decide_eq_false (by omega)) (xa4 ?_)))))))
 refine x3 (x6 ?_)
 refine x8 ?_
 refine R1 x4 rfl (R3 (xa0 (c_WorkedV exL 0 300 [(⟨0, 150⟩ : Sn), (⟨200, 300⟩ : Sn)] (by decide) exD (by decide +kernel) exW) fi47 rfl) rfl rfl rfl (R1 x4 rfl (R1 (xa5 rfl) rfl (R1 (xa5 rfl) rfl (R1 x5 rfl (R1 x5 rfl (x7 (by kernel_rfl) ?_)))))))
 refine x3 (x6 ?_)
 refine x8 ?_
 refine R1 x4 rfl (R3 (xa0 (c_BreaksV exL 0 300 [(⟨150, 200⟩ : Sn)] (by decide) exD (by decide +kernel) (by rw [exW]; decide +kernel)) fi48 rfl) rfl rfl rfl (R1 x4 rfl (R1 (xa5 rfl) rfl (R1 (xa5 rfl) rfl (R1 x5 rfl (R1 x5 rfl (x7 (by kernel_rfl) ?_)))))))
 refine x3 (x6 ?_)
 refine x8 ?_
 refine R1 x4 rfl (RE (xa0 (c_PeriodsV exL 0 300 50 [(⟨0, 300⟩ : Sn)] (by decide) exD ⟨by decide +kernel, by rw [exW]; decide +kernel, by decide⟩ (by rw [exW]; decide +kernel)) fi49 rfl) ⟨rfl, rfl, rfl, rfl, trivial⟩ trivial trivial (R1 x4 rfl (R1 (xa5 rfl) rfl (R1 (xa5 rfl) rfl (R1 x5 rfl (R1 x5 rfl (x7 (by kernel_rfl) ?_)))))))
 refine x3 (x6 ?_)
 refine x8 ?_
 refine R1 x4 rfl (RE (xa0 (c_PeriodsV exL 0 300 49 [(⟨0, 150⟩ : Sn), (⟨200, 300⟩ : Sn)] (by decide) exD ⟨by decide +kernel, by rw [exW]; decide +kernel, by decide⟩ (by rw [exW]; decide +kernel)) fi49 rfl) ⟨rfl, rfl, rfl, rfl, trivial⟩ trivial trivial (R1 x4 rfl (R1 (xa5 rfl) rfl (R1 (xa5 rfl) rfl (R1 x5 rfl (R1 x5 rfl (x7 (by kernel_rfl) ?_)))))))
 refine x3 (x6 ?_)
 refine x8 ?_
 refine R1 x4 rfl (R3 (xa0 (c_WorkedV exL 150 220 [(⟨200, 220⟩ : Sn)] (by decide) exD (by decide +kernel) exV) fi47 rfl) rfl rfl rfl (R1 x4 rfl (R1 (xa5 rfl) rfl (R1 (xa5 rfl) rfl (R1 x5 rfl (R1 x5 rfl (x7 (by kernel_rfl) ?_)))))))
 refine x3 (x6 ?_)
 refine x8 ?_
 refine R1 x4 rfl (R3 (xa0 (c_BreaksV exL 150 220 [] (by decide) exD (by decide +kernel) (by rw [exV]; decide +kernel)) fi48 rfl) rfl rfl rfl (R1 x4 rfl (R1 (xa5 rfl) rfl (R1 (xa5 rfl) rfl (R1 x5 rfl (R1 x5 rfl (x7 (by kernel_rfl) ?_)))))))
 refine x3 (x6 ?_)
 refine x8 ?_
 refine R1 x5 rfl (x7 (by kernel_rfl) (x3 (x6 ?_)))
 refine x8 ?_
 refine R1 x4 rfl (R1 x4 rfl (R2 (xc2 (wr64 (by omega) (by omega))) rfl rfl (R1 x4 rfl (R2 (xc2 (wr64 (by omega) (by omega))) rfl rfl (R1 x4 rfl (R2 (xc2 (wr64 (by omega) (by omega))) rfl rfl (R1 x4 rfl ?_)))))))
 refine R2 (xc2 (wr64 (by omega) (by omega))) rfl rfl (R1 x4 rfl (R2 (xc2 (wr64 (by omega) (by omega))) rfl rfl (R2 xf1 rfl rfl (R1 x4 rfl (RGon (decide_eq_true (by omega)) rfl x4 rfl ⟨rfl, trivial⟩ trivial trivial (RGon (decide_eq_true (by omega)) rfl x4 rfl ⟨rfl, trivial⟩ trivial trivial (RGon (decide_eq_true (by omega)) rfl (xa0 (c_to 0 150) fi51 rfl) rfl ⟨rfl, rfl, trivial⟩ trivial trivial ?_)))))))
 refine RGon (decide_eq_true (by omega)) rfl (xa0 (c_to 200 300) fi51 rfl) rfl ⟨rfl, rfl, trivial⟩ trivial trivial (RGon (decide_eq_true (by omega)) rfl (xg5 (n := 2) (f := tSn) [(⟨0, 150⟩ : Sn), (⟨200, 300⟩ : Sn)] Tryz.underlying93 el99 zf99 rfl (fun _ => inferInstance) rfl rfl rfl) rfl ⟨rfl, rfl, trivial⟩ trivial trivial (RGon (decide_eq_true (by omega)) rfl (d_callF (c_sameS [(⟨0, 150⟩ : Sn), (⟨200, 300⟩ : Sn)]) fi50 rfl) rfl ⟨rfl, rfl, rfl, trivial⟩ trivial trivial (R2 (xb5 (decide_eq_true (by omega))) rfl rfl (R1 x4 rfl (RGon rfl rfl x4 rfl ⟨rfl, trivial⟩ trivial trivial (RGon rfl rfl x4 rfl ⟨rfl, trivial⟩ trivial trivial (RGon rfl rfl (xa0 (c_to 150 200) fi51 rfl) rfl ⟨rfl, rfl, trivial⟩ trivial trivial ?_)))))))
 refine RGon rfl rfl (xg5 (n := 1) (f := tSn) [(⟨150, 200⟩ : Sn)] Tryz.underlying93 el99 zf99 rfl (fun _ => inferInstance) rfl rfl rfl) rfl ⟨rfl, trivial⟩ trivial trivial (RGon rfl rfl (d_callF (c_sameS [(⟨150, 200⟩ : Sn)]) fi50 rfl) rfl ⟨rfl, rfl, rfl, trivial⟩ trivial trivial (R2 (xb5 rfl) rfl rfl (R1 x4 rfl (RGon rfl rfl x4 rfl ⟨rfl, trivial⟩ trivial trivial (RGon rfl rfl x4 rfl ⟨rfl, trivial⟩ trivial trivial (RGon rfl rfl (xa0 (c_to 0 300) fi51 rfl) rfl ⟨rfl, rfl, trivial⟩ trivial trivial (RGon rfl rfl (xg5 (n := 1) (f := tSn) [(⟨0, 300⟩ : Sn)] Tryz.underlying93 el99 zf99 rfl (fun _ => inferInstance) rfl rfl rfl) rfl ⟨rfl, trivial⟩ trivial trivial ?_)))))))
 refine RGon rfl rfl (d_callF (c_sameS [(⟨0, 300⟩ : Sn)]) fi50 rfl) rfl ⟨rfl, rfl, rfl, trivial⟩ trivial trivial (R2 (xb5 rfl) rfl rfl (R1 x4 rfl (RGon rfl rfl x4 rfl ⟨rfl, trivial⟩ trivial trivial (RGon rfl rfl x4 rfl ⟨rfl, trivial⟩ trivial trivial (RGon rfl rfl x4 rfl ⟨rfl, trivial⟩ trivial trivial (RGon rfl rfl (d_callF (c_sameS [(⟨0, 150⟩ : Sn), (⟨200, 300⟩ : Sn)]) fi50 rfl) rfl ⟨rfl, rfl, rfl, trivial⟩ trivial trivial (R2 (xb5 rfl) rfl rfl ?_)))))))
 refine R1 x4 rfl (RGon rfl rfl x4 rfl ⟨rfl, trivial⟩ trivial trivial (RGon rfl rfl x4 rfl ⟨rfl, trivial⟩ trivial trivial (RGon rfl rfl (xa0 (c_to 200 220) fi51 rfl) rfl ⟨rfl, rfl, trivial⟩ trivial trivial (RGon rfl rfl (xg5 (n := 1) (f := tSn) [(⟨200, 220⟩ : Sn)] Tryz.underlying93 el99 zf99 rfl (fun _ => inferInstance) rfl rfl rfl) rfl ⟨rfl, trivial⟩ trivial trivial (RGon rfl rfl (d_callF (c_sameS [(⟨200, 220⟩ : Sn)]) fi50 rfl) rfl ⟨rfl, rfl, rfl, trivial⟩ trivial trivial (R2 (xb5 rfl) rfl rfl (R1 x4 rfl ?_)))))))
 refine RGon rfl rfl x4 rfl ⟨rfl, trivial⟩ trivial trivial (RGon rfl rfl (xc1 Tryz.underlying93) rfl ⟨rfl, trivial⟩ trivial trivial (RGon rfl rfl xf1 rfl ⟨rfl, rfl, trivial⟩ trivial trivial (R2 (xb5 rfl) rfl rfl (R1 x5 rfl (x7 (by kernel_rfl) (x3 (xa2 ?_)))))))
 exact xa8 Plain.mk' rfl rfl (Le.bool (by decide))
end An.S

/- The reference of layer 1: limbs. -/
namespace An.S
open Go Go.Proofs An
set_option maxHeartbeats 2000000
theorem fi181 : FnI Tryz.prog 181 := ⟨_, Tryz.func181, by kernel_rfl, rfl⟩
theorem c_RTrim (a : List Nat) :
  Ct Tryz.prog 181 [tLm a] (tLm (trimL a)) := by
 refine Ct.intro Tryz.func181 rfl Tryz.ntmps181 rfl ?_
 intro w F
 refine C_len (s := 0) rfl (fun hl0 => ?_)
 refine x6 ?_
 refine x8 ?_
 refine R1 x5 rfl (x7 (by kernel_rfl) (x3 (x6 ?_)))
 refine x8 ?_
 refine R1 x4 rfl (R1 (xc1 Tryz.underlying45) rfl (R1 x5 rfl (x7 (by kernel_rfl) (x3 (x6 (xb3 ?_))))))
 refine xd9 (fun (k : Nat) => k ≤ a.length ∧ trimL (a.take k) = trimL a) (fun (k : Nat) => upd (upd (fun _ => none) 0 (some (.val (tLm a)))) 3 (some (.val (tI k)))) (fun (k : Nat) => fun _ => none) (nm []) (fun (k : Nat) => k) (a.length) ⟨Nat.le_refl _, by rw [List.take_length]⟩ (Sub.int rfl (by first | omega | rfl | (dsimp only; omega)) (Sub.cons rfl Sub.nil)) SubK.nil (SupG.val (SupG.val SupG.nil)) SupH.nil (lkOk rfl) ?_
 intro k hI
 obtain ⟨hk, hc⟩ := hI
 refine x6 (x6 ?_)
 refine x8 ?_
 refine R1 x4 rfl (R2 xg3 rfl rfl (R1 x4 rfl ?_))
 refine RGcaseD (t := 8) rfl (fun h12 => ?_) (fun h12 => ?_)
 ·
  refine RGon (decide_eq_true h12) rfl x4 rfl ⟨rfl, trivial⟩ trivial trivial (RGon (decide_eq_true h12) rfl x4 rfl ⟨rfl, trivial⟩ trivial trivial (RGon (decide_eq_true h12) rfl (xe1 (wr64 (by omega) (by omega))) rfl ⟨rfl, rfl, trivial⟩ trivial trivial (RGon (decide_eq_true h12) rfl (xc3 sl45 (k - 1) (by omega) (gN (by omega))) rfl ⟨rfl, rfl, trivial⟩ trivial trivial (RGon (decide_eq_true h12) rfl (xc7 ti166) rfl ⟨rfl, trivial⟩ trivial trivial (RGon (decide_eq_true h12) rfl xf1 rfl ⟨rfl, rfl, trivial⟩ trivial trivial (R2 (xb5 (decide_eq_true h12)) rfl rfl (x7 (by kernel_rfl) ?_)))))))
  refine x3 ?_
  refine xb8 rfl (fun h12_2 => ?_) (fun h12_2 => ?_)
  ·
   refine xa4 (x3 (xb3 ?_))
   refine x8 ?_
   refine R1 x4 rfl (R2 (xe1 (wr64 (by omega) (by omega))) rfl rfl (R1 x5 rfl (x7 (by kernel_rfl) (xc8 ?_))))
   exact xc6 (k - 1) ⟨⟨by omega, by rw [trim_step' hk (by omega) (by omega)]; exact hc⟩, (by omega)⟩ (Sub.int rfl (by first | omega | rfl | (dsimp only; omega)) (Sub.cons rfl Sub.nil)) SubK.nil (SupG.val (SupG.val SupG.nil)) SupH.nil (lkOk rfl)
  ·
   refine xd4 (xc0 (xc0 (xe2 (x3 (x6 ?_)))))
   refine x8 ?_
   refine R1 x4 rfl (R1 x4 rfl (R2 (d_sliceTo sl45 k (by omega) (by omega) rfl) rfl rfl (R1 x5 rfl (x7 (by kernel_rfl) (x3 (xa2 ?_))))))
   exact xa8 Plain.mk' rfl rfl (Le.of (congrArg tLm (by rw [← hc, trim_stop' hk (by omega) (by omega)])))
 ·
  refine RGoff (decide_eq_false h12) rfl rfl (RGoff (decide_eq_false h12) rfl rfl (RGoff (decide_eq_false h12) rfl rfl (RGoff (decide_eq_false h12) rfl rfl (RGoff (decide_eq_false h12) rfl rfl (RGoff (decide_eq_false h12) rfl rfl (R2 (xb4 (decide_eq_false h12)) rfl rfl (x7 (by kernel_rfl) ?_)))))))
  refine x3 (C_bF rfl rfl (xd4 (xc0 (xc0 (xe2 (x3 (x6 ?_)))))))
  refine x8 ?_
  refine R1 x4 rfl (R1 x4 rfl (R2 (d_sliceTo sl45 k (by omega) (by omega) rfl) rfl rfl (R1 x5 rfl (x7 (by kernel_rfl) (x3 (xa2 ?_))))))
  exact xa8 Plain.mk' rfl rfl (Le.of (congrArg tLm (by rw [← hc, show k = 0 by omega, List.take_zero]; rfl)))
theorem c_RLess (a b : Nat) :
  Ct Tryz.prog 172 [tM a, tM b] (tB (decide (a < b))) := by
 refine Ct.intro Tryz.func172 rfl Tryz.ntmps172 rfl ?_
 intro w F
 refine C_len (s := 0) rfl (fun hl0 => ?_)
 refine C_len (s := 1) rfl (fun hl1 => ?_)
 have ha := xg9 xa9 a
 have hb := xg9 xa9 b
 refine x6 ?_
 refine x8 ?_
 refine R1 x5 rfl (x7 (by kernel_rfl) (x3 (x6 (x6 ?_))))
 refine x8 ?_
 refine R1 x4 rfl (R1 (xc1 Tryz.underlying45) rfl (R1 x4 rfl (R1 (xc1 Tryz.underlying45) rfl (R2 d_neq rfl rfl (x7 (by kernel_rfl) (x3 ?_))))))
 refine xb8 rfl (fun h20 => ?_) (fun h20 => ?_)
 ·
  refine x6 ?_
  refine x8 ?_
  refine R1 x4 rfl (R1 (xc1 Tryz.underlying45) rfl (R1 x4 rfl (R1 (xc1 Tryz.underlying45) rfl (R2 xd7 rfl rfl (R1 x5 rfl (x7 (by kernel_rfl) (x3 ?_)))))))
  refine xa2 (xa7 ?_)
  exact xa8 Plain.mk' rfl rfl (Le.bool (decide_eq_decide.2 ⟨fun h => len_lt xa9 (by omega), fun h => by have := xf3 xa9 (Nat.le_of_lt h); omega⟩))
 ·
  refine xa4 (x3 (x6 (x6 ?_)))
  refine x8 ?_
  refine R1 x4 rfl (R1 (xc1 Tryz.underlying45) rfl (R2 (xe1 (wr64 (by omega) (by omega))) rfl rfl (R1 x5 rfl (x7 (by kernel_rfl) (x3 (xb3 ?_))))))
  have hlen : (dig 65536 a).length = (dig 65536 b).length := by omega
  rw [← hlen] at hb
  refine xd9 (fun (k : Nat) => k ≤ (dig 65536 a).length ∧ a / 65536 ^ k = b / 65536 ^ k) (fun (k : Nat) => upd (upd (upd (fun _ => none) 0 (some (.val (tM a)))) 1 (some (.val (tM b)))) 5 (some (.val (tI ((k : Int) - 1))))) (fun (k : Nat) => fun _ => none) (nm []) (fun (k : Nat) => k) ((dig 65536 a).length) ⟨Nat.le_refl _, by rw [Nat.div_eq_of_lt ha, Nat.div_eq_of_lt hb]⟩ (Sub.int rfl (by first | omega | rfl | (dsimp only; omega)) (Sub.cons rfl (Sub.cons rfl Sub.nil))) SubK.nil (SupG.val (SupG.val (SupG.val SupG.nil))) SupH.nil (lkOk rfl) ?_
  intro k hI
  obtain ⟨hk, hc⟩ := hI
  refine x6 (x6 ?_)
  refine x8 ?_
  refine R1 x4 rfl (R2 d_geq rfl rfl (x7 (by kernel_rfl) (x3 ?_)))
  refine xb8 rfl (fun h23 => ?_) (fun h23 => ?_)
  ·
   obtain ⟨j, rfl⟩ : ∃ j, k = j + 1 := ⟨k - 1, by omega⟩
   refine xa4 (x3 (x6 (xb3 (x6 ?_))))
   refine xd8 mixed ?_
   refine R1 x4 rfl (R1 x4 rfl (R2 (xc3 sl45 (j) (by omega) (gN (by omega))) rfl rfl (R1 (xc7 ti166) rfl (R1 x4 rfl (R1 x4 rfl (R2 (xc3 sl45 (j) (by omega) (gN (by omega))) rfl rfl (R1 (xc7 ti166) rfl ?_)))))))
   refine R2 d_neq rfl rfl (xe0 (by kernel_rfl) (x3 ?_))
   refine xb8 rfl (fun h24 => ?_) (fun h24 => ?_)
   ·
    refine x6 ?_
    refine xd8 mixed ?_
    refine R1 x4 rfl (R1 x4 rfl (R2 (xc3 sl45 (j) (by omega) (gN (by omega))) rfl rfl (R1 (xc7 ti166) rfl (R1 x4 rfl (R1 x4 rfl (R2 (xc3 sl45 (j) (by omega) (gN (by omega))) rfl rfl (R1 (xc7 ti166) rfl ?_)))))))
    refine R2 xd7 rfl rfl (R1 x5 rfl (xe0 (by kernel_rfl) (x3 (xa2 (xc9 (xa7 (xa7 ?_)))))))
    refine xc9 (xa7 ?_)
    exact xa8 Plain.mk' rfl rfl (Le.bool (decide_eq_decide.2 ⟨fun h => dig_lt_of xa9 hc (by omega), fun h => Classical.byContradiction fun h2 => by have := dig_lt_of xa9 hc.symm (show (dig 65536 b).getD j 0 < (dig 65536 a).getD j 0 by omega); omega⟩))
   ·
    refine xa4 (xc8 (x3 ?_))
    refine x8 ?_
    refine R1 x4 rfl (R2 (xe1 (wr64 (by omega) (by omega))) rfl rfl (R1 x5 rfl (x7 (by kernel_rfl) ?_)))
    exact xc6 (j) ⟨⟨by omega, cmp_step (by decide) hc (by rw [← xe6 xa9, ← xe6 xa9]; omega)⟩, (by omega)⟩ (Sub.int rfl (by first | omega | rfl | (dsimp only; omega)) (Sub.cons rfl (Sub.cons rfl Sub.nil))) SubK.nil (SupG.val (SupG.val (SupG.val SupG.nil))) SupH.nil (lkOk rfl)
  ·
   refine xd4 (xc0 (xc0 (xe2 (x3 (x6 ?_)))))
   refine x8 ?_
   refine R1 x5 rfl (x7 (by kernel_rfl) (x3 (xa2 ?_)))
   exact xa8 Plain.mk' rfl rfl (Le.bool (decide_eq_false (by have h0 := hc; rw [show k = 0 by omega] at h0; simp at h0; omega)).symm)
theorem len_ne {v : Nat} : (0 : Int) < ((dig 65536 v).length : Nat) ↔ v ≠ 0 := by
  have h : (dig 65536 v).length = 0 ↔ v = 0 := by rw [List.length_eq_zero_iff, xh4 xa9]
  omega
theorem c_RMake (p : Bool) (v : Nat) :
  Ct Tryz.prog 126 [tB p, tM v] (tWh (wh (sgn p v))) := by
 refine Ct.intro Tryz.func126 rfl Tryz.ntmps126 rfl ?_
 intro w F
 refine x6 ?_
 refine x8 ?_
 refine RE (xb9 (k := 4) (n := 2) (agg := true) zr47.1 zr47.2 rfl) trivial trivial ⟨rfl, trivial⟩ (x7 (by kernel_rfl) (x3 (x6 ?_)))
 refine x8 ?_
 refine R1 x4 rfl (R1 x4 rfl ?_)
 refine RGcase (t := 6) rfl (fun h129 => ?_) (fun h129 => ?_)
 ·
  refine RGon h129 rfl x4 rfl ⟨rfl, trivial⟩ trivial trivial (RGon h129 rfl (xc1 Tryz.underlying45) rfl ⟨rfl, trivial⟩ trivial trivial (RGon h129 rfl xg3 rfl ⟨rfl, rfl, trivial⟩ trivial trivial (R2 (xb5 h129) rfl rfl (R1 x4 rfl (R2 (xd1 (r := tS [⟨1, false, tB (decide ((0 : Int) < ((dig 65536 v).length : Nat)))⟩, ⟨1, false, tM v⟩]) (ts := [(0, tB (decide ((0 : Int) < ((dig 65536 v).length : Nat)))), (1, tM v)]) bu47 zr47.2 ⟨_, rfl⟩ rfl ⟨_, _, _, _, rfl, Up.f (fs := [⟨1, false, (tE (.bool false))⟩, ⟨1, false, (tLm [])⟩]) (f := ⟨1, false, (tE (.bool false))⟩) (fs' := [⟨1, false, tB (decide ((0 : Int) < ((dig 65536 v).length : Nat)))⟩, ⟨1, false, (tLm [])⟩]) 0 rfl rfl rfl, inferInstance, ⟨_, _, _, _, rfl, Up.f (fs := [⟨1, false, tB (decide ((0 : Int) < ((dig 65536 v).length : Nat)))⟩, ⟨1, false, (tLm [])⟩]) (f := ⟨1, false, (tLm [])⟩) (fs' := [⟨1, false, tB (decide ((0 : Int) < ((dig 65536 v).length : Nat)))⟩, ⟨1, false, tM v⟩]) 1 rfl rfl rfl, inferInstance, Le.refl⟩⟩) rfl rfl (RE (xa6 (es := 2) (agg := true) (0) ti47 rfl rfl rfl) ⟨rfl, rfl, trivial⟩ ⟨rfl, trivial⟩ trivial (x7 (by kernel_rfl) ?_)))))))
  refine x3 (xa2 ?_)
  exact xf9 Plain.mk' rfl ⟨_, _, _, _, _, rfl, rfl, ti47, (Le.of (by rw [wh_sgn, h129, Bool.true_and, decide_eq_decide.2 (show (0 : Int) < ((dig 65536 v).length : Nat) ↔ v ≠ 0 from len_ne)]))⟩
 ·
  refine RGoff h129 rfl rfl (RGoff h129 rfl rfl (RGoff h129 rfl rfl (R2 (xb4 h129) rfl rfl (R1 x4 rfl (R2 (xd1 (r := tS [⟨1, false, tB false⟩, ⟨1, false, tM v⟩]) (ts := [(0, tB false), (1, tM v)]) bu47 zr47.2 ⟨_, rfl⟩ rfl ⟨_, _, _, _, rfl, Up.f (fs := [⟨1, false, (tE (.bool false))⟩, ⟨1, false, (tLm [])⟩]) (f := ⟨1, false, (tE (.bool false))⟩) (fs' := [⟨1, false, tB false⟩, ⟨1, false, (tLm [])⟩]) 0 rfl rfl rfl, inferInstance, ⟨_, _, _, _, rfl, Up.f (fs := [⟨1, false, tB false⟩, ⟨1, false, (tLm [])⟩]) (f := ⟨1, false, (tLm [])⟩) (fs' := [⟨1, false, tB false⟩, ⟨1, false, tM v⟩]) 1 rfl rfl rfl, inferInstance, Le.refl⟩⟩) rfl rfl (RE (xa6 (es := 2) (agg := true) (0) ti47 rfl rfl rfl) ⟨rfl, rfl, trivial⟩ ⟨rfl, trivial⟩ trivial (x7 (by kernel_rfl) ?_)))))))
  refine x3 (xa2 ?_)
  exact xf9 Plain.mk' rfl ⟨_, _, _, _, _, rfl, rfl, ti47, (Le.of (by rw [wh_sgn, h129, Bool.false_and]))⟩
theorem iquo64 {a b : Nat} (ha : a < 9223372036854775808) : IntKind.i64.wrap ((a : Int).tdiv (b : Int)) = ((a / b : Nat) : Int) := by
  rw [Int.tdiv_eq_ediv_of_nonneg (by omega)]
  have h : (a : Int) / (b : Int) = ((a / b : Nat) : Int) := (Int.natCast_ediv a b).symm
  rw [h]
  have := Nat.div_le_self a b
  generalize a / b = q at *
  exact wr64 (by omega) (by omega)
theorem c_RShort (a d : Nat) (ha : (dig 65536 a).length ≤ 100000) (hd : 0 < d) (hdW : d < 65536) :
  Ct Tryz.prog 171 [tM a, tI d] (tT [tM (a / d), tM (a % d)]) := by
 refine Ct.intro Tryz.func171 rfl Tryz.ntmps171 rfl ?_
 intro w F
 refine x6 ?_
 refine x8 ?_
 refine R1 x5 rfl (R1 x5 rfl (x7 (by kernel_rfl) (x3 (x6 ?_))))
 refine x8 ?_
 refine R1 x4 rfl (R1 (xc1 Tryz.underlying45) rfl (RE (d_makeO (k := 11) (t := tE (.int .u16 0)) (ts := rW .u16 (List.replicate ((dig 65536 a).length) 0)) ((dig 65536 a).length) ((dig 65536 a).length) Tryz.underlying45 el166 (fun _ _ => rfl) rfl (by omega) (by omega) (Nat.le_refl _) (by omega) (by omega) (rW_rep _)) ⟨rfl, rfl, trivial⟩ trivial ⟨rfl, trivial⟩ (R1 x5 rfl (x7 (by kernel_rfl) (x3 (x6 ?_))))))
 refine x8 ?_
 refine R1 x5 rfl (x7 (by kernel_rfl) (x3 (x6 (x6 ?_))))
 refine x8 ?_
 refine R1 x4 rfl (R1 (xc1 Tryz.underlying45) rfl (R2 (xe1 (wr64 (by omega) (by omega))) rfl rfl (R1 x5 rfl (x7 (by kernel_rfl) (x3 (xb3 ?_))))))
 refine xd9 (fun (fm : (Nat) × (List Nat)) => (fun (k : Nat) (qs : List Nat) => k ≤ (dig 65536 a).length ∧ qs.length = (dig 65536 a).length ∧ Dig 65536 qs ∧ val 65536 (qs.drop k) = a / 65536 ^ k / d) fm.1 fm.2) (fun (fm : (Nat) × (List Nat)) => (fun (k : Nat) (qs : List Nat) => upd (upd (upd (upd (upd (fun _ => none) 0 (some (.val (tM a)))) 1 (some (.val (tI d)))) 6 (some (.own (.sl 11 1 0 (dig 65536 a).length)))) 7 (some (.val (tI ((a / 65536 ^ k % d : Nat) : Int))))) 8 (some (.val (tI ((k : Int) - 1))))) fm.1 fm.2) (fun (fm : (Nat) × (List Nat)) => (fun (k : Nat) (qs : List Nat) => upd (fun _ => none) 11 (some (⟨166, 1, false, rW .u16 qs⟩))) fm.1 fm.2) (nm [11]) (fun (fm : (Nat) × (List Nat)) => (fun (k : Nat) (qs : List Nat) => k) fm.1 fm.2) (((dig 65536 a).length, List.replicate (dig 65536 a).length 0)) (by dsimp only; exact ⟨Nat.le_refl _, by simp, Dig.rep (by decide) _, by rw [Nat.div_eq_of_lt (xg9 xa9 a), Nat.zero_div, List.drop_replicate, xg7]⟩) (Sub.int rfl (by first | omega | rfl | (dsimp only; omega)) (Sub.le rfl (Le.int (by dsimp only; rw [Nat.div_eq_of_lt (xg9 xa9 a), Nat.zero_mod]; rfl)) (Sub.cons rfl (Sub.int rfl (by first | omega | rfl | (dsimp only; omega)) (Sub.cons rfl Sub.nil))))) ((SubK.consI rfl ImpK.refl) SubK.nil) (SupG.val (SupG.val (SupG.own rfl (SupG.val (SupG.val SupG.nil))))) (SupH.cons rfl (supJ xc4) SupH.nil) (lkOk rfl) ?_
 intro fm hI
 obtain ⟨k, qs⟩ := fm
 replace hI : k ≤ (dig 65536 a).length ∧ qs.length = (dig 65536 a).length ∧ Dig 65536 qs ∧ val 65536 (qs.drop k) = a / 65536 ^ k / d := hI
 show wc _ _ _ _ (upd (upd (upd (upd (upd (fun _ => none) 0 (some (.val (tM a)))) 1 (some (.val (tI d)))) 6 (some (.own (.sl 11 1 0 (dig 65536 a).length)))) 7 (some (.val (tI ((a / 65536 ^ k % d : Nat) : Int))))) 8 (some (.val (tI ((k : Int) - 1))))) (upd (fun _ => none) 11 (some (⟨166, 1, false, rW .u16 qs⟩))) _
 obtain ⟨hk, hl, hD, hv⟩ := hI
 have hr : a / 65536 ^ k % d < d := Nat.mod_lt _ hd
 refine x6 (x6 ?_)
 refine x8 ?_
 refine R1 x4 rfl (R2 d_geq rfl rfl (x7 (by kernel_rfl) (x3 ?_)))
 refine xb8 rfl (fun h93 => ?_) (fun h93 => ?_)
 ·
  obtain ⟨j, rfl⟩ : ∃ j, k = j + 1 := ⟨k - 1, by omega⟩
  have hx := xe6 xa9 a j
  have hx1 := (xe4 xa9 a).getD (by decide) j
  obtain ⟨n1, n2, n3, n4, n5⟩ := short_in (k := j) (by omega) hl hD hd rfl hv (by rw [← hx])
  have hq0 := Nat.zero_le (((a / 65536 ^ (j + 1) % d) * 65536 + (dig 65536 a).getD j 0) / d)
  refine xa4 (x3 (x6 (xb3 (x6 ?_))))
  refine x8 ?_
  refine R1 x4 rfl (R2 (d_mul (r := (((a / 65536 ^ (j + 1) % d) * 65536 : Nat) : Int)) (by rw [wr64 (by omega) (by omega)]; omega)) rfl rfl (R1 x4 rfl (R1 x4 rfl (R2 (xc3 sl45 (j) (by omega) (gN (by omega))) rfl rfl (R1 (xc7 ti166) rfl (R1 (xb0 Tryz.underlying3 (isS Tryz.underlying166) (wr64 (by omega) (by omega))) rfl (R2 (xc2 (r := ((((a / 65536 ^ (j + 1) % d) * 65536 + (dig 65536 a).getD j 0) : Nat) : Int)) (by rw [wr64 (by omega) (by omega)]; omega)) rfl rfl ?_)))))))
  refine R1 x5 rfl (x7 (by kernel_rfl) (x3 (x6 ?_)))
  refine x8 ?_
  refine R1 x4 rfl (R1 x4 rfl (R1 x4 rfl (R1 x4 rfl (R2 (d_quo (r := ((((a / 65536 ^ (j + 1) % d) * 65536 + (dig 65536 a).getD j 0) / d : Nat) : Int)) (by omega) (iquo64 (by omega))) rfl rfl (R1 (xb0 Tryz.underlying166 (isS Tryz.underlying3) (wu16 (by omega) (by omega))) rfl (R2 (xd5 sl45 (by omega) (by omega) rfl) rfl rfl (RE (xa6 (j) ti166 (rW_lt (by omega)) (by omega) (rW_set (m := _) rfl)) ⟨rfl, rfl, trivial⟩ ⟨rfl, trivial⟩ trivial ?_)))))))
  refine x7 (by kernel_rfl) (x3 ?_)
  refine x8 ?_
  refine R1 x4 rfl (R1 x4 rfl (R2 (d_rem (by omega) wrem64) rfl rfl (R1 x5 rfl (x7 (by kernel_rfl) (xc8 (x3 ?_))))))
  refine x8 ?_
  refine R1 x4 rfl (R2 (xe1 (wr64 (by omega) (by omega))) rfl rfl (R1 x5 rfl (x7 (by kernel_rfl) ?_)))
  exact xc6 ((j, qs.set j (((a / 65536 ^ (j + 1) % d) * 65536 + (dig 65536 a).getD j 0) / d))) ⟨(by dsimp only; exact ⟨by omega, n1, n2, n4⟩), (by dsimp only; omega)⟩ (Sub.int rfl (by first | omega | rfl | (dsimp only; omega)) (Sub.le rfl (Le.int (by dsimp only; rw [hx, n3])) (Sub.cons rfl (Sub.int rfl (by first | omega | rfl | (dsimp only; omega)) (Sub.cons rfl Sub.nil))))) ((SubK.consI rfl ImpK.refl) SubK.nil) (SupG.val (SupG.val (SupG.own rfl (SupG.val (SupG.val SupG.nil))))) (SupH.cons rfl (supJ xc4) SupH.nil) (lkOk rfl)
 ·
  have hk0 : k = 0 := by omega
  subst hk0
  rw [List.drop_zero, Nat.pow_zero, Nat.div_one] at hv
  refine xd4 (xc0 (xc0 (xe2 (x3 (x6 ?_)))))
  refine x8 ?_
  refine RE (xh9 (f := fun n : Nat => tE (.int .u16 n)) (fun _ h => h) (rW_all hl) hl) ⟨rfl, trivial⟩ ⟨rfl, trivial⟩ trivial (R1 (xa0 (c_RTrim _) fi181 rfl) rfl (R1 x4 rfl (R1 (xb0 Tryz.underlying166 (isS Tryz.underlying3) (wu16 (by omega) (by omega))) rfl (R1 (d_nums (n := 1) [a / 65536 ^ 0 % d] Tryz.underlying45 el166 zf166 rfl rfl rfl) rfl (R1 (xa0 (c_RTrim _) fi181 rfl) rfl (R1 x5 rfl (R1 x5 rfl ?_)))))))
  refine x7 (by kernel_rfl) (x3 (xa2 ?_))
  exact xe7 Plain.mk' rfl rfl rfl (Le.of (congrArg tLm (by rw [xf7 xa9 hD, hv]))) (Le.of (congrArg tLm (by rw [trim1L (by omega), Nat.pow_zero, Nat.div_one])))
end An.S

/- The reference of layer 1: sums, differences. -/
namespace An.S
open Go Go.Proofs An
set_option maxHeartbeats 2000000
theorem c_RPlus (a b : Nat) (ha : (dig 65536 a).length ≤ 100000) (hb : (dig 65536 b).length ≤ 100000) :
  Ct Tryz.prog 134 [tM a, tM b] (tM (a + b)) := by
 have hab := len_dbl ha hb
 refine Ct.intro Tryz.func134 rfl Tryz.ntmps134 rfl ?_
 intro w F
 refine x6 ?_
 refine x8 ?_
 refine R1 x5 rfl (x7 (by kernel_rfl) (x3 (x6 ?_)))
 refine x8 ?_
 refine RE (xi1 (k := 5) 166 1 false rfl (fun _ => rfl)) trivial trivial ⟨rfl, trivial⟩ (x7 (by kernel_rfl) (x3 (x6 ?_)))
 refine x8 ?_
 refine R1 x5 rfl (x7 (by kernel_rfl) (x3 (x6 (x6 ?_))))
 refine x8 ?_
 refine R1 x5 rfl (x7 (by kernel_rfl) (x3 (xb3 ?_)))
 refine xd9 (fun (fm : (Nat) × (Nat) × (List Nat)) => (fun (i : Nat) (n : Nat) (cs : List Nat) => i ≤ (dig 65536 (a + b)).length ∧ n = (a % 65536 ^ i + b % 65536 ^ i) / 65536 ^ i ∧ cs = dgs 65536 i (a + b)) fm.1 fm.2.1 fm.2.2) (fun (fm : (Nat) × (Nat) × (List Nat)) => (fun (i : Nat) (n : Nat) (cs : List Nat) => upd (upd (upd (upd (upd (fun _ => none) 0 (some (.val (tM a)))) 1 (some (.val (tM b)))) 5 (some (.own (.sl 5 1 0 cs.length)))) 7 (some (.val (tI i)))) 6 (some (.val (tI n)))) fm.1 fm.2.1 fm.2.2) (fun (fm : (Nat) × (Nat) × (List Nat)) => (fun (i : Nat) (n : Nat) (cs : List Nat) => upd (fun _ => none) 5 (some (⟨166, 1, false, rW .u16 cs⟩))) fm.1 fm.2.1 fm.2.2) (nm [5]) (fun (fm : (Nat) × (Nat) × (List Nat)) => (fun (i : Nat) (n : Nat) (cs : List Nat) => (dig 65536 (a + b)).length - i) fm.1 fm.2.1 fm.2.2) ((0, 0, [])) (by dsimp only; exact ⟨Nat.zero_le _, by simp [Nat.mod_one], rfl⟩) (Sub.int rfl (by first | omega | rfl | (dsimp only; omega)) (Sub.int rfl (by first | omega | rfl | (dsimp only; omega)) (Sub.cons rfl (Sub.cons rfl (Sub.cons rfl Sub.nil))))) ((SubK.consI rfl ImpK.refl) SubK.nil) (SupG.val (SupG.val (SupG.own rfl (SupG.val (SupG.val SupG.nil))))) (SupH.cons rfl (supJ xc4) SupH.nil) (lkOk rfl) ?_
 intro fm hI
 obtain ⟨i, n, cs⟩ := fm
 replace hI : i ≤ (dig 65536 (a + b)).length ∧ n = (a % 65536 ^ i + b % 65536 ^ i) / 65536 ^ i ∧ cs = dgs 65536 i (a + b) := hI
 show wc _ _ _ _ (upd (upd (upd (upd (upd (fun _ => none) 0 (some (.val (tM a)))) 1 (some (.val (tM b)))) 5 (some (.own (.sl 5 1 0 cs.length)))) 7 (some (.val (tI i)))) 6 (some (.val (tI n)))) (upd (fun _ => none) 5 (some (⟨166, 1, false, rW .u16 cs⟩))) _
 obtain ⟨hi, hn, hcs⟩ := hI
 have hcl : cs.length = i := by rw [hcs, xg6]
 have hn1 := rplus_small hn
 have xa := xe6 xa9 a i
 have xb := xe6 xa9 b i
 have xa1 := (xe4 xa9 a).getD (by decide) i
 have xb1 := (xe4 xa9 b).getD (by decide) i
 refine x6 (x6 ?_)
 refine x8 ?_
 refine R1 x4 rfl (R1 x4 rfl (R1 (xc1 Tryz.underlying45) rfl (R2 xd7 rfl rfl (R1 x4 rfl ?_))))
 refine RGcaseD (t := 12) rfl (fun h35 => ?_) (fun h35 => ?_)
 ·
  have hmore := rplus_more hn (.inl (by omega))
  refine RGoff (decide_eq_true h35) rfl rfl (RGoff (decide_eq_true h35) rfl rfl (RGoff (decide_eq_true h35) rfl rfl (RGoff (decide_eq_true h35) rfl rfl (R2 (xb5 (decide_eq_true h35)) rfl rfl (R1 x4 rfl (RGoff1 rfl rfl (RGoff1 rfl rfl ?_)))))))
  refine R2 (xb5 rfl) rfl rfl (x7 (by kernel_rfl) (x3 (C_bT rfl rfl (xa4 (x3 (x6 (xb3 ?_)))))))
  refine xh1 (fun (m1 : Nat) => m1 = (n + a / 65536 ^ i % 65536)) (fun (m1 : Nat) => upd (upd (upd (upd (upd (fun _ => none) 0 (some (.val (tM a)))) 1 (some (.val (tM b)))) 5 (some (.own (.sl 5 1 0 cs.length)))) 7 (some (.val (tI i)))) 6 (some (.val (tI m1)))) (fun (m1 : Nat) => upd (fun _ => none) 5 (some (⟨166, 1, false, rW .u16 cs⟩))) (nm [5]) ?_ ?_
  ·
   refine x6 ?_
   refine x8 ?_
   refine R1 x4 rfl (R1 x4 rfl (R1 (xc1 Tryz.underlying45) rfl (R2 xd7 rfl rfl (x7 (by kernel_rfl) (x3 ?_)))))
   refine xb8 rfl (fun h36 => ?_) (fun h36 => ?_)
   ·
    refine x8 ?_
    refine R1 x4 rfl (R1 x4 rfl (R1 x4 rfl (R2 (xc3 sl45 (i) (by omega) (gN (by omega))) rfl rfl (R1 (xc7 ti166) rfl (R1 (xb0 Tryz.underlying3 (isS Tryz.underlying166) (wr64 (by omega) (by omega))) rfl (R2 (xc2 (r := ((n + (dig 65536 a).getD i 0 : Nat) : Int)) (by rw [wr64 (by omega) (by omega)]; omega)) rfl rfl (R1 x5 rfl ?_)))))))
    refine x7 (by kernel_rfl) ?_
    exact xc6 (n + (dig 65536 a).getD i 0) (by rw [xa]) (Sub.int rfl (by first | omega | rfl | (dsimp only; omega)) (Sub.int rfl (by first | omega | rfl | (dsimp only; omega)) (Sub.cons rfl (Sub.cons rfl (Sub.cons rfl Sub.nil))))) ((SubK.consI rfl ImpK.refl) SubK.nil) (SupG.val (SupG.val (SupG.own rfl (SupG.val (SupG.val SupG.nil))))) (SupH.cons rfl (supJ xc4) SupH.nil) (lkOk rfl)
   ·
    refine xa4 ?_
    exact xc6 (n) (by rw [dig_out xa9 (by omega), Nat.add_zero]) (Sub.int rfl (by first | omega | rfl | (dsimp only; omega)) (Sub.int rfl (by first | omega | rfl | (dsimp only; omega)) (Sub.cons rfl (Sub.cons rfl (Sub.cons rfl Sub.nil))))) ((SubK.consI rfl ImpK.refl) SubK.nil) (SupG.val (SupG.val (SupG.own rfl (SupG.val (SupG.val SupG.nil))))) (SupH.cons rfl (supJ xc4) SupH.nil) (lkOk rfl)
  ·
   intro m1 hm1
   refine xh1 (fun (m2 : Nat) => m2 = (m1 + b / 65536 ^ i % 65536)) (fun (m2 : Nat) => upd (upd (upd (upd (upd (fun _ => none) 0 (some (.val (tM a)))) 1 (some (.val (tM b)))) 5 (some (.own (.sl 5 1 0 cs.length)))) 7 (some (.val (tI i)))) 6 (some (.val (tI m2)))) (fun (m2 : Nat) => upd (fun _ => none) 5 (some (⟨166, 1, false, rW .u16 cs⟩))) (nm [5]) ?_ ?_
   ·
    refine x6 ?_
    refine x8 ?_
    refine R1 x4 rfl (R1 x4 rfl (R1 (xc1 Tryz.underlying45) rfl (R2 xd7 rfl rfl (x7 (by kernel_rfl) (x3 ?_)))))
    refine xb8 rfl (fun h39 => ?_) (fun h39 => ?_)
    ·
     refine x8 ?_
     refine R1 x4 rfl (R1 x4 rfl (R1 x4 rfl (R2 (xc3 sl45 (i) (by omega) (gN (by omega))) rfl rfl (R1 (xc7 ti166) rfl (R1 (xb0 Tryz.underlying3 (isS Tryz.underlying166) (wr64 (by omega) (by omega))) rfl (R2 (xc2 (r := ((m1 + (dig 65536 b).getD i 0 : Nat) : Int)) (by rw [wr64 (by omega) (by omega)]; omega)) rfl rfl (R1 x5 rfl ?_)))))))
     refine x7 (by kernel_rfl) ?_
     exact xc6 (m1 + (dig 65536 b).getD i 0) (by rw [xb]) (Sub.int rfl (by first | omega | rfl | (dsimp only; omega)) (Sub.int rfl (by first | omega | rfl | (dsimp only; omega)) (Sub.cons rfl (Sub.cons rfl (Sub.cons rfl Sub.nil))))) ((SubK.consI rfl ImpK.refl) SubK.nil) (SupG.val (SupG.val (SupG.own rfl (SupG.val (SupG.val SupG.nil))))) (SupH.cons rfl (supJ xc4) SupH.nil) (lkOk rfl)
    ·
     refine xa4 ?_
     exact xc6 (m1) (by rw [dig_out xa9 (by omega), Nat.add_zero]) (Sub.int rfl (by first | omega | rfl | (dsimp only; omega)) (Sub.int rfl (by first | omega | rfl | (dsimp only; omega)) (Sub.cons rfl (Sub.cons rfl (Sub.cons rfl Sub.nil))))) ((SubK.consI rfl ImpK.refl) SubK.nil) (SupG.val (SupG.val (SupG.own rfl (SupG.val (SupG.val SupG.nil))))) (SupH.cons rfl (supJ xc4) SupH.nil) (lkOk rfl)
   ·
    intro m2 hm2
    refine x6 ?_
    refine x8 ?_
    refine R1 x4 rfl (R1 x4 rfl (R2 (d_rem (r := ((m2 % 65536 : Nat) : Int)) (by decide) (wrem64 (b := 65536))) rfl rfl (R1 (xb0 Tryz.underlying166 (isS Tryz.underlying3) (wu16 (by omega) (by omega))) rfl (R1 (d_nums (n := 1) [m2 % 65536] Tryz.underlying45 el166 zf166 rfl rfl rfl) rfl (RE (xf4 (k := 5) (k' := 51) (ts' := rW .u16 (cs ++ [m2 % 65536])) Tryz.underlying45 el166 zf166 rfl rfl (fun _ => inferInstance) rW_len (by simp; omega) (by simp; omega) (by simp [rW]) (n' := cs.length + 1) rfl) ⟨rfl, rfl, trivial⟩ ⟨rfl, trivial⟩ ⟨rfl, trivial⟩ (R1 x5 rfl (x7 (by kernel_rfl) ?_)))))))
    refine x3 ?_
    refine x8 ?_
    refine R1 x4 rfl (R2 (d_quo (r := ((m2 / 65536 : Nat) : Int)) (by decide) (iquo64 (b := 65536) (by omega))) rfl rfl (R1 x5 rfl (x7 (by kernel_rfl) (xc8 (x3 ?_)))))
    refine x8 ?_
    refine R1 x4 rfl (R2 (xc2 (wr64 (by omega) (by omega))) rfl rfl (R1 x5 rfl (x7 (by kernel_rfl) ?_)))
    obtain ⟨n1, n2⟩ := rplus_in (s := m2) hn (by rw [hm2, hm1])
    exact K_famR (l := [5]) (fun j => cond (Nat.beq j 5) 51 (j)) ((i + 1, m2 / 65536, cs ++ [m2 % 65536])) ⟨(by dsimp only; exact ⟨hmore, n2, by rw [hcs]; exact n1⟩), (by dsimp only; omega)⟩ (SubR.int rfl (by first | omega | rfl | (dsimp only; omega)) (SubR.int rfl (by first | omega | rfl | (dsimp only; omega)) ((SubR.consI rfl (Imp.of (by dsimp only; rw [List.length_append]; rfl))) (SubR.cons rfl (SubR.cons rfl SubR.nil))))) ((SubKR.consI rfl (ImpK.of xh0.symm)) SubKR.nil) (SupG.val (SupG.val (SupG.own rfl (SupG.val (SupG.val SupG.nil))))) (SupH.cons rfl (supJ xc4) SupH.nil) (lkOk rfl) rfl rfl (fun _ h => by cases h)
 ·
  refine RGon (decide_eq_false h35) rfl x4 rfl ⟨rfl, trivial⟩ trivial trivial (RGon (decide_eq_false h35) rfl x4 rfl ⟨rfl, trivial⟩ trivial trivial (RGon (decide_eq_false h35) rfl (xc1 Tryz.underlying45) rfl ⟨rfl, trivial⟩ trivial trivial (RGon (decide_eq_false h35) rfl xd7 rfl ⟨rfl, rfl, trivial⟩ trivial trivial (R2 (xb4 (decide_eq_false h35)) rfl rfl (R1 x4 rfl ?_)))))
  refine RGcaseD (t := 18) rfl (fun h35_2 => ?_) (fun h35_2 => ?_)
  ·
   have hmore := rplus_more hn (.inr (.inl (by omega)))
   refine RGoff (decide_eq_true h35_2) rfl rfl (RGoff (decide_eq_true h35_2) rfl rfl (R2 (xb5 (decide_eq_true h35_2)) rfl rfl (x7 (by kernel_rfl) (x3 (C_bT rfl rfl (xa4 (x3 ?_)))))))
   refine x6 (xb3 ?_)
   refine xh1 (fun (m1 : Nat) => m1 = (n + a / 65536 ^ i % 65536)) (fun (m1 : Nat) => upd (upd (upd (upd (upd (fun _ => none) 0 (some (.val (tM a)))) 1 (some (.val (tM b)))) 5 (some (.own (.sl 5 1 0 cs.length)))) 7 (some (.val (tI i)))) 6 (some (.val (tI m1)))) (fun (m1 : Nat) => upd (fun _ => none) 5 (some (⟨166, 1, false, rW .u16 cs⟩))) (nm [5]) ?_ ?_
   ·
    refine x6 ?_
    refine x8 ?_
    refine R1 x4 rfl (R1 x4 rfl (R1 (xc1 Tryz.underlying45) rfl (R2 xd7 rfl rfl (x7 (by kernel_rfl) (x3 ?_)))))
    refine xb8 rfl (fun h36 => ?_) (fun h36 => ?_)
    ·
     refine x8 ?_
     refine R1 x4 rfl (R1 x4 rfl (R1 x4 rfl (R2 (xc3 sl45 (i) (by omega) (gN (by omega))) rfl rfl (R1 (xc7 ti166) rfl (R1 (xb0 Tryz.underlying3 (isS Tryz.underlying166) (wr64 (by omega) (by omega))) rfl (R2 (xc2 (r := ((n + (dig 65536 a).getD i 0 : Nat) : Int)) (by rw [wr64 (by omega) (by omega)]; omega)) rfl rfl (R1 x5 rfl ?_)))))))
     refine x7 (by kernel_rfl) ?_
     exact xc6 (n + (dig 65536 a).getD i 0) (by rw [xa]) (Sub.int rfl (by first | omega | rfl | (dsimp only; omega)) (Sub.int rfl (by first | omega | rfl | (dsimp only; omega)) (Sub.cons rfl (Sub.cons rfl (Sub.cons rfl Sub.nil))))) ((SubK.consI rfl ImpK.refl) SubK.nil) (SupG.val (SupG.val (SupG.own rfl (SupG.val (SupG.val SupG.nil))))) (SupH.cons rfl (supJ xc4) SupH.nil) (lkOk rfl)
    ·
     refine xa4 ?_
     exact xc6 (n) (by rw [dig_out xa9 (by omega), Nat.add_zero]) (Sub.int rfl (by first | omega | rfl | (dsimp only; omega)) (Sub.int rfl (by first | omega | rfl | (dsimp only; omega)) (Sub.cons rfl (Sub.cons rfl (Sub.cons rfl Sub.nil))))) ((SubK.consI rfl ImpK.refl) SubK.nil) (SupG.val (SupG.val (SupG.own rfl (SupG.val (SupG.val SupG.nil))))) (SupH.cons rfl (supJ xc4) SupH.nil) (lkOk rfl)
   ·
    intro m1 hm1
    refine xh1 (fun (m2 : Nat) => m2 = (m1 + b / 65536 ^ i % 65536)) (fun (m2 : Nat) => upd (upd (upd (upd (upd (fun _ => none) 0 (some (.val (tM a)))) 1 (some (.val (tM b)))) 5 (some (.own (.sl 5 1 0 cs.length)))) 7 (some (.val (tI i)))) 6 (some (.val (tI m2)))) (fun (m2 : Nat) => upd (fun _ => none) 5 (some (⟨166, 1, false, rW .u16 cs⟩))) (nm [5]) ?_ ?_
    ·
     refine x6 ?_
     refine x8 ?_
     refine R1 x4 rfl (R1 x4 rfl (R1 (xc1 Tryz.underlying45) rfl (R2 xd7 rfl rfl (x7 (by kernel_rfl) (x3 ?_)))))
     refine xb8 rfl (fun h39 => ?_) (fun h39 => ?_)
     ·
      refine x8 ?_
      refine R1 x4 rfl (R1 x4 rfl (R1 x4 rfl (R2 (xc3 sl45 (i) (by omega) (gN (by omega))) rfl rfl (R1 (xc7 ti166) rfl (R1 (xb0 Tryz.underlying3 (isS Tryz.underlying166) (wr64 (by omega) (by omega))) rfl (R2 (xc2 (r := ((m1 + (dig 65536 b).getD i 0 : Nat) : Int)) (by rw [wr64 (by omega) (by omega)]; omega)) rfl rfl (R1 x5 rfl ?_)))))))
      refine x7 (by kernel_rfl) ?_
      exact xc6 (m1 + (dig 65536 b).getD i 0) (by rw [xb]) (Sub.int rfl (by first | omega | rfl | (dsimp only; omega)) (Sub.int rfl (by first | omega | rfl | (dsimp only; omega)) (Sub.cons rfl (Sub.cons rfl (Sub.cons rfl Sub.nil))))) ((SubK.consI rfl ImpK.refl) SubK.nil) (SupG.val (SupG.val (SupG.own rfl (SupG.val (SupG.val SupG.nil))))) (SupH.cons rfl (supJ xc4) SupH.nil) (lkOk rfl)
     ·
      refine xa4 ?_
      exact xc6 (m1) (by rw [dig_out xa9 (by omega), Nat.add_zero]) (Sub.int rfl (by first | omega | rfl | (dsimp only; omega)) (Sub.int rfl (by first | omega | rfl | (dsimp only; omega)) (Sub.cons rfl (Sub.cons rfl (Sub.cons rfl Sub.nil))))) ((SubK.consI rfl ImpK.refl) SubK.nil) (SupG.val (SupG.val (SupG.own rfl (SupG.val (SupG.val SupG.nil))))) (SupH.cons rfl (supJ xc4) SupH.nil) (lkOk rfl)
    ·
     intro m2 hm2
     refine x6 ?_
     refine x8 ?_
     refine R1 x4 rfl (R1 x4 rfl (R2 (d_rem (r := ((m2 % 65536 : Nat) : Int)) (by decide) (wrem64 (b := 65536))) rfl rfl (R1 (xb0 Tryz.underlying166 (isS Tryz.underlying3) (wu16 (by omega) (by omega))) rfl (R1 (d_nums (n := 1) [m2 % 65536] Tryz.underlying45 el166 zf166 rfl rfl rfl) rfl (RE (xf4 (k := 5) (k' := 51) (ts' := rW .u16 (cs ++ [m2 % 65536])) Tryz.underlying45 el166 zf166 rfl rfl (fun _ => inferInstance) rW_len (by simp; omega) (by simp; omega) (by simp [rW]) (n' := cs.length + 1) rfl) ⟨rfl, rfl, trivial⟩ ⟨rfl, trivial⟩ ⟨rfl, trivial⟩ (R1 x5 rfl (x7 (by kernel_rfl) ?_)))))))
     refine x3 ?_
     refine x8 ?_
     refine R1 x4 rfl (R2 (d_quo (r := ((m2 / 65536 : Nat) : Int)) (by decide) (iquo64 (b := 65536) (by omega))) rfl rfl (R1 x5 rfl (x7 (by kernel_rfl) (xc8 (x3 ?_)))))
     refine x8 ?_
     refine R1 x4 rfl (R2 (xc2 (wr64 (by omega) (by omega))) rfl rfl (R1 x5 rfl (x7 (by kernel_rfl) ?_)))
     obtain ⟨n1, n2⟩ := rplus_in (s := m2) hn (by rw [hm2, hm1])
     exact K_famR (l := [5]) (fun j => cond (Nat.beq j 5) 51 (j)) ((i + 1, m2 / 65536, cs ++ [m2 % 65536])) ⟨(by dsimp only; exact ⟨hmore, n2, by rw [hcs]; exact n1⟩), (by dsimp only; omega)⟩ (SubR.int rfl (by first | omega | rfl | (dsimp only; omega)) (SubR.int rfl (by first | omega | rfl | (dsimp only; omega)) ((SubR.consI rfl (Imp.of (by dsimp only; rw [List.length_append]; rfl))) (SubR.cons rfl (SubR.cons rfl SubR.nil))))) ((SubKR.consI rfl (ImpK.of xh0.symm)) SubKR.nil) (SupG.val (SupG.val (SupG.own rfl (SupG.val (SupG.val SupG.nil))))) (SupH.cons rfl (supJ xc4) SupH.nil) (lkOk rfl) rfl rfl (fun _ h => by cases h)
  ·
   refine RGon (decide_eq_false h35_2) rfl x4 rfl ⟨rfl, trivial⟩ trivial trivial (RGon (decide_eq_false h35_2) rfl xg3 rfl ⟨rfl, rfl, trivial⟩ trivial trivial (R2 (xb4 (decide_eq_false h35_2)) rfl rfl (x7 (by kernel_rfl) (x3 ?_))))
   refine xb8 rfl (fun h35_3 => ?_) (fun h35_3 => ?_)
   ·
    have hmore := rplus_more hn (.inr (.inr (by omega)))
    refine xa4 (x3 (x6 (xb3 ?_)))
    refine xh1 (fun (m1 : Nat) => m1 = (n + a / 65536 ^ i % 65536)) (fun (m1 : Nat) => upd (upd (upd (upd (upd (fun _ => none) 0 (some (.val (tM a)))) 1 (some (.val (tM b)))) 5 (some (.own (.sl 5 1 0 cs.length)))) 7 (some (.val (tI i)))) 6 (some (.val (tI m1)))) (fun (m1 : Nat) => upd (fun _ => none) 5 (some (⟨166, 1, false, rW .u16 cs⟩))) (nm [5]) ?_ ?_
    ·
     refine x6 ?_
     refine x8 ?_
     refine R1 x4 rfl (R1 x4 rfl (R1 (xc1 Tryz.underlying45) rfl (R2 xd7 rfl rfl (x7 (by kernel_rfl) (x3 ?_)))))
     refine xb8 rfl (fun h36 => ?_) (fun h36 => ?_)
     ·
      refine x8 ?_
      refine R1 x4 rfl (R1 x4 rfl (R1 x4 rfl (R2 (xc3 sl45 (i) (by omega) (gN (by omega))) rfl rfl (R1 (xc7 ti166) rfl (R1 (xb0 Tryz.underlying3 (isS Tryz.underlying166) (wr64 (by omega) (by omega))) rfl (R2 (xc2 (r := ((n + (dig 65536 a).getD i 0 : Nat) : Int)) (by rw [wr64 (by omega) (by omega)]; omega)) rfl rfl (R1 x5 rfl ?_)))))))
      refine x7 (by kernel_rfl) ?_
      exact xc6 (n + (dig 65536 a).getD i 0) (by rw [xa]) (Sub.int rfl (by first | omega | rfl | (dsimp only; omega)) (Sub.int rfl (by first | omega | rfl | (dsimp only; omega)) (Sub.cons rfl (Sub.cons rfl (Sub.cons rfl Sub.nil))))) ((SubK.consI rfl ImpK.refl) SubK.nil) (SupG.val (SupG.val (SupG.own rfl (SupG.val (SupG.val SupG.nil))))) (SupH.cons rfl (supJ xc4) SupH.nil) (lkOk rfl)
     ·
      refine xa4 ?_
      exact xc6 (n) (by rw [dig_out xa9 (by omega), Nat.add_zero]) (Sub.int rfl (by first | omega | rfl | (dsimp only; omega)) (Sub.int rfl (by first | omega | rfl | (dsimp only; omega)) (Sub.cons rfl (Sub.cons rfl (Sub.cons rfl Sub.nil))))) ((SubK.consI rfl ImpK.refl) SubK.nil) (SupG.val (SupG.val (SupG.own rfl (SupG.val (SupG.val SupG.nil))))) (SupH.cons rfl (supJ xc4) SupH.nil) (lkOk rfl)
    ·
     intro m1 hm1
     refine xh1 (fun (m2 : Nat) => m2 = (m1 + b / 65536 ^ i % 65536)) (fun (m2 : Nat) => upd (upd (upd (upd (upd (fun _ => none) 0 (some (.val (tM a)))) 1 (some (.val (tM b)))) 5 (some (.own (.sl 5 1 0 cs.length)))) 7 (some (.val (tI i)))) 6 (some (.val (tI m2)))) (fun (m2 : Nat) => upd (fun _ => none) 5 (some (⟨166, 1, false, rW .u16 cs⟩))) (nm [5]) ?_ ?_
     ·
      refine x6 ?_
      refine x8 ?_
      refine R1 x4 rfl (R1 x4 rfl (R1 (xc1 Tryz.underlying45) rfl (R2 xd7 rfl rfl (x7 (by kernel_rfl) (x3 ?_)))))
      refine xb8 rfl (fun h39 => ?_) (fun h39 => ?_)
      ·
       refine x8 ?_
       refine R1 x4 rfl (R1 x4 rfl (R1 x4 rfl (R2 (xc3 sl45 (i) (by omega) (gN (by omega))) rfl rfl (R1 (xc7 ti166) rfl (R1 (xb0 Tryz.underlying3 (isS Tryz.underlying166) (wr64 (by omega) (by omega))) rfl (R2 (xc2 (r := ((m1 + (dig 65536 b).getD i 0 : Nat) : Int)) (by rw [wr64 (by omega) (by omega)]; omega)) rfl rfl (R1 x5 rfl ?_)))))))
       refine x7 (by kernel_rfl) ?_
       exact xc6 (m1 + (dig 65536 b).getD i 0) (by rw [xb]) (Sub.int rfl (by first | omega | rfl | (dsimp only; omega)) (Sub.int rfl (by first | omega | rfl | (dsimp only; omega)) (Sub.cons rfl (Sub.cons rfl (Sub.cons rfl Sub.nil))))) ((SubK.consI rfl ImpK.refl) SubK.nil) (SupG.val (SupG.val (SupG.own rfl (SupG.val (SupG.val SupG.nil))))) (SupH.cons rfl (supJ xc4) SupH.nil) (lkOk rfl)
      ·
       refine xa4 ?_
       exact xc6 (m1) (by rw [dig_out xa9 (by omega), Nat.add_zero]) (Sub.int rfl (by first | omega | rfl | (dsimp only; omega)) (Sub.int rfl (by first | omega | rfl | (dsimp only; omega)) (Sub.cons rfl (Sub.cons rfl (Sub.cons rfl Sub.nil))))) ((SubK.consI rfl ImpK.refl) SubK.nil) (SupG.val (SupG.val (SupG.own rfl (SupG.val (SupG.val SupG.nil))))) (SupH.cons rfl (supJ xc4) SupH.nil) (lkOk rfl)
     ·
      intro m2 hm2
      refine x6 ?_
      refine x8 ?_
      refine R1 x4 rfl (R1 x4 rfl (R2 (d_rem (r := ((m2 % 65536 : Nat) : Int)) (by decide) (wrem64 (b := 65536))) rfl rfl (R1 (xb0 Tryz.underlying166 (isS Tryz.underlying3) (wu16 (by omega) (by omega))) rfl (R1 (d_nums (n := 1) [m2 % 65536] Tryz.underlying45 el166 zf166 rfl rfl rfl) rfl (RE (xf4 (k := 5) (k' := 51) (ts' := rW .u16 (cs ++ [m2 % 65536])) Tryz.underlying45 el166 zf166 rfl rfl (fun _ => inferInstance) rW_len (by simp; omega) (by simp; omega) (by simp [rW]) (n' := cs.length + 1) rfl) ⟨rfl, rfl, trivial⟩ ⟨rfl, trivial⟩ ⟨rfl, trivial⟩ (R1 x5 rfl (x7 (by kernel_rfl) ?_)))))))
      refine x3 ?_
      refine x8 ?_
      refine R1 x4 rfl (R2 (d_quo (r := ((m2 / 65536 : Nat) : Int)) (by decide) (iquo64 (b := 65536) (by omega))) rfl rfl (R1 x5 rfl (x7 (by kernel_rfl) (xc8 (x3 ?_)))))
      refine x8 ?_
      refine R1 x4 rfl (R2 (xc2 (wr64 (by omega) (by omega))) rfl rfl (R1 x5 rfl (x7 (by kernel_rfl) ?_)))
      obtain ⟨n1, n2⟩ := rplus_in (s := m2) hn (by rw [hm2, hm1])
      exact K_famR (l := [5]) (fun j => cond (Nat.beq j 5) 51 (j)) ((i + 1, m2 / 65536, cs ++ [m2 % 65536])) ⟨(by dsimp only; exact ⟨hmore, n2, by rw [hcs]; exact n1⟩), (by dsimp only; omega)⟩ (SubR.int rfl (by first | omega | rfl | (dsimp only; omega)) (SubR.int rfl (by first | omega | rfl | (dsimp only; omega)) ((SubR.consI rfl (Imp.of (by dsimp only; rw [List.length_append]; rfl))) (SubR.cons rfl (SubR.cons rfl SubR.nil))))) ((SubKR.consI rfl (ImpK.of xh0.symm)) SubKR.nil) (SupG.val (SupG.val (SupG.own rfl (SupG.val (SupG.val SupG.nil))))) (SupH.cons rfl (supJ xc4) SupH.nil) (lkOk rfl) rfl rfl (fun _ h => by cases h)
   ·
    refine xd4 (xc0 (xc0 (xe2 (x3 (x6 ?_)))))
    refine x8 ?_
    refine RE (xh9 (f := fun n : Nat => tE (.int .u16 n)) (xs := cs) (fun _ h => h) (rW_all rfl) rfl) ⟨rfl, trivial⟩ ⟨rfl, trivial⟩ trivial (R1 x5 rfl (x7 (by kernel_rfl) (x3 (xa2 ?_))))
    exact xa8 Plain.mk' rfl rfl (Le.of (congrArg tLm (by rw [hcs, rplus_end hn (by omega) (by omega) (by omega) hi])))
end An.S

/- The reference of layer 1: differences, halves, quotients. -/
namespace An.S
open Go Go.Proofs An
set_option maxHeartbeats 2000000
theorem fi126 : FnI Tryz.prog 126 := ⟨_, Tryz.func126, by kernel_rfl, rfl⟩
theorem c_RMinus (a b : Nat) (hab : b ≤ a) (ha : (dig 65536 a).length ≤ 100000) :
  Ct Tryz.prog 135 [tM a, tM b] (tM (a - b)) := by
 refine Ct.intro Tryz.func135 rfl Tryz.ntmps135 rfl ?_
 intro w F
 refine x6 ?_
 refine x8 ?_
 refine R1 x5 rfl (x7 (by kernel_rfl) (x3 (x6 ?_)))
 refine x8 ?_
 refine RE (xi1 (k := 5) 166 1 false rfl (fun _ => rfl)) trivial trivial ⟨rfl, trivial⟩ (x7 (by kernel_rfl) (x3 (x6 ?_)))
 refine x8 ?_
 refine R1 x5 rfl (x7 (by kernel_rfl) (x3 (x6 (x6 ?_))))
 refine x8 ?_
 refine R1 x5 rfl (x7 (by kernel_rfl) (x3 (xb3 ?_)))
 refine xd9 (fun (fm : (Nat) × (Nat) × (List Nat)) => (fun (i : Nat) (br : Nat) (cs : List Nat) => i ≤ (dig 65536 a).length ∧ cs.length = i ∧ Dig 65536 cs ∧ val 65536 cs + b % 65536 ^ i = a % 65536 ^ i + br * 65536 ^ i ∧ br ≤ 1) fm.1 fm.2.1 fm.2.2) (fun (fm : (Nat) × (Nat) × (List Nat)) => (fun (i : Nat) (br : Nat) (cs : List Nat) => upd (upd (upd (upd (upd (fun _ => none) 0 (some (.val (tM a)))) 1 (some (.val (tM b)))) 5 (some (.own (.sl 5 1 0 cs.length)))) 6 (some (.val (tI br)))) 7 (some (.val (tI i)))) fm.1 fm.2.1 fm.2.2) (fun (fm : (Nat) × (Nat) × (List Nat)) => (fun (i : Nat) (br : Nat) (cs : List Nat) => upd (fun _ => none) 5 (some (⟨166, 1, false, rW .u16 cs⟩))) fm.1 fm.2.1 fm.2.2) (nm [5]) (fun (fm : (Nat) × (Nat) × (List Nat)) => (fun (i : Nat) (br : Nat) (cs : List Nat) => (dig 65536 a).length - i) fm.1 fm.2.1 fm.2.2) ((0, 0, [])) (by dsimp only; exact ⟨Nat.zero_le _, rfl, Dig.nil _, by simp [val, Nat.mod_one], by omega⟩) (Sub.int rfl (by first | omega | rfl | (dsimp only; omega)) (Sub.int rfl (by first | omega | rfl | (dsimp only; omega)) (Sub.cons rfl (Sub.cons rfl (Sub.cons rfl Sub.nil))))) ((SubK.consI rfl ImpK.refl) SubK.nil) (SupG.val (SupG.val (SupG.own rfl (SupG.val (SupG.val SupG.nil))))) (SupH.cons rfl (supJ xc4) SupH.nil) (lkOk rfl) ?_
 intro fm hI
 obtain ⟨i, br, cs⟩ := fm
 replace hI : i ≤ (dig 65536 a).length ∧ cs.length = i ∧ Dig 65536 cs ∧ val 65536 cs + b % 65536 ^ i = a % 65536 ^ i + br * 65536 ^ i ∧ br ≤ 1 := hI
 show wc _ _ _ _ (upd (upd (upd (upd (upd (fun _ => none) 0 (some (.val (tM a)))) 1 (some (.val (tM b)))) 5 (some (.own (.sl 5 1 0 cs.length)))) 6 (some (.val (tI br)))) 7 (some (.val (tI i)))) (upd (fun _ => none) 5 (some (⟨166, 1, false, rW .u16 cs⟩))) _
 obtain ⟨hi, hl, hD, hv, hbr⟩ := hI
 have xa := xe6 xa9 a i
 have xb := xe6 xa9 b i
 have xa1 := (xe4 xa9 a).getD (by decide) i
 have xb1 := (xe4 xa9 b).getD (by decide) i
 refine x6 (x6 ?_)
 refine x8 ?_
 refine R1 x4 rfl (R1 x4 rfl (R1 (xc1 Tryz.underlying45) rfl (R2 xd7 rfl rfl (x7 (by kernel_rfl) (x3 ?_)))))
 refine xb8 rfl (fun h52 => ?_) (fun h52 => ?_)
 ·
  refine xa4 (x3 (x6 (xb3 (x6 ?_))))
  refine x8 ?_
  refine R1 x4 rfl (R1 x4 rfl (R2 (xc3 sl45 (i) (by omega) (gN (by omega))) rfl rfl (R1 (xc7 ti166) rfl (R1 (xb0 Tryz.underlying3 (isS Tryz.underlying166) (wr64 (by omega) (by omega))) rfl (R2 (xc2 (r := ((65536 + ((dig 65536 a).getD i 0) : Nat) : Int)) (by rw [wr64 (by omega) (by omega)]; omega)) rfl rfl (R1 x4 rfl (R2 (xe1 (r := ((65536 + ((dig 65536 a).getD i 0) - br : Nat) : Int)) (by rw [wr64 (by omega) (by omega)]; omega)) rfl rfl ?_)))))))
  refine R1 x5 rfl (x7 (by kernel_rfl) (x3 ?_))
  refine xh1 (fun (m : Nat) => m + br + b / 65536 ^ i % 65536 = 65536 + a / 65536 ^ i % 65536) (fun (m : Nat) => upd (upd (upd (upd (upd (upd (fun _ => none) 0 (some (.val (tM a)))) 1 (some (.val (tM b)))) 5 (some (.own (.sl 5 1 0 cs.length)))) 6 (some (.val (tI br)))) 7 (some (.val (tI i)))) 8 (some (.val (tI m)))) (fun (m : Nat) => upd (fun _ => none) 5 (some (⟨166, 1, false, rW .u16 cs⟩))) (nm [5]) ?_ ?_
  ·
   refine x6 ?_
   refine x8 ?_
   refine R1 x4 rfl (R1 x4 rfl (R1 (xc1 Tryz.underlying45) rfl (R2 xd7 rfl rfl (x7 (by kernel_rfl) (x3 ?_)))))
   refine xb8 rfl (fun h54 => ?_) (fun h54 => ?_)
   ·
    refine x8 ?_
    refine R1 x4 rfl (R1 x4 rfl (R1 x4 rfl (R2 (xc3 sl45 (i) (by omega) (gN (by omega))) rfl rfl (R1 (xc7 ti166) rfl (R1 (xb0 Tryz.underlying3 (isS Tryz.underlying166) (wr64 (by omega) (by omega))) rfl (R2 (xe1 (r := ((65536 + ((dig 65536 a).getD i 0) - br - ((dig 65536 b).getD i 0) : Nat) : Int)) (by rw [wr64 (by omega) (by omega)]; omega)) rfl rfl (R1 x5 rfl ?_)))))))
    refine x7 (by kernel_rfl) ?_
    exact xc6 (65536 + ((dig 65536 a).getD i 0) - br - ((dig 65536 b).getD i 0)) (by omega) (Sub.int rfl (by first | omega | rfl | (dsimp only; omega)) (Sub.int rfl (by first | omega | rfl | (dsimp only; omega)) (Sub.int rfl (by first | omega | rfl | (dsimp only; omega)) (Sub.cons rfl (Sub.cons rfl (Sub.cons rfl Sub.nil)))))) ((SubK.consI rfl ImpK.refl) SubK.nil) (SupG.val (SupG.val (SupG.val (SupG.own rfl (SupG.val (SupG.val SupG.nil)))))) (SupH.cons rfl (supJ xc4) SupH.nil) (lkOk rfl)
   ·
    refine xa4 ?_
    exact xc6 (65536 + ((dig 65536 a).getD i 0) - br) (by rw [dig_out xa9 (v := b) (i := i) (by omega)]; omega) (Sub.int rfl (by first | omega | rfl | (dsimp only; omega)) (Sub.int rfl (by first | omega | rfl | (dsimp only; omega)) (Sub.int rfl (by first | omega | rfl | (dsimp only; omega)) (Sub.cons rfl (Sub.cons rfl (Sub.cons rfl Sub.nil)))))) ((SubK.consI rfl ImpK.refl) SubK.nil) (SupG.val (SupG.val (SupG.val (SupG.own rfl (SupG.val (SupG.val SupG.nil)))))) (SupH.cons rfl (supJ xc4) SupH.nil) (lkOk rfl)
  ·
   intro m hm
   refine x6 ?_
   refine x8 ?_
   refine R1 x4 rfl (R1 x4 rfl (R2 (d_rem (r := ((m % 65536 : Nat) : Int)) (by decide) (wrem64 (b := 65536))) rfl rfl (R1 (xb0 Tryz.underlying166 (isS Tryz.underlying3) (wu16 (by omega) (by omega))) rfl (R1 (d_nums (n := 1) [m % 65536] Tryz.underlying45 el166 zf166 rfl rfl rfl) rfl (RE (xf4 (k := 5) (k' := 39) (ts' := rW .u16 (cs ++ [m % 65536])) Tryz.underlying45 el166 zf166 rfl rfl (fun _ => inferInstance) rW_len (by simp; omega) (by simp; omega) (by simp [rW]) (n' := cs.length + 1) rfl) ⟨rfl, rfl, trivial⟩ ⟨rfl, trivial⟩ ⟨rfl, trivial⟩ (R1 x5 rfl (x7 (by kernel_rfl) ?_)))))))
   refine x3 ?_
   refine x8 ?_
   refine R1 x4 rfl (R2 (d_quo (r := ((m / 65536 : Nat) : Int)) (by decide) (iquo64 (b := 65536) (by omega))) rfl rfl (R2 (xe1 (r := ((1 - m / 65536 : Nat) : Int)) (by rw [wr64 (by omega) (by omega)]; omega)) rfl rfl (R1 x5 rfl (x7 (by kernel_rfl) (xc8 (x3 ?_))))))
   refine x8 ?_
   refine R1 x4 rfl (R2 (xc2 (wr64 (by omega) (by omega))) rfl rfl (R1 x5 rfl (x7 (by kernel_rfl) ?_)))
   obtain ⟨n1, n2, n3⟩ := rminus_in hl hv hbr hm
   exact K_famR (l := [5]) (fun j => cond (Nat.beq j 5) 39 (j)) ((i + 1, 1 - m / 65536, cs ++ [m % 65536])) ⟨(by dsimp only; exact ⟨by omega, by rw [List.length_append, hl]; rfl, hD.append (Dig.cons (Nat.mod_lt _ (by decide)) (Dig.nil _)), n1, n3⟩), (by dsimp only; omega)⟩ (SubR.int rfl (by first | omega | rfl | (dsimp only; omega)) (SubR.int rfl (by first | omega | rfl | (dsimp only; omega)) ((SubR.consI rfl (Imp.of (by dsimp only; rw [List.length_append]; rfl))) (SubR.cons rfl (SubR.cons rfl SubR.nil))))) ((SubKR.consI rfl (ImpK.of xh0.symm)) SubKR.nil) (SupG.val (SupG.val (SupG.own rfl (SupG.val (SupG.val SupG.nil))))) (SupH.cons rfl (supJ xc4) SupH.nil) (lkOk rfl) rfl rfl (fun _ h => by cases h)
 ·
  refine xd4 (xc0 (xc0 (xe2 (x3 (x6 ?_)))))
  refine x8 ?_
  refine RE (xh9 (f := fun n : Nat => tE (.int .u16 n)) (xs := cs) (fun _ h => h) (rW_all rfl) rfl) ⟨rfl, trivial⟩ ⟨rfl, trivial⟩ trivial (R1 (xa0 (c_RTrim _) fi181 rfl) rfl (R1 x5 rfl (x7 (by kernel_rfl) (x3 (xa2 ?_)))))
  exact xa8 Plain.mk' rfl rfl (Le.of (congrArg tLm (by rw [show i = (dig 65536 a).length by omega] at hv hl; exact rminus_end hl hD (xg9 xa9 a) hab hv)))
theorem c_RHalf (a : Nat) (ha : (dig 65536 a).length ≤ 200000) :
  Ct Tryz.prog 173 [tM a] (tM (a / 2)) := by
 refine Ct.intro Tryz.func173 rfl Tryz.ntmps173 rfl ?_
 intro w F
 refine x6 ?_
 refine x8 ?_
 refine R1 x5 rfl (x7 (by kernel_rfl) (x3 (x6 ?_)))
 refine x8 ?_
 refine R1 x4 rfl (R1 (xc1 Tryz.underlying45) rfl (RE (d_makeO (k := 8) (t := tE (.int .u16 0)) (ts := rW .u16 (List.replicate ((dig 65536 a).length) 0)) ((dig 65536 a).length) ((dig 65536 a).length) Tryz.underlying45 el166 (fun _ _ => rfl) rfl (by omega) (by omega) (Nat.le_refl _) (by omega) (by omega) (rW_rep _)) ⟨rfl, rfl, trivial⟩ trivial ⟨rfl, trivial⟩ (R1 x5 rfl (x7 (by kernel_rfl) (x3 (x6 ?_))))))
 refine x8 ?_
 refine R1 x5 rfl (x7 (by kernel_rfl) (x3 (x6 (x6 ?_))))
 refine x8 ?_
 refine R1 x4 rfl (R1 (xc1 Tryz.underlying45) rfl (R2 (xe1 (wr64 (by omega) (by omega))) rfl rfl (R1 x5 rfl (x7 (by kernel_rfl) (x3 (xb3 ?_))))))
 refine xd9 (fun (fm : (Nat) × (Nat) × (List Nat)) => (fun (k : Nat) (n : Nat) (qs : List Nat) => k ≤ (dig 65536 a).length ∧ qs.length = (dig 65536 a).length ∧ Dig 65536 qs ∧ n % 2 = a / 65536 ^ k % 2 ∧ val 65536 (qs.drop k) = a / 65536 ^ k / 2) fm.1 fm.2.1 fm.2.2) (fun (fm : (Nat) × (Nat) × (List Nat)) => (fun (k : Nat) (n : Nat) (qs : List Nat) => upd (upd (upd (upd (fun _ => none) 0 (some (.val (tM a)))) 3 (some (.own (.sl 8 1 0 (dig 65536 a).length)))) 4 (some (.val (tI n)))) 5 (some (.val (tI ((k : Int) - 1))))) fm.1 fm.2.1 fm.2.2) (fun (fm : (Nat) × (Nat) × (List Nat)) => (fun (k : Nat) (n : Nat) (qs : List Nat) => upd (fun _ => none) 8 (some (⟨166, 1, false, rW .u16 qs⟩))) fm.1 fm.2.1 fm.2.2) (nm [8]) (fun (fm : (Nat) × (Nat) × (List Nat)) => (fun (k : Nat) (n : Nat) (qs : List Nat) => k) fm.1 fm.2.1 fm.2.2) (((dig 65536 a).length, 0, List.replicate (dig 65536 a).length 0)) (by dsimp only; exact ⟨Nat.le_refl _, by simp, Dig.rep (by decide) _, by rw [Nat.div_eq_of_lt (xg9 xa9 a)], by rw [Nat.div_eq_of_lt (xg9 xa9 a), Nat.zero_div, List.drop_replicate, xg7]⟩) (Sub.int rfl (by first | omega | rfl | (dsimp only; omega)) (Sub.int rfl (by first | omega | rfl | (dsimp only; omega)) (Sub.cons rfl (Sub.cons rfl Sub.nil)))) ((SubK.consI rfl ImpK.refl) SubK.nil) (SupG.val (SupG.val (SupG.own rfl (SupG.val SupG.nil)))) (SupH.cons rfl (supJ xc4) SupH.nil) (lkOk rfl) ?_
 intro fm hI
 obtain ⟨k, n, qs⟩ := fm
 replace hI : k ≤ (dig 65536 a).length ∧ qs.length = (dig 65536 a).length ∧ Dig 65536 qs ∧ n % 2 = a / 65536 ^ k % 2 ∧ val 65536 (qs.drop k) = a / 65536 ^ k / 2 := hI
 show wc _ _ _ _ (upd (upd (upd (upd (fun _ => none) 0 (some (.val (tM a)))) 3 (some (.own (.sl 8 1 0 (dig 65536 a).length)))) 4 (some (.val (tI n)))) 5 (some (.val (tI ((k : Int) - 1))))) (upd (fun _ => none) 8 (some (⟨166, 1, false, rW .u16 qs⟩))) _
 obtain ⟨hk, hl, hD, hn, hv⟩ := hI
 refine x6 (x6 ?_)
 refine x8 ?_
 refine R1 x4 rfl (R2 d_geq rfl rfl (x7 (by kernel_rfl) (x3 ?_)))
 refine xb8 rfl (fun h82 => ?_) (fun h82 => ?_)
 ·
  obtain ⟨j, rfl⟩ : ∃ j, k = j + 1 := ⟨k - 1, by omega⟩
  have hx := xe6 xa9 a j
  have hx1 := (xe4 xa9 a).getD (by decide) j
  obtain ⟨n1, n2, n3, n4, n5⟩ := half_in (k := j) (by omega) hl hD hn hv rfl
  rw [← hx] at n1 n2 n3 n4 n5
  refine xa4 (x3 (x6 (xb3 (x6 ?_))))
  refine x8 ?_
  refine R1 x4 rfl (R2 (d_rem (r := ((n % 2 : Nat) : Int)) (by decide) (wrem64 (b := 2))) rfl rfl (R2 (d_mul (r := ((n % 2 * 65536 : Nat) : Int)) (by rw [wr64 (by omega) (by omega)]; omega)) rfl rfl (R1 x4 rfl (R1 x4 rfl (R2 (xc3 sl45 (j) (by omega) (gN (by omega))) rfl rfl (R1 (xc7 ti166) rfl (R1 (xb0 Tryz.underlying3 (isS Tryz.underlying166) (wr64 (by omega) (by omega))) rfl ?_)))))))
  refine R2 (xc2 (r := (((n % 2 * 65536 + (dig 65536 a).getD j 0) : Nat) : Int)) (by rw [wr64 (by omega) (by omega)]; omega)) rfl rfl (R1 x5 rfl (x7 (by kernel_rfl) (x3 ?_)))
  refine x8 ?_
  refine R1 x4 rfl (R1 x4 rfl (R1 x4 rfl (R2 (d_quo (r := (((n % 2 * 65536 + (dig 65536 a).getD j 0) / 2 : Nat) : Int)) (by decide) (iquo64 (b := 2) (by omega))) rfl rfl (R1 (xb0 Tryz.underlying166 (isS Tryz.underlying3) (wu16 (by omega) (by omega))) rfl (R2 (xd5 sl45 (by omega) (by omega) rfl) rfl rfl (RE (xa6 (j) ti166 (rW_lt (by omega)) (by omega) (rW_set (m := _) rfl)) ⟨rfl, rfl, trivial⟩ ⟨rfl, trivial⟩ trivial (x7 (by kernel_rfl) ?_)))))))
  refine xc8 (x3 ?_)
  refine x8 ?_
  refine R1 x4 rfl (R2 (xe1 (wr64 (by omega) (by omega))) rfl rfl (R1 x5 rfl (x7 (by kernel_rfl) ?_)))
  exact xc6 ((j, (n % 2 * 65536 + (dig 65536 a).getD j 0), qs.set j ((n % 2 * 65536 + (dig 65536 a).getD j 0) / 2))) ⟨(by dsimp only; exact ⟨by omega, n1, n2, n3, n4⟩), (by dsimp only; omega)⟩ (Sub.int rfl (by first | omega | rfl | (dsimp only; omega)) (Sub.int rfl (by first | omega | rfl | (dsimp only; omega)) (Sub.cons rfl (Sub.cons rfl Sub.nil)))) ((SubK.consI rfl ImpK.refl) SubK.nil) (SupG.val (SupG.val (SupG.own rfl (SupG.val SupG.nil)))) (SupH.cons rfl (supJ xc4) SupH.nil) (lkOk rfl)
 ·
  have hk0 : k = 0 := by omega
  subst hk0
  rw [List.drop_zero, Nat.pow_zero, Nat.div_one] at hv
  refine xd4 (xc0 (xc0 (xe2 (x3 (x6 ?_)))))
  refine x8 ?_
  refine RE (xh9 (f := fun n : Nat => tE (.int .u16 n)) (xs := qs) (fun _ h => h) (rW_all hl) hl) ⟨rfl, trivial⟩ ⟨rfl, trivial⟩ trivial (R1 (xa0 (c_RTrim _) fi181 rfl) rfl (R1 x5 rfl (x7 (by kernel_rfl) (x3 (xa2 ?_)))))
  exact xa8 Plain.mk' rfl rfl (Le.of (congrArg tLm (by rw [xf7 xa9 hD, hv])))
theorem c_RFromInt (n : Int) (h1 : -9223372036854775808 ≤ n) (h2 : n ≤ 9223372036854775807) :
  Ct Tryz.prog 77 [tI n] (tWh (wh n)) := by
 refine Ct.intro Tryz.func77 rfl Tryz.ntmps77 rfl ?_
 intro w F
 refine x6 ?_
 refine x8 ?_
 refine RE (xb9 (k := 2) (n := 2) (agg := true) zr47.1 zr47.2 rfl) trivial trivial ⟨rfl, trivial⟩ (x7 (by kernel_rfl) (x3 (x6 ?_)))
 refine x8 ?_
 refine R1 x4 rfl (R1 (xb0 Tryz.underlying142 (isS Tryz.underlying3) toU64) rfl (R1 x5 rfl (x7 (by kernel_rfl) (x3 ?_))))
 refine xh1 (fun (v : Nat) => v = n.natAbs) (fun (v : Nat) => upd (upd (upd (fun _ => none) 0 (some (.val (tI n)))) 2 (some (.own (.ptr 2 0)))) 3 (some (.val (tE (.int .u64 ((v : Nat) : Int)))))) (fun (v : Nat) => upd (fun _ => none) 2 (some (⟨47, 2, true, [.val (tWh ⟨false, []⟩)]⟩))) (nm [2]) ?_ ?_
 ·
  refine x6 ?_
  refine x8 ?_
  refine R1 x4 rfl (R2 xd7 rfl rfl (x7 (by kernel_rfl) (x3 ?_)))
  refine xb8 rfl (fun h164 => ?_) (fun h164 => ?_)
  ·
   refine x8 ?_
   refine R1 x4 rfl (R1 (d_neg (negU64 (by omega))) rfl (R1 x5 rfl (x7 (by kernel_rfl) ?_)))
   exact xc6 ((18446744073709551616 - (n % 18446744073709551616).toNat) % 18446744073709551616) (by omega) (Sub.int rfl (by first | omega | rfl | (dsimp only; omega)) (Sub.cons rfl (Sub.int rfl (by first | omega | rfl | (dsimp only; omega)) Sub.nil))) ((SubK.consI rfl ImpK.refl) SubK.nil) (SupG.val (SupG.own rfl (SupG.val SupG.nil))) (SupH.cons rfl (supJL rfl) SupH.nil) (lkOk rfl)
  ·
   refine xa4 ?_
   exact xc6 ((n % 18446744073709551616).toNat) (by omega) (Sub.int rfl (by first | omega | rfl | (dsimp only; omega)) (Sub.cons rfl (Sub.int rfl (by first | omega | rfl | (dsimp only; omega)) Sub.nil))) ((SubK.consI rfl ImpK.refl) SubK.nil) (SupG.val (SupG.own rfl (SupG.val SupG.nil))) (SupH.cons rfl (supJL rfl) SupH.nil) (lkOk rfl)
 ·
  intro v hv
  have hvl := wh_len v (by omega)
  refine x6 ?_
  refine x8 ?_
  refine RE (xi1 (k := 4) 166 1 false rfl (fun _ => rfl)) trivial trivial ⟨rfl, trivial⟩ (x7 (by kernel_rfl) (x3 (x6 (xb3 ?_))))
  refine xd9 (fun (fm : (Nat) × (Nat) × (List Nat)) => (fun (i : Nat) (u : Nat) (cs : List Nat) => i ≤ (dig 65536 v).length ∧ u = v / 65536 ^ i ∧ cs = dgs 65536 i v ∧ u < 18446744073709551616) fm.1 fm.2.1 fm.2.2) (fun (fm : (Nat) × (Nat) × (List Nat)) => (fun (i : Nat) (u : Nat) (cs : List Nat) => upd (upd (upd (upd (fun _ => none) 0 (some (.val (tI n)))) 2 (some (.own (.ptr 2 0)))) 3 (some (.val (tE (.int .u64 ((u : Nat) : Int)))))) 4 (some (.own (.sl 4 1 0 cs.length)))) fm.1 fm.2.1 fm.2.2) (fun (fm : (Nat) × (Nat) × (List Nat)) => (fun (i : Nat) (u : Nat) (cs : List Nat) => upd (upd (fun _ => none) 2 (some (⟨47, 2, true, [.val (tWh ⟨false, []⟩)]⟩))) 4 (some (⟨166, 1, false, rW .u16 cs⟩))) fm.1 fm.2.1 fm.2.2) (nm [2, 4]) (fun (fm : (Nat) × (Nat) × (List Nat)) => (fun (i : Nat) (u : Nat) (cs : List Nat) => u) fm.1 fm.2.1 fm.2.2) ((0, v, [])) (by dsimp only; exact ⟨Nat.zero_le _, by simp, rfl, by omega⟩) (Sub.cons rfl (Sub.int rfl (by first | omega | rfl | (dsimp only; omega)) (Sub.cons rfl (Sub.int rfl (by first | omega | rfl | (dsimp only; omega)) Sub.nil)))) ((SubK.consI rfl ImpK.refl) ((SubK.consI rfl ImpK.refl) SubK.nil)) (SupG.own rfl (SupG.val (SupG.own rfl (SupG.val SupG.nil)))) (SupH.cons rfl (supJ xc4) (SupH.cons rfl (supJL rfl) SupH.nil)) (lkOk rfl) ?_
  intro fm hI
  obtain ⟨i, u, cs⟩ := fm
  replace hI : i ≤ (dig 65536 v).length ∧ u = v / 65536 ^ i ∧ cs = dgs 65536 i v ∧ u < 18446744073709551616 := hI
  show wc _ _ _ _ (upd (upd (upd (upd (fun _ => none) 0 (some (.val (tI n)))) 2 (some (.own (.ptr 2 0)))) 3 (some (.val (tE (.int .u64 ((u : Nat) : Int)))))) 4 (some (.own (.sl 4 1 0 cs.length)))) (upd (upd (fun _ => none) 2 (some (⟨47, 2, true, [.val (tWh ⟨false, []⟩)]⟩))) 4 (some (⟨166, 1, false, rW .u16 cs⟩))) _
  obtain ⟨hi, hu, hcs, hu64⟩ := hI
  have hcl : cs.length = i := by rw [hcs, xg6]
  refine x6 (x6 ?_)
  refine x8 ?_
  refine R1 x4 rfl (R2 xg3 rfl rfl (x7 (by kernel_rfl) (x3 ?_)))
  refine xb8 rfl (fun h168 => ?_) (fun h168 => ?_)
  ·
   refine xa4 (x3 (xb3 (x6 ?_)))
   refine x8 ?_
   refine R1 x4 rfl (R1 x4 rfl (R2 (d_rem (r := ((u % 65536 : Nat) : Int)) (by decide) (wrem64 (b := 65536))) rfl rfl (R1 (xb0 Tryz.underlying166 (isS Tryz.underlying142) (wu16 (by omega) (by omega))) rfl (R1 (d_nums (n := 1) [u % 65536] Tryz.underlying45 el166 zf166 rfl rfl rfl) rfl (RE (xf4 (k := 4) (k' := 18) (ts' := rW .u16 (cs ++ [u % 65536])) Tryz.underlying45 el166 zf166 rfl rfl (fun _ => inferInstance) rW_len (by simp; omega) (by simp; omega) (by simp [rW]) (n' := cs.length + 1) rfl) ⟨rfl, rfl, trivial⟩ ⟨rfl, trivial⟩ ⟨rfl, trivial⟩ (R1 x5 rfl (x7 (by kernel_rfl) ?_)))))))
   refine x3 ?_
   refine x8 ?_
   refine R1 x4 rfl (R2 (d_quo (r := ((u / 65536 : Nat) : Int)) (by decide) (wquo64 (b := 65536) (by omega))) rfl rfl (R1 x5 rfl (x7 (by kernel_rfl) (xc8 ?_))))
   obtain ⟨n1, n2, n3⟩ := from_more hu (by omega)
   exact K_famR (l := [2, 4]) (fun j => cond (Nat.beq j 4) 18 (j)) ((i + 1, u / 65536, cs ++ [u % 65536])) ⟨(by dsimp only; exact ⟨n1, n2, by rw [hcs]; exact n3, by omega⟩), (by dsimp only; omega)⟩ ((SubR.consI rfl (Imp.of (by dsimp only; rw [List.length_append]; rfl))) (SubR.int rfl (by first | omega | rfl | (dsimp only; omega)) (SubR.cons rfl (SubR.int rfl (by first | omega | rfl | (dsimp only; omega)) SubR.nil)))) ((SubKR.consI rfl (ImpK.of xh0.symm)) ((SubKR.consI rfl ImpK.refl) SubKR.nil)) (SupG.own rfl (SupG.val (SupG.own rfl (SupG.val SupG.nil)))) (SupH.cons rfl (supJ xc4) (SupH.cons rfl (supJL rfl) SupH.nil)) (lkOk rfl) rfl rfl (fun _ h => by cases h)
  ·
   refine xd4 (xc0 (xc0 (xe2 (x3 (x6 ?_)))))
   refine x8 ?_
   refine R1 x4 rfl (R2 xd7 rfl rfl ?_)
   have hfin : cs = dig 65536 v := by rw [hcs]; exact from_end (by rw [← hu]; omega) hi
   subst hfin
   refine RE (xh9 (f := fun n : Nat => tE (.int .u16 n)) (xs := (dig 65536 v)) (fun _ h => h) (rW_all rfl) rfl) ⟨rfl, trivial⟩ ⟨rfl, trivial⟩ trivial (R2 (xa0 (c_RMake _ v) fi126 rfl) rfl rfl (RE (xa6 (es := 2) (agg := true) (0) ti47 rfl rfl rfl) ⟨rfl, rfl, trivial⟩ ⟨rfl, trivial⟩ trivial (x7 (by kernel_rfl) (x3 (xa2 ?_)))))
   exact xf9 Plain.mk' rfl ⟨_, _, _, _, _, rfl, rfl, ti47, (Le.of (by rw [wh_sgn, hv, wh]; congr 2; by_cases h : n < 0 <;> simp [h]; omega))⟩
end An.S

/- The references: quotients, divisors, quick fractions. -/
namespace An.S
open Go Go.Proofs An
set_option maxHeartbeats 2000000
theorem fi127 : FnI Tryz.prog 127 := ⟨_, Tryz.func127, by kernel_rfl, rfl⟩
theorem fi134 : FnI Tryz.prog 134 := ⟨_, Tryz.func134, by kernel_rfl, rfl⟩
theorem fi135 : FnI Tryz.prog 135 := ⟨_, Tryz.func135, by kernel_rfl, rfl⟩
theorem fi171 : FnI Tryz.prog 171 := ⟨_, Tryz.func171, by kernel_rfl, rfl⟩
theorem fi172 : FnI Tryz.prog 172 := ⟨_, Tryz.func172, by kernel_rfl, rfl⟩
theorem fi173 : FnI Tryz.prog 173 := ⟨_, Tryz.func173, by kernel_rfl, rfl⟩
theorem c_RPlusOne (q : Nat) (h : (dig 65536 q).length ≤ 100000) : Ct Tryz.prog 134 [tM q, tLm [1]] (tM (q + 1)) := by
  have e : dig 65536 1 = [1] := by rw [dig_pos xa9 (by decide), show (1 : Nat) / 65536 = 0 by decide, xf0]
  have := c_RPlus q 1 h (by rw [e]; decide)
  rw [tM, tM, e] at this; exact this
theorem lenM {a b k : Nat} (h : a ≤ b) (hb : (dig 65536 b).length ≤ k) : (dig 65536 a).length ≤ k := Nat.le_trans (xf3 xa9 h) hb
theorem one_dec {l : List Nat} (h : l.length = 1) : decide (((l.getD 0 0 : Nat) : Int) = 1) = decide (l = [1]) := by
  obtain ⟨a, rfl⟩ := List.length_eq_one_iff.1 h
  simp
  omega
theorem low_sgn {n d : Int} (hd : d ≠ 0) : fr (Rat.divInt n d) = ⟨wh (sgn (!((wh n).neg == (wh d).neg)) (n.natAbs / Nat.gcd n.natAbs d.natAbs)), wh (sgn false (d.natAbs / Nat.gcd n.natAbs d.natAbs))⟩ := by
  have key : ∀ (n d : Int), 0 < d → fr (Rat.divInt n d) = ⟨wh (sgn (decide (n < 0)) (n.natAbs / Nat.gcd n.natAbs d.natAbs)), wh (sgn false (d.natAbs / Nat.gcd n.natAbs d.natAbs))⟩ := fun n d h => by
    rw [lowest_eq h]
    have hg : (Int.gcd n d : Nat) = Nat.gcd n.natAbs d.natAbs := rfl
    rw [hg]
    have hdn : Nat.gcd n.natAbs d.natAbs ∣ n.natAbs := Nat.gcd_dvd_left _ _
    have hdd : Nat.gcd n.natAbs d.natAbs ∣ d.natAbs := Nat.gcd_dvd_right _ _
    generalize Nat.gcd n.natAbs d.natAbs = g at *
    have e2 : d / (g : Int) = sgn false (d.natAbs / g) := by
      show _ = ((d.natAbs / g : Nat) : Int)
      rw [Int.natCast_ediv]; congr 1; omega
    have e1 : n / (g : Int) = sgn (decide (n < 0)) (n.natAbs / g) := by
      by_cases hn : n < 0
      · rw [decide_eq_true hn]
        show _ = -((n.natAbs / g : Nat) : Int)
        have : n = -(n.natAbs : Int) := by omega
        conv => lhs; rw [this]
        rw [Int.neg_ediv_of_dvd (Int.natCast_dvd_natCast.2 hdn), Int.natCast_ediv]
      · rw [decide_eq_false hn]
        show _ = ((n.natAbs / g : Nat) : Int)
        rw [Int.natCast_ediv]; congr 1; omega
    rw [e1, e2]
  rcases Int.lt_or_gt_of_ne hd with h | h
  · have e : Rat.divInt n d = Rat.divInt (-n) (-d) := (Rat.neg_divInt_neg n d).symm
    rw [e, key (-n) (-d) (by omega), Int.natAbs_neg, Int.natAbs_neg]
    have e3 : (wh d).neg = true := decide_eq_true h
    have e4 : (wh n).neg = decide (n < 0) := rfl
    rw [e3, e4]
    by_cases h0 : n = 0
    · subst h0; simp [sgn]
    · have : decide (-n < 0) = !(decide (n < 0) == true) := by
        by_cases hn : n < 0
        · simp [hn]; omega
        · simp [hn]; omega
      rw [this]
  · rw [key n d h]
    have e3 : (wh d).neg = false := decide_eq_false (by omega)
    have e4 : (wh n).neg = decide (n < 0) := rfl
    rw [e3, e4]; simp
theorem c_RDivided (a b : Nat) (hb : 0 < b) (ha : (dig 65536 a).length ≤ 4000) (hbl : (dig 65536 b).length ≤ 4000) :
    Ct Tryz.prog 127 [tM a, tM b] (tT [tM (a / b), tM (a % b)]) := by
  refine Ct.intro Tryz.func127 rfl Tryz.ntmps127 rfl ?_
  intro w F
  refine x6 ?_
  refine x8 ?_
  refine R1 x5 rfl (R1 x5 rfl (x7 (by kernel_rfl) (x3 (x6 (x6 ?_)))))
  refine x8 ?_
  refine R1 x4 rfl (R1 (xc1 Tryz.underlying45) rfl (R2 xf1 rfl rfl (x7 (by kernel_rfl) (x3 ?_))))
  refine xb8 rfl (fun h103 => ?_) (fun h103 => ?_)
  ·
    have hb0 := one_limb (b := b) (by omega)
    have hbW := (xe4 xa9 b).getD (by decide) 0
    refine x6 ?_
    refine x8 ?_
    refine R1 x4 rfl (R1 x4 rfl (R2 (xc3 sl45 (0) (by omega) (gN (by omega))) rfl rfl (R1 (xc7 ti166) rfl (R1 (xb0 Tryz.underlying3 (isS Tryz.underlying166) (wr64 (by omega) (by omega))) rfl (R2 (xa0 (c_RShort a _ (by omega) (by omega) (by omega)) fi171 rfl) rfl rfl (R1 (xa5 rfl) rfl (R1 (xa5 rfl) rfl ?_)))))))
    refine R1 x5 rfl (R1 x5 rfl (x7 (by kernel_rfl) (x3 (xa2 (xa7 ?_)))))
    exact xe7 Plain.mk' rfl rfl rfl (Le.of (by rw [hb0])) (Le.of (by rw [hb0]))
  ·
    refine xa4 (x3 (x6 ?_))
    refine x8 ?_
    refine R1 x5 rfl (x7 (by kernel_rfl) (x3 (x6 (x6 ?_))))
    refine x8 ?_
    refine R1 x4 rfl (R1 x5 rfl (x7 (by kernel_rfl) (x3 (xb3 ?_))))
    refine xd9 (fun (n : Nat) => n = 0 ∨ b * 2 ^ n ≤ a + a) (fun (n : Nat) => upd (upd (upd (upd (fun _ => none) 0 (some (.val (tM a)))) 1 (some (.val (tM b)))) 6 (some (.val (tI n)))) 7 (some (.val (tM (b * 2 ^ n))))) (fun (n : Nat) => fun _ => none) (nm []) (fun (n : Nat) => a + 1 - b * 2 ^ n) (0) (.inl rfl) (Sub.le rfl (Le.of (by first | rw [Nat.pow_zero, Nat.mul_one] | (dsimp only; rw [Nat.pow_zero, Nat.mul_one]))) (Sub.int rfl (by first | omega | rfl | (dsimp only; omega)) (Sub.cons rfl (Sub.cons rfl Sub.nil)))) SubK.nil (SupG.val (SupG.val (SupG.val (SupG.val SupG.nil)))) SupH.nil (lkOk rfl) ?_
    intro n hI
    have hn : n < 16 * 4001 := by
      rcases hI with h | h
      · omega
      · refine bits_le (a := a + a) ?_ (by have := len_dbl ha ha; omega)
        exact Nat.le_trans (Nat.le_mul_of_pos_left _ hb) h
    refine x6 (x6 ?_)
    refine x8 ?_
    refine R1 x4 rfl (R1 x4 rfl (R2 (xa0 (c_RLess a (b * 2 ^ n)) fi172 rfl) rfl rfl (R1 xe5 rfl (x7 (by kernel_rfl) (x3 ?_)))))
    refine xf5 rfl (fun h107 => ?_) (fun h107 => ?_)
    ·
      have hle : b * 2 ^ n ≤ a := by
        have h := h107
        simp at h; exact h
      have hnl := lenM hle ha
      refine xa4 (x3 (x6 (xb3 ?_)))
      refine x8 ?_
      refine R1 x4 rfl (R1 x4 rfl (R2 (xa0 (c_RPlus (b * 2 ^ n) (b * 2 ^ n) (by omega) (by omega)) fi134 rfl) rfl rfl (R1 x5 rfl (x7 (by kernel_rfl) (xc8 (x3 ?_))))))
      refine x8 ?_
      refine R1 x4 rfl (R2 (xc2 (wr64 (by omega) (by omega))) rfl rfl (R1 x5 rfl (x7 (by kernel_rfl) ?_)))
      have he : b * 2 ^ n + b * 2 ^ n = b * 2 ^ (n + 1) := by rw [Nat.pow_succ, ← Nat.mul_assoc, Nat.mul_two]
      have hp : 0 < b * 2 ^ n := Nat.mul_pos hb (Nat.pow_pos (by decide))
      exact xc6 (n + 1) ⟨(.inr (by omega)), (by show a + 1 - b * 2 ^ (n + 1) < a + 1 - b * 2 ^ n; omega)⟩ (Sub.le rfl (Le.of (by rw [he])) (Sub.int rfl (by first | omega | rfl | (dsimp only; omega)) (Sub.cons rfl (Sub.cons rfl Sub.nil)))) SubK.nil (SupG.val (SupG.val (SupG.val (SupG.val SupG.nil)))) SupH.nil (lkOk rfl)
    ·
      have hlt : a < b * 2 ^ n := by
        have h := h107
        simp at h; exact h
      have hnl : (dig 65536 (b * 2 ^ n)).length ≤ 4001 := by
        rcases hI with h | h
        · rw [h, Nat.pow_zero, Nat.mul_one]; omega
        · exact lenM h (len_dbl ha ha)
      refine xd4 (xc0 (xc0 (xe2 (x3 (x6 ?_)))))
      refine x8 ?_
      refine R1 x4 rfl (R1 x5 rfl (x7 (by kernel_rfl) (x3 (x6 (x6 ?_)))))
      refine x8 ?_
      refine R1 x5 rfl (x7 (by kernel_rfl) (x3 (xb3 ?_)))
      refine xd9 (fun (i : Nat) => i ≤ n) (fun (i : Nat) => upd (upd (upd (upd (upd (fun _ => none) 0 (some (.val (tM a)))) 1 (some (.val (tM b)))) 6 (some (.val (tI n)))) 8 (some (.val (tM (b * 2 ^ i))))) 9 (some (.val (tI i)))) (fun (i : Nat) => fun _ => none) (nm []) (fun (i : Nat) => n - i) (0) (Nat.zero_le _) (Sub.int rfl (by first | omega | rfl | (dsimp only; omega)) (Sub.le rfl (Le.of (by first | rw [Nat.pow_zero, Nat.mul_one] | (dsimp only; rw [Nat.pow_zero, Nat.mul_one]))) (Sub.int rfl (by first | omega | rfl | (dsimp only; omega)) (Sub.cons rfl (Sub.cons rfl Sub.nil))))) SubK.nil (SupG.val (SupG.val (SupG.val (SupG.val (SupG.val SupG.nil))))) SupH.nil (lkOk rfl) ?_
      intro i hJ
      refine x6 (x6 ?_)
      refine x8 ?_
      refine R1 x4 rfl (R1 x4 rfl (R2 xd7 rfl rfl (x7 (by kernel_rfl) (x3 ?_))))
      refine xb8 rfl (fun h111 => ?_) (fun h111 => ?_)
      ·
        have hil : (dig 65536 (b * 2 ^ i)).length ≤ 4001 := lenM (Nat.mul_le_mul_left _ (Nat.pow_le_pow_right (by decide) (by omega))) hnl
        refine xa4 (x3 (x6 (xb3 ?_)))
        refine x8 ?_
        refine R1 x4 rfl (R1 x4 rfl (R2 (xa0 (c_RPlus (b * 2 ^ i) (b * 2 ^ i) (by omega) (by omega)) fi134 rfl) rfl rfl (R1 x5 rfl (x7 (by kernel_rfl) (xc8 (x3 ?_))))))
        refine x8 ?_
        refine R1 x4 rfl (R2 (xc2 (wr64 (by omega) (by omega))) rfl rfl (R1 x5 rfl (x7 (by kernel_rfl) ?_)))
        have he : b * 2 ^ i + b * 2 ^ i = b * 2 ^ (i + 1) := by rw [Nat.pow_succ, ← Nat.mul_assoc, Nat.mul_two]
        exact xc6 (i + 1) ⟨(by omega), (by omega)⟩ (Sub.int rfl (by first | omega | rfl | (dsimp only; omega)) (Sub.le rfl (Le.of (by rw [he])) (Sub.int rfl (by first | omega | rfl | (dsimp only; omega)) (Sub.cons rfl (Sub.cons rfl Sub.nil))))) SubK.nil (SupG.val (SupG.val (SupG.val (SupG.val (SupG.val SupG.nil))))) SupH.nil (lkOk rfl)
      ·
        refine xd4 (xc0 (xc0 (xe2 (x3 (x6 ?_)))))
        refine x8 ?_
        refine R1 x5 rfl (x7 (by kernel_rfl) (x3 (x6 ?_)))
        refine x8 ?_
        refine RE (d_sliceOfO (k := 43) (ents := []) Tryz.underlying45 el166 zf166 rfl (by simp) rfl rfl rfl) trivial trivial ⟨rfl, trivial⟩ (R1 x4 rfl (RE (xf4 (k := 43) (k' := 45) (ts' := rW .u16 (dig 65536 a)) Tryz.underlying45 el166 zf166 rfl rfl (fun _ => inferInstance) rfl (by simp; omega) (by simp; omega) (by simp [rW]) (n' := (dig 65536 a).length) (by simp)) ⟨rfl, rfl, trivial⟩ ⟨rfl, trivial⟩ ⟨rfl, trivial⟩ (RE (d_assignS (f := fun n : Nat => tE (.int .u16 n)) (xs := dig 65536 a) (fun _ h => h) (rW_all rfl) rfl) ⟨rfl, trivial⟩ ⟨rfl, trivial⟩ trivial (x7 (by kernel_rfl) (x3 (x6 (x6 ?_)))))))
        refine x8 ?_
        refine R1 x5 rfl (x7 (by kernel_rfl) (x3 (xb3 ?_)))
        refine xd9 (fun (fm : (Nat) × (Nat) × (Nat) × (Nat)) => (fun (j : Nat) (q : Nat) (r : Nat) (d : Nat) => j ≤ n ∧ d = b * 2 ^ (n - j) ∧ a = q * d + r ∧ r < d) fm.1 fm.2.1 fm.2.2.1 fm.2.2.2) (fun (fm : (Nat) × (Nat) × (Nat) × (Nat)) => (fun (j : Nat) (q : Nat) (r : Nat) (d : Nat) => upd (upd (upd (upd (upd (fun _ => none) 6 (some (.val (tI n)))) 8 (some (.val (tM d)))) 10 (some (.val (tM q)))) 11 (some (.val (tM r)))) 12 (some (.val (tI j)))) fm.1 fm.2.1 fm.2.2.1 fm.2.2.2) (fun (fm : (Nat) × (Nat) × (Nat) × (Nat)) => (fun (j : Nat) (q : Nat) (r : Nat) (d : Nat) => fun _ => none) fm.1 fm.2.1 fm.2.2.1 fm.2.2.2) (nm []) (fun (fm : (Nat) × (Nat) × (Nat) × (Nat)) => (fun (j : Nat) (q : Nat) (r : Nat) (d : Nat) => n - j) fm.1 fm.2.1 fm.2.2.1 fm.2.2.2) ((0, 0, a, b * 2 ^ n)) (by dsimp only; exact ⟨Nat.zero_le _, rfl, by omega, by omega⟩) (Sub.int rfl (by first | omega | rfl | (dsimp only; omega)) (Sub.cons rfl (Sub.le rfl (leNil (xf0 _)) (Sub.le rfl (Le.of (by first | rw [show i = n by omega] | (dsimp only; rw [show i = n by omega]))) (Sub.int rfl (by first | omega | rfl | (dsimp only; omega)) Sub.nil))))) SubK.nil (SupG.val (SupG.val (SupG.val (SupG.val (SupG.val SupG.nil))))) SupH.nil (lkOk rfl) ?_
        intro fm hK
        obtain ⟨j, q, r, d⟩ := fm
        replace hK : j ≤ n ∧ d = b * 2 ^ (n - j) ∧ a = q * d + r ∧ r < d := hK
        show wc _ _ _ _ (upd (upd (upd (upd (upd (fun _ => none) 6 (some (.val (tI n)))) 8 (some (.val (tM d)))) 10 (some (.val (tM q)))) 11 (some (.val (tM r)))) 12 (some (.val (tI j)))) (fun _ => none) _
        obtain ⟨hj, hd, hq, hr⟩ := hK
        have hqa : q ≤ a := by
          have h1 : q * 1 ≤ q * d := Nat.mul_le_mul_left _ (by omega)
          omega
        have hql := lenM hqa ha
        have hdn : b * 2 ^ (n - j) ≤ b * 2 ^ n := Nat.mul_le_mul_left _ (Nat.pow_le_pow_right (by decide) (by omega))
        have hdl : (dig 65536 d).length ≤ 4001 := by rw [← hd] at hdn; exact lenM hdn hnl
        have hqq := len_dbl hql hql
        refine x6 (x6 ?_)
        refine x8 ?_
        refine R1 x4 rfl (R1 x4 rfl (R2 xd7 rfl rfl (x7 (by kernel_rfl) (x3 ?_))))
        refine xb8 rfl (fun h116 => ?_) (fun h116 => ?_)
        ·
          refine xa4 (x3 (x6 (xb3 (x6 ?_))))
          refine x8 ?_
          refine R1 x4 rfl (R1 (xa0 (c_RHalf d (by omega)) fi173 rfl) rfl (R1 x5 rfl (x7 (by kernel_rfl) (x3 (x6 ?_)))))
          refine x8 ?_
          refine R1 x4 rfl (R1 x4 rfl (R2 (xa0 (c_RPlus q q (by omega) (by omega)) fi134 rfl) rfl rfl (R1 x5 rfl (x7 (by kernel_rfl) (x3 (x6 ?_))))))
          refine x8 ?_
          refine R1 x4 rfl (R1 x4 rfl (R2 (xa0 (c_RLess r (d / 2)) fi172 rfl) rfl rfl (R1 xe5 rfl (x7 (by kernel_rfl) (x3 ?_)))))
          refine xf5 rfl (fun h119 => ?_) (fun h119 => ?_)
          ·
            have hge : d / 2 ≤ r := by
              have h := h119
              simp at h; exact h
            refine x6 ?_
            refine x8 ?_
            refine R1 x4 rfl (R1 x4 rfl (R2 (xa0 (c_RMinus r (d / 2) (by omega) (by have := lenM (Nat.le_of_lt hr) hdl; omega)) fi135 rfl) rfl rfl (R1 x5 rfl (x7 (by kernel_rfl) (x3 ?_)))))
            refine x8 ?_
            refine R1 x4 rfl (R1 (d_nums (n := 1) [1] Tryz.underlying45 el166 zf166 rfl rfl rfl) rfl (R2 (xa0 (c_RPlusOne (q + q) (by omega)) fi134 rfl) rfl rfl (R1 x5 rfl (x7 (by kernel_rfl) (xc8 (x3 ?_))))))
            refine x8 ?_
            refine R1 x4 rfl (R2 (xc2 (wr64 (by omega) (by omega))) rfl rfl (R1 x5 rfl (x7 (by kernel_rfl) ?_)))
            obtain ⟨b1, b2, b3⟩ := div_bit (by omega) hd hq hr
            obtain ⟨b4, b5, b6⟩ := b3 (by omega)
            exact xc6 ((j + 1, q + q + 1, r - d / 2, d / 2)) ⟨(by dsimp only; exact ⟨by omega, b1, b4, b5⟩), (by dsimp only; omega)⟩ (Sub.int rfl (by first | omega | rfl | (dsimp only; omega)) (Sub.cons rfl (Sub.cons rfl (Sub.cons rfl (Sub.int rfl (by first | omega | rfl | (dsimp only; omega)) Sub.nil))))) SubK.nil (SupG.val (SupG.val (SupG.val (SupG.val (SupG.val SupG.nil))))) SupH.nil (lkOk rfl)
          ·
            have hge : r < d / 2 := by
              have h := h119
              simp at h; exact h
            refine xa4 (xc8 (x3 ?_))
            refine x8 ?_
            refine R1 x4 rfl (R2 (xc2 (wr64 (by omega) (by omega))) rfl rfl (R1 x5 rfl (x7 (by kernel_rfl) ?_)))
            obtain ⟨b1, b2, b3⟩ := div_bit (by omega) hd hq hr
            exact xc6 ((j + 1, q + q, r, d / 2)) ⟨(by dsimp only; exact ⟨by omega, b1, b2 (by omega), by omega⟩), (by dsimp only; omega)⟩ (Sub.int rfl (by first | omega | rfl | (dsimp only; omega)) (Sub.cons rfl (Sub.cons rfl (Sub.cons rfl (Sub.int rfl (by first | omega | rfl | (dsimp only; omega)) Sub.nil))))) SubK.nil (SupG.val (SupG.val (SupG.val (SupG.val (SupG.val SupG.nil))))) SupH.nil (lkOk rfl)
        ·
          have hdb : d = b := by rw [hd, show n - j = 0 by omega, Nat.pow_zero, Nat.mul_one]
          rw [hdb] at hq hr
          obtain ⟨e1, e2⟩ := div_done hq hr
          refine xd4 (xc0 (xc0 (xe2 (x3 (x6 ?_)))))
          refine x8 ?_
          refine R1 x4 rfl (R1 x4 rfl (R1 x5 rfl (R1 x5 rfl (x7 (by kernel_rfl) (x3 (xa2 ?_))))))
          exact xe7 Plain.mk' rfl rfl rfl (Le.of (by rw [e1])) (Le.of (by rw [e2]))
theorem c_RCommon (a b : Nat) (ha : (dig 65536 a).length ≤ 4000) (hb : (dig 65536 b).length ≤ 4000) :
  Ct Tryz.prog 124 [tM a, tM b] (tM (Nat.gcd a b)) := by
 refine Ct.intro Tryz.func124 rfl Tryz.ntmps124 rfl ?_
 intro w F
 refine x6 ?_
 refine x8 ?_
 refine R1 x5 rfl (x7 (by kernel_rfl) (x3 (x6 (xb3 ?_))))
 refine xd9 (fun (fm : (Nat) × (Nat)) => (fun (x : Nat) (y : Nat) => Nat.gcd x y = Nat.gcd a b ∧ (dig 65536 x).length ≤ 4000 ∧ (dig 65536 y).length ≤ 4000) fm.1 fm.2) (fun (fm : (Nat) × (Nat)) => (fun (x : Nat) (y : Nat) => upd (upd (fun _ => none) 0 (some (.val (tM x)))) 1 (some (.val (tM y)))) fm.1 fm.2) (fun (fm : (Nat) × (Nat)) => (fun (x : Nat) (y : Nat) => fun _ => none) fm.1 fm.2) (nm []) (fun (fm : (Nat) × (Nat)) => (fun (x : Nat) (y : Nat) => y) fm.1 fm.2) ((a, b)) (by dsimp only; exact ⟨rfl, ha, hb⟩) (Sub.cons rfl (Sub.cons rfl Sub.nil)) SubK.nil (SupG.val (SupG.val SupG.nil)) SupH.nil (lkOk rfl) ?_
 intro fm hI
 obtain ⟨x, y⟩ := fm
 replace hI : Nat.gcd x y = Nat.gcd a b ∧ (dig 65536 x).length ≤ 4000 ∧ (dig 65536 y).length ≤ 4000 := hI
 show wc _ _ _ _ (upd (upd (fun _ => none) 0 (some (.val (tM x)))) 1 (some (.val (tM y)))) (fun _ => none) _
 obtain ⟨hg, hx, hy⟩ := hI
 refine x6 (x6 ?_)
 refine x8 ?_
 refine R1 x4 rfl (R1 (xc1 Tryz.underlying45) rfl (R2 xg3 rfl rfl (x7 (by kernel_rfl) (x3 ?_))))
 refine xb8 rfl (fun h261 => ?_) (fun h261 => ?_)
 ·
  have hy0 : 0 < y := by have := len_ne.1 h261; omega
  refine xa4 (x3 (xb3 (x6 ?_)))
  refine x8 ?_
  refine R1 x4 rfl (R1 x4 rfl (R2 (xa0 (c_RDivided x y hy0 hx hy) fi127 rfl) rfl rfl (R1 x4 rfl (R1 (xa5 rfl) rfl (R1 (xa5 rfl) rfl (R1 x5 rfl (R1 x5 rfl ?_)))))))
  refine x7 (by kernel_rfl) (x3 (x6 ?_))
  refine x8 ?_
  refine R1 x4 rfl (R1 x5 rfl (x7 (by kernel_rfl) (x3 ?_)))
  refine x8 ?_
  refine R1 x4 rfl (R1 x5 rfl (x7 (by kernel_rfl) (xc8 ?_)))
  have hlt : x % y < y := Nat.mod_lt _ hy0
  exact xc6 ((y, x % y)) ⟨(by dsimp only; exact ⟨by rw [Nat.gcd_comm, ← Nat.gcd_rec, Nat.gcd_comm]; exact hg, hy, lenM (Nat.le_of_lt hlt) hy⟩), (by dsimp only; omega)⟩ (Sub.cons rfl (Sub.cons rfl Sub.nil)) SubK.nil (SupG.val (SupG.val SupG.nil)) SupH.nil (lkOk rfl)
 ·
  have hy0 : y = 0 := Classical.byContradiction fun h => h261 (len_ne.2 h)
  refine xd4 (xc0 (xc0 (xe2 (x3 (x6 ?_)))))
  refine x8 ?_
  refine R1 x4 rfl (R1 x5 rfl (x7 (by kernel_rfl) (x3 (xa2 ?_))))
  exact xa8 Plain.mk' rfl rfl (Le.of (by rw [← hg, hy0, Nat.gcd_zero_right]))
theorem c_Rone (l : List Nat) :
  Ct Tryz.prog 125 [tLm l] (tB (decide (l = [1]))) := by
 refine Ct.intro Tryz.func125 rfl Tryz.ntmps125 rfl ?_
 intro w F
 refine x6 ?_
 refine x8 ?_
 refine R1 x5 rfl (x7 (by kernel_rfl) (x3 (x6 ?_)))
 refine x8 ?_
 refine R1 x4 rfl (R1 (xc1 Tryz.underlying45) rfl (R2 xf1 rfl rfl (R1 x4 rfl ?_)))
 refine RGcaseD (t := 6) rfl (fun h24 => ?_) (fun h24 => ?_)
 ·
  refine RGon (decide_eq_true h24) rfl x4 rfl ⟨rfl, trivial⟩ trivial trivial (RGon (decide_eq_true h24) rfl (xc3 sl45 (0) (by omega) (gN (by omega))) rfl ⟨rfl, rfl, trivial⟩ trivial trivial (RGon (decide_eq_true h24) rfl (xc7 ti166) rfl ⟨rfl, trivial⟩ trivial trivial (RGon (decide_eq_true h24) rfl xf1 rfl ⟨rfl, rfl, trivial⟩ trivial trivial (R2 (xb5 (decide_eq_true h24)) rfl rfl (R1 x5 rfl (x7 (by kernel_rfl) (x3 ?_)))))))
  refine xa2 ?_
  exact xa8 Plain.mk' rfl rfl (Le.bool (one_dec (by omega)))
 ·
  refine RGoff (decide_eq_false h24) rfl rfl (RGoff (decide_eq_false h24) rfl rfl (RGoff (decide_eq_false h24) rfl rfl (RGoff (decide_eq_false h24) rfl rfl (R2 (xb4 (decide_eq_false h24)) rfl rfl (R1 x5 rfl (x7 (by kernel_rfl) (x3 ?_)))))))
  refine xa2 ?_
  exact xa8 Plain.mk' rfl rfl (Le.bool (decide_eq_false (fun h => h24 (by rw [h]; rfl))).symm)
end An.S

/- The reference of layer 2; small functions of the laws. -/
namespace An.S
open Go Go.Proofs An
set_option maxHeartbeats 2000000
theorem fi76 : FnI Tryz.prog 76 := ⟨_, Tryz.func76, by kernel_rfl, rfl⟩
theorem fi77 : FnI Tryz.prog 77 := ⟨_, Tryz.func77, by kernel_rfl, rfl⟩
theorem fi124 : FnI Tryz.prog 124 := ⟨_, Tryz.func124, by kernel_rfl, rfl⟩
theorem fi125 : FnI Tryz.prog 125 := ⟨_, Tryz.func125, by kernel_rfl, rfl⟩
theorem c_RLowest (n d : Int) (hn : len16 n ≤ 4000) (hd : len16 d ≤ 4000) (hd0 : d ≠ 0) :
  Ct Tryz.prog 76 [tWh (wh n), tWh (wh d)] (tFr (fr (Rat.divInt n d))) := by
 have hg0 : 0 < (Nat.gcd n.natAbs d.natAbs) := Nat.gcd_pos_of_pos_right _ (by omega)
 have hgl := lenM (Nat.le_of_dvd (by omega) (Nat.gcd_dvd_right n.natAbs d.natAbs)) hd
 refine Ct.intro Tryz.func76 rfl Tryz.ntmps76 rfl ?_
 intro w F
 refine x6 ?_
 refine x8 ?_
 refine RE (xd2 (k := 2) ti47 rfl) ⟨rfl, trivial⟩ trivial ⟨rfl, trivial⟩ (RE (xd2 (k := 3) ti47 rfl) ⟨rfl, trivial⟩ trivial ⟨rfl, trivial⟩ (RE (xb9 (k := 4) (n := 4) (agg := true) zr49.1 zr49.2 rfl) trivial trivial ⟨rfl, trivial⟩ (x7 (by kernel_rfl) (x3 (x6 ?_)))))
 refine x8 ?_
 refine R1 (x9 fo47_1 rfl) rfl (xa3 (0) ti45 rfl rfl rfl (At.g 1 rfl rfl) rfl (R1 (x9 fo47_1 rfl) rfl (xa3 (0) ti45 rfl rfl rfl (At.g 1 rfl rfl) rfl (R2 (xa0 (c_RCommon n.natAbs d.natAbs hn hd) fi124 rfl) rfl rfl (R1 x5 rfl (x7 (by kernel_rfl) (x3 ?_)))))))
 refine x6 (x6 ?_)
 refine x8 ?_
 refine R1 x4 rfl (R1 (xa0 (c_Rone _) fi125 rfl) rfl (x7 (by kernel_rfl) (x3 ?_)))
 refine xf5 rfl (fun h15 => ?_) (fun h15 => ?_)
 ·
  have hg1 : (Nat.gcd n.natAbs d.natAbs) = 1 := by
   have h := of_decide_eq_true h15
   rw [← val_dig xa9 (Nat.gcd n.natAbs d.natAbs), h]; rfl
  refine x6 ?_
  refine xd8 mixed ?_
  refine R1 (x9 fo47_0 rfl) rfl (xa3 (0) ti4 rfl rfl rfl (At.g 0 rfl rfl) rfl (R1 (x9 fo47_0 rfl) rfl (xa3 (0) ti4 rfl rfl rfl (At.g 0 rfl rfl) rfl (R2 (d_neqB Tryz.underlying4) rfl rfl (R1 (x9 fo47_1 rfl) rfl (xa3 (0) ti45 rfl rfl rfl (At.g 1 rfl rfl) rfl (R2 (xa0 (c_RMake (!((wh n).neg == (wh d).neg)) n.natAbs) fi126 rfl) rfl rfl ?_)))))))
  refine R1 (x9 fo47_1 rfl) rfl (xa3 (0) ti45 rfl rfl rfl (At.g 1 rfl rfl) rfl (R2 (xa0 (c_RMake false d.natAbs) fi126 rfl) rfl rfl (R2 (xd1 (r := tS [⟨2, true, tWh (wh (sgn (!((wh n).neg == (wh d).neg)) n.natAbs))⟩, ⟨2, true, tWh (wh (sgn false d.natAbs))⟩]) (ts := [(0, tWh (wh (sgn (!((wh n).neg == (wh d).neg)) n.natAbs))), (1, tWh (wh (sgn false d.natAbs)))]) bu49 zr49.2 ⟨_, rfl⟩ rfl ⟨_, _, _, _, rfl, Up.f (fs := [⟨2, true, (tS [⟨1, false, (tE (.bool false))⟩, ⟨1, false, (tLm [])⟩])⟩, ⟨2, true, (tS [⟨1, false, (tE (.bool false))⟩, ⟨1, false, (tLm [])⟩])⟩]) (f := ⟨2, true, (tS [⟨1, false, (tE (.bool false))⟩, ⟨1, false, (tLm [])⟩])⟩) (fs' := [⟨2, true, tWh (wh (sgn (!((wh n).neg == (wh d).neg)) n.natAbs))⟩, ⟨2, true, (tS [⟨1, false, (tE (.bool false))⟩, ⟨1, false, (tLm [])⟩])⟩]) 0 rfl rfl rfl, inferInstance, ⟨_, _, _, _, rfl, Up.f (fs := [⟨2, true, tWh (wh (sgn (!((wh n).neg == (wh d).neg)) n.natAbs))⟩, ⟨2, true, (tS [⟨1, false, (tE (.bool false))⟩, ⟨1, false, (tLm [])⟩])⟩]) (f := ⟨2, true, (tS [⟨1, false, (tE (.bool false))⟩, ⟨1, false, (tLm [])⟩])⟩) (fs' := [⟨2, true, tWh (wh (sgn (!((wh n).neg == (wh d).neg)) n.natAbs))⟩, ⟨2, true, tWh (wh (sgn false d.natAbs))⟩]) 1 rfl rfl rfl, inferInstance, Le.refl⟩⟩) rfl rfl (RE (xa6 (es := 4) (agg := true) (0) ti49 rfl rfl rfl) ⟨rfl, rfl, trivial⟩ ⟨rfl, trivial⟩ trivial (xe0 (by kernel_rfl) (x3 (xa2 ?_)))))))
  refine xa7 ?_
  exact xf9 Plain.mk' rfl ⟨_, _, _, _, _, rfl, rfl, ti49, (Le.of (by rw [low_sgn hd0, hg1, Nat.div_one, Nat.div_one]))⟩
 ·
  refine xa4 (x3 (x6 ?_))
  refine x8 ?_
  refine R1 (x9 fo47_1 rfl) rfl (xa3 (0) ti45 rfl rfl rfl (At.g 1 rfl rfl) rfl (R1 x4 rfl (R2 (xa0 (c_RDivided n.natAbs (Nat.gcd n.natAbs d.natAbs) hg0 hn hgl) fi127 rfl) rfl rfl (R1 x4 rfl (R1 (xa5 rfl) rfl (R1 (xa5 rfl) rfl (R1 x5 rfl ?_)))))))
  refine R1 x5 rfl (x7 (by kernel_rfl) (x3 (x6 ?_)))
  refine x8 ?_
  refine R1 (x9 fo47_1 rfl) rfl (xa3 (0) ti45 rfl rfl rfl (At.g 1 rfl rfl) rfl (R1 x4 rfl (R2 (xa0 (c_RDivided d.natAbs (Nat.gcd n.natAbs d.natAbs) hg0 hd hgl) fi127 rfl) rfl rfl (R1 x4 rfl (R1 (xa5 rfl) rfl (R1 (xa5 rfl) rfl (R1 x5 rfl ?_)))))))
  refine R1 x5 rfl (x7 (by kernel_rfl) (x3 (x6 ?_)))
  refine x8 ?_
  refine R1 (x9 fo47_0 rfl) rfl (xa3 (0) ti4 rfl rfl rfl (At.g 0 rfl rfl) rfl (R1 (x9 fo47_0 rfl) rfl (xa3 (0) ti4 rfl rfl rfl (At.g 0 rfl rfl) rfl (R2 (d_neqB Tryz.underlying4) rfl rfl (R1 x4 rfl (R2 (xa0 (c_RMake (!((wh n).neg == (wh d).neg)) (n.natAbs / (Nat.gcd n.natAbs d.natAbs))) fi126 rfl) rfl rfl (R1 x4 rfl ?_)))))))
  refine R2 (xa0 (c_RMake false (d.natAbs / (Nat.gcd n.natAbs d.natAbs))) fi126 rfl) rfl rfl (R2 (xd1 (r := tS [⟨2, true, tWh (wh (sgn (!((wh n).neg == (wh d).neg)) (n.natAbs / (Nat.gcd n.natAbs d.natAbs))))⟩, ⟨2, true, tWh (wh (sgn false (d.natAbs / (Nat.gcd n.natAbs d.natAbs))))⟩]) (ts := [(0, tWh (wh (sgn (!((wh n).neg == (wh d).neg)) (n.natAbs / (Nat.gcd n.natAbs d.natAbs))))), (1, tWh (wh (sgn false (d.natAbs / (Nat.gcd n.natAbs d.natAbs)))))]) bu49 zr49.2 ⟨_, rfl⟩ rfl ⟨_, _, _, _, rfl, Up.f (fs := [⟨2, true, (tS [⟨1, false, (tE (.bool false))⟩, ⟨1, false, (tLm [])⟩])⟩, ⟨2, true, (tS [⟨1, false, (tE (.bool false))⟩, ⟨1, false, (tLm [])⟩])⟩]) (f := ⟨2, true, (tS [⟨1, false, (tE (.bool false))⟩, ⟨1, false, (tLm [])⟩])⟩) (fs' := [⟨2, true, tWh (wh (sgn (!((wh n).neg == (wh d).neg)) (n.natAbs / (Nat.gcd n.natAbs d.natAbs))))⟩, ⟨2, true, (tS [⟨1, false, (tE (.bool false))⟩, ⟨1, false, (tLm [])⟩])⟩]) 0 rfl rfl rfl, inferInstance, ⟨_, _, _, _, rfl, Up.f (fs := [⟨2, true, tWh (wh (sgn (!((wh n).neg == (wh d).neg)) (n.natAbs / (Nat.gcd n.natAbs d.natAbs))))⟩, ⟨2, true, (tS [⟨1, false, (tE (.bool false))⟩, ⟨1, false, (tLm [])⟩])⟩]) (f := ⟨2, true, (tS [⟨1, false, (tE (.bool false))⟩, ⟨1, false, (tLm [])⟩])⟩) (fs' := [⟨2, true, tWh (wh (sgn (!((wh n).neg == (wh d).neg)) (n.natAbs / (Nat.gcd n.natAbs d.natAbs))))⟩, ⟨2, true, tWh (wh (sgn false (d.natAbs / (Nat.gcd n.natAbs d.natAbs))))⟩]) 1 rfl rfl rfl, inferInstance, Le.refl⟩⟩) rfl rfl (RE (xa6 (es := 4) (agg := true) (0) ti49 rfl rfl rfl) ⟨rfl, rfl, trivial⟩ ⟨rfl, trivial⟩ trivial (x7 (by kernel_rfl) (x3 (xa2 ?_)))))
  exact xf9 Plain.mk' rfl ⟨_, _, _, _, _, rfl, rfl, ti49, (Le.of (by rw [low_sgn hd0]))⟩
/-- A list that is too large. -/
def largeL (l : List Deal) (m k : Int) : Bool := (List.range l.length).any fun i => decide (m ≤ (i : Int)) || decide (k < ((l.getD i deal0).share.n.l.length : Int)) || decide (k < ((l.getD i deal0).share.d.l.length : Int))
theorem any_next {i : Nat} {f : Nat → Bool} : (List.range (i + 1)).any f = ((List.range i).any f || f i) := by
  rw [List.range_succ, List.any_append]; simp
end An.S

/- Multiplying limb by limb: plain numbers. -/
namespace An
open Go
theorem mul_lt16 {x y : Nat} (hx : x < 65536) (hy : y < 65536) : x * y ≤ 4294836225 := by
  have := Nat.mul_le_mul (show x ≤ 65535 by omega) (show y ≤ 65535 by omega)
  omega
theorem rtimes_in {b i j c x y s la : Nat} {w0 vs : List Nat} (hl : vs.length = la) (hD : Dig 65536 vs) (hw : w0.length = la) (hdr : vs.drop (i + j) = w0.drop (i + j)) (hij : i + j < la) (hc : c < 65536) (hx : x < 65536) (hy : y = b / 65536 ^ j % 65536)
    (hs : s = x * y + vs.getD (i + j) 0 + c) (h : val 65536 (vs.take (i + j)) + c * 65536 ^ (i + j) = val 65536 (w0.take (i + j)) + x * 65536 ^ i * (b % 65536 ^ j)) :
    (vs.set (i + j) (s % 65536)).length = la ∧ Dig 65536 (vs.set (i + j) (s % 65536)) ∧ (vs.set (i + j) (s % 65536)).drop (i + (j + 1)) = w0.drop (i + (j + 1)) ∧ s / 65536 < 65536 ∧
      val 65536 ((vs.set (i + j) (s % 65536)).take (i + (j + 1))) + s / 65536 * 65536 ^ (i + (j + 1)) = val 65536 (w0.take (i + (j + 1))) + x * 65536 ^ i * (b % 65536 ^ (j + 1)) := by
  have hyW : y < 65536 := by rw [hy]; exact Nat.mod_lt _ (by decide)
  have hg : vs.getD (i + j) 0 < 65536 := hD.getD (by decide) _
  refine ⟨by simpa using hl, hD.set (Nat.mod_lt _ (by decide)), by rw [← Nat.add_assoc, xg1]; exact xi2 hdr (by omega), ?_, ?_⟩
  · have := mul_lt16 hx hyW
    refine Nat.div_lt_of_lt_mul ?_
    show s < 65536 * 65536
    have : vs.getD (i + j) 0 < 65536 := hg
    have : c < 65536 := hc
    omega
  · rw [← Nat.add_assoc, xg4 (by omega), xf6 _ w0 _ (by omega), ← xh5 hdr (Nat.le_refl _)]
    exact mul_step h hs hy
theorem rtimes_out {a b i c la lb : Nat} {w0 vs : List Nat} (hi : i < la) (hw : w0.length = la + lb) (hl : vs.length = la + lb) (hD : Dig 65536 vs) (hdr : vs.drop (i + lb) = w0.drop (i + lb)) (hz : w0.drop (i + lb) = List.replicate (la - i) 0) (hc : c < 65536)
    (h0 : val 65536 (w0.take (i + lb)) = a % 65536 ^ i * b) (hb : b < 65536 ^ lb) (h : val 65536 (vs.take (i + lb)) + c * 65536 ^ (i + lb) = val 65536 (w0.take (i + lb)) + a / 65536 ^ i % 65536 * 65536 ^ i * (b % 65536 ^ lb)) :
    (vs.set (i + lb) c).length = la + lb ∧ Dig 65536 (vs.set (i + lb) c) ∧ (vs.set (i + lb) c).drop (i + 1 + lb) = List.replicate (la - (i + 1)) 0 ∧ val 65536 ((vs.set (i + lb) c).take (i + 1 + lb)) = a % 65536 ^ (i + 1) * b := by
  refine ⟨by simpa using hl, hD.set hc, ?_, ?_⟩
  · rw [show i + 1 + lb = i + lb + 1 by omega, xg1, xi2 (j := i + lb + 1) hdr (by omega), ← List.drop_drop, hz, List.drop_replicate]; congr 1
  · rw [show i + 1 + lb = i + lb + 1 by omega, xg4 (by omega), Nat.mul_comm _ c, h, h0, xh6, Nat.mod_eq_of_lt hb, Nat.add_mul]
    congr 1
    rw [Nat.mul_comm (65536 ^ i)]
theorem rtimes_end {a b la lb : Nat} {ws : List Nat} (hl : ws.length = la + lb) (hD : Dig 65536 ws) (ha : a < 65536 ^ la) (h : val 65536 (ws.take (la + lb)) = a % 65536 ^ la * b) : trimL ws = dig 65536 (a * b) := by
  rw [xf7 xa9 hD]
  rw [← hl, List.take_length, Nat.mod_eq_of_lt ha] at h
  rw [h]
end An

/- The references of layers 1 and 2: products, sums, quotients, numbers of 64 bits, fractions. -/
namespace An.S
open Go Go.Proofs An
set_option maxHeartbeats 2000000
set_option maxRecDepth 100000
theorem fi80 : FnI Tryz.prog 80 := ⟨_, Tryz.func80, by kernel_rfl, rfl⟩
theorem fi84 : FnI Tryz.prog 84 := ⟨_, Tryz.func84, by kernel_rfl, rfl⟩
theorem fi85 : FnI Tryz.prog 85 := ⟨_, Tryz.func85, by kernel_rfl, rfl⟩
theorem fi129 : FnI Tryz.prog 129 := ⟨_, Tryz.func129, by kernel_rfl, rfl⟩
theorem fi130 : FnI Tryz.prog 130 := ⟨_, Tryz.func130, by kernel_rfl, rfl⟩
theorem fi136 : FnI Tryz.prog 136 := ⟨_, Tryz.func136, by kernel_rfl, rfl⟩
theorem fi146 : FnI Tryz.prog 146 := ⟨_, Tryz.func146, by kernel_rfl, rfl⟩
theorem fi147 : FnI Tryz.prog 147 := ⟨_, Tryz.func147, by kernel_rfl, rfl⟩
theorem c_RTimes (a b : Nat) (ha : (dig 65536 a).length ≤ 100000) (hb : (dig 65536 b).length ≤ 100000) :
  Ct Tryz.prog 136 [tM a, tM b] (tM (a * b)) := by
 refine Ct.intro Tryz.func136 rfl Tryz.ntmps136 rfl ?_
 intro w F
 have hbW := xg9 xa9 b
 refine x6 ?_
 refine x8 ?_
 refine R1 x5 rfl (x7 (by kernel_rfl) (x3 (x6 ?_)))
 refine x8 ?_
 refine R1 x4 rfl (R1 (xc1 Tryz.underlying45) rfl (R1 x4 rfl (R1 (xc1 Tryz.underlying45) rfl (R2 (xc2 (wr64 (by omega) (by omega))) rfl rfl (RE (d_makeO (k := 14) (t := tE (.int .u16 0)) (ts := rW .u16 (List.replicate (((dig 65536 a).length + (dig 65536 b).length)) 0)) (((dig 65536 a).length + (dig 65536 b).length)) (((dig 65536 a).length + (dig 65536 b).length)) Tryz.underlying45 el166 (fun _ _ => rfl) rfl (by omega) (by omega) (Nat.le_refl _) (by omega) (by omega) (rW_rep _)) ⟨rfl, rfl, trivial⟩ trivial ⟨rfl, trivial⟩ (R1 x5 rfl (x7 (by kernel_rfl) ?_)))))))
 refine x3 (x6 (x6 ?_))
 refine x8 ?_
 refine R1 x5 rfl (x7 (by kernel_rfl) (x3 (xb3 ?_)))
 refine xd9 (fun (fm : (Nat) × (List Nat)) => (fun (i : Nat) (ws : List Nat) => i ≤ (dig 65536 a).length ∧ ws.length = (dig 65536 a).length + (dig 65536 b).length ∧ Dig 65536 ws ∧ ws.drop (i + (dig 65536 b).length) = List.replicate ((dig 65536 a).length - i) 0 ∧ val 65536 (ws.take (i + (dig 65536 b).length)) = a % 65536 ^ i * b) fm.1 fm.2) (fun (fm : (Nat) × (List Nat)) => (fun (i : Nat) (ws : List Nat) => upd (upd (upd (upd (fun _ => none) 0 (some (.val (tM a)))) 1 (some (.val (tM b)))) 5 (some (.own (.sl 14 1 0 ((dig 65536 a).length + (dig 65536 b).length))))) 6 (some (.val (tI i)))) fm.1 fm.2) (fun (fm : (Nat) × (List Nat)) => (fun (i : Nat) (ws : List Nat) => upd (fun _ => none) 14 (some (⟨166, 1, false, rW .u16 ws⟩))) fm.1 fm.2) (nm [14]) (fun (fm : (Nat) × (List Nat)) => (fun (i : Nat) (ws : List Nat) => (dig 65536 a).length - i) fm.1 fm.2) ((0, List.replicate ((dig 65536 a).length + (dig 65536 b).length) 0)) (by dsimp only; exact ⟨Nat.zero_le _, by simp, Dig.rep (by decide) _, by rw [List.drop_replicate]; congr 1; omega, by rw [List.take_replicate, xg7, Nat.pow_zero, Nat.mod_one, Nat.zero_mul]⟩) (Sub.int rfl (by first | omega | rfl | (dsimp only; omega)) (Sub.cons rfl (Sub.cons rfl (Sub.cons rfl Sub.nil)))) ((SubK.consI rfl ImpK.refl) SubK.nil) (SupG.val (SupG.own rfl (SupG.val (SupG.val SupG.nil)))) (SupH.cons rfl (supJ xc4) SupH.nil) (lkOk rfl) ?_
 intro fm hI
 obtain ⟨i, ws⟩ := fm
 replace hI : i ≤ (dig 65536 a).length ∧ ws.length = (dig 65536 a).length + (dig 65536 b).length ∧ Dig 65536 ws ∧ ws.drop (i + (dig 65536 b).length) = List.replicate ((dig 65536 a).length - i) 0 ∧ val 65536 (ws.take (i + (dig 65536 b).length)) = a % 65536 ^ i * b := hI
 show wc _ _ _ _ (upd (upd (upd (upd (fun _ => none) 0 (some (.val (tM a)))) 1 (some (.val (tM b)))) 5 (some (.own (.sl 14 1 0 ((dig 65536 a).length + (dig 65536 b).length))))) 6 (some (.val (tI i)))) (upd (fun _ => none) 14 (some (⟨166, 1, false, rW .u16 ws⟩))) _
 obtain ⟨hi, hl, hD, hz, hv⟩ := hI
 have hx := xe6 xa9 a i
 have hx1 := (xe4 xa9 a).getD (by omega) i
 refine x6 (x6 ?_)
 refine x8 ?_
 refine R1 x4 rfl (R1 x4 rfl (R1 (xc1 Tryz.underlying45) rfl (R2 xd7 rfl rfl (x7 (by kernel_rfl) (x3 ?_)))))
 refine xb8 rfl (fun h66 => ?_) (fun h66 => ?_)
 ·
  refine xa4 (x3 (x6 (xb3 (x6 ?_))))
  refine x8 ?_
  refine R1 x5 rfl (x7 (by kernel_rfl) (x3 (x6 (x6 ?_))))
  refine x8 ?_
  refine R1 x5 rfl (x7 (by kernel_rfl) (x3 (xb3 ?_)))
  refine xd9 (fun (fm : (Nat) × (List Nat) × (Nat)) => (fun (j : Nat) (vs : List Nat) (c : Nat) => j ≤ (dig 65536 b).length ∧ vs.length = (dig 65536 a).length + (dig 65536 b).length ∧ Dig 65536 vs ∧ vs.drop (i + j) = ws.drop (i + j) ∧ c < 65536 ∧ val 65536 (vs.take (i + j)) + c * 65536 ^ (i + j) = val 65536 (ws.take (i + j)) + (dig 65536 a).getD i 0 * 65536 ^ i * (b % 65536 ^ j)) fm.1 fm.2.1 fm.2.2) (fun (fm : (Nat) × (List Nat) × (Nat)) => (fun (j : Nat) (vs : List Nat) (c : Nat) => upd (upd (upd (upd (upd (upd (fun _ => none) 0 (some (.val (tM a)))) 1 (some (.val (tM b)))) 5 (some (.own (.sl 14 1 0 ((dig 65536 a).length + (dig 65536 b).length))))) 6 (some (.val (tI i)))) 7 (some (.val (tI c)))) 8 (some (.val (tI j)))) fm.1 fm.2.1 fm.2.2) (fun (fm : (Nat) × (List Nat) × (Nat)) => (fun (j : Nat) (vs : List Nat) (c : Nat) => upd (fun _ => none) 14 (some (⟨166, 1, false, rW .u16 vs⟩))) fm.1 fm.2.1 fm.2.2) (nm [14]) (fun (fm : (Nat) × (List Nat) × (Nat)) => (fun (j : Nat) (vs : List Nat) (c : Nat) => (dig 65536 b).length - j) fm.1 fm.2.1 fm.2.2) ((0, ws, 0)) (by dsimp only; exact ⟨Nat.zero_le _, hl, hD, rfl, by omega, by rw [Nat.pow_zero, Nat.mod_one]; omega⟩) (Sub.int rfl (by first | omega | rfl | (dsimp only; omega)) (Sub.int rfl (by first | omega | rfl | (dsimp only; omega)) (Sub.int rfl (by first | omega | rfl | (dsimp only; omega)) (Sub.cons rfl (Sub.cons rfl (Sub.cons rfl Sub.nil)))))) ((SubK.consI rfl ImpK.refl) SubK.nil) (SupG.val (SupG.val (SupG.val (SupG.own rfl (SupG.val (SupG.val SupG.nil)))))) (SupH.cons rfl (supJ xc4) SupH.nil) (lkOk rfl) ?_
  intro fm hJ
  obtain ⟨j, vs, c⟩ := fm
  replace hJ : j ≤ (dig 65536 b).length ∧ vs.length = (dig 65536 a).length + (dig 65536 b).length ∧ Dig 65536 vs ∧ vs.drop (i + j) = ws.drop (i + j) ∧ c < 65536 ∧ val 65536 (vs.take (i + j)) + c * 65536 ^ (i + j) = val 65536 (ws.take (i + j)) + (dig 65536 a).getD i 0 * 65536 ^ i * (b % 65536 ^ j) := hJ
  show wc _ _ _ _ (upd (upd (upd (upd (upd (upd (fun _ => none) 0 (some (.val (tM a)))) 1 (some (.val (tM b)))) 5 (some (.own (.sl 14 1 0 ((dig 65536 a).length + (dig 65536 b).length))))) 6 (some (.val (tI i)))) 7 (some (.val (tI c)))) 8 (some (.val (tI j)))) (upd (fun _ => none) 14 (some (⟨166, 1, false, rW .u16 vs⟩))) _
  obtain ⟨hj, kl, kD, kdr, kc, kv⟩ := hJ
  have hy := xe6 xa9 b j
  have hy1 := (xe4 xa9 b).getD (by omega) j
  have hw1 := kD.getD (by omega) (i + j)
  have hxy := mul_lt16 hx1 hy1
  refine x6 (x6 ?_)
  refine x8 ?_
  refine R1 x4 rfl (R1 x4 rfl (R1 (xc1 Tryz.underlying45) rfl (R2 xd7 rfl rfl (x7 (by kernel_rfl) (x3 ?_)))))
  refine xb8 rfl (fun h68 => ?_) (fun h68 => ?_)
  ·
   refine xa4 (x3 (x6 (xb3 (x6 ?_))))
   refine xd8 mixed ?_
   refine R1 x4 rfl (R1 x4 rfl (R1 x4 rfl (R2 (xc3 sl45 (i) (by omega) (gN (by omega))) rfl rfl (R1 (xc7 ti166) rfl (R1 (xb0 Tryz.underlying3 (isS Tryz.underlying166) (wr64 (by omega) (by omega))) rfl (R1 x4 rfl (R1 x4 rfl ?_)))))))
   refine R2 (xc3 sl45 (j) (by omega) (gN (by omega))) rfl rfl (R1 (xc7 ti166) rfl (R1 (xb0 Tryz.underlying3 (isS Tryz.underlying166) (wr64 (by omega) (by omega))) rfl (R2 (d_mul (r := (((dig 65536 a).getD i 0 * (dig 65536 b).getD j 0 : Nat) : Int)) (by rw [← Int.natCast_mul, wr64 (by omega) (by omega)])) rfl rfl (R2 (xc2 (r := ((c + (dig 65536 a).getD i 0 * (dig 65536 b).getD j 0 : Nat) : Int)) (by rw [wr64 (by omega) (by omega)]; omega)) rfl rfl (R1 x4 rfl (R1 x4 rfl (R1 x4 rfl ?_)))))))
   refine R2 (xc2 (wr64 (by omega) (by omega))) rfl rfl (R2 (xd5 sl45 (by omega) (by omega) rfl) rfl rfl (RE (xb2 (i + j) ti166 (rW_get (by omega)) (by omega)) ⟨rfl, trivial⟩ ⟨rfl, trivial⟩ trivial (R1 (xb0 Tryz.underlying3 (isS Tryz.underlying166) (wr64 (by omega) (by omega))) rfl (R2 (xc2 (r := (((c + (dig 65536 a).getD i 0 * (dig 65536 b).getD j 0 + vs.getD (i + j) 0) : Nat) : Int)) (by rw [wr64 (by omega) (by omega)]; omega)) rfl rfl (R1 x5 rfl (xe0 (by kernel_rfl) (x3 ?_)))))))
   refine x6 ?_
   refine x8 ?_
   refine R1 x4 rfl (R1 x4 rfl (R1 x4 rfl (R2 (xc2 (wr64 (by omega) (by omega))) rfl rfl (R1 x4 rfl (R2 (d_rem (r := (((c + (dig 65536 a).getD i 0 * (dig 65536 b).getD j 0 + vs.getD (i + j) 0) % 65536 : Nat) : Int)) (by decide) (wrem64 (b := 65536))) rfl rfl (R1 (xb0 Tryz.underlying166 (isS Tryz.underlying3) (wu16 (by omega) (by omega))) rfl (R2 (xd5 sl45 (by omega) (by omega) rfl) rfl rfl ?_)))))))
   refine RE (xa6 (i + j) ti166 (rW_lt (by omega)) (by omega) (rW_set (m := _) rfl)) ⟨rfl, rfl, trivial⟩ ⟨rfl, trivial⟩ trivial (x7 (by kernel_rfl) (x3 ?_))
   refine x8 ?_
   refine R1 x4 rfl (R2 (d_quo (r := (((c + (dig 65536 a).getD i 0 * (dig 65536 b).getD j 0 + vs.getD (i + j) 0) / 65536 : Nat) : Int)) (by decide) (iquo64 (b := 65536) (by omega))) rfl rfl (R1 x5 rfl (x7 (by kernel_rfl) (xc8 (x3 ?_)))))
   refine x8 ?_
   refine R1 x4 rfl (R2 (xc2 (wr64 (by omega) (by omega))) rfl rfl (R1 x5 rfl (x7 (by kernel_rfl) ?_)))
   obtain ⟨n1, n2, n3, n4, n5⟩ := rtimes_in (s := (c + (dig 65536 a).getD i 0 * (dig 65536 b).getD j 0 + vs.getD (i + j) 0)) kl kD hl kdr (by omega) kc hx1 hy (by omega) kv
   exact xc6 ((j + 1, vs.set (i + j) ((c + (dig 65536 a).getD i 0 * (dig 65536 b).getD j 0 + vs.getD (i + j) 0) % 65536), (c + (dig 65536 a).getD i 0 * (dig 65536 b).getD j 0 + vs.getD (i + j) 0) / 65536)) ⟨(by dsimp only; exact ⟨by omega, n1, n2, n3, n4, n5⟩), (by dsimp only; omega)⟩ (Sub.int rfl (by first | omega | rfl | (dsimp only; omega)) (Sub.int rfl (by first | omega | rfl | (dsimp only; omega)) (Sub.int rfl (by first | omega | rfl | (dsimp only; omega)) (Sub.cons rfl (Sub.cons rfl (Sub.cons rfl Sub.nil)))))) ((SubK.consI rfl ImpK.refl) SubK.nil) (SupG.val (SupG.val (SupG.val (SupG.own rfl (SupG.val (SupG.val SupG.nil)))))) (SupH.cons rfl (supJ xc4) SupH.nil) (lkOk rfl)
  ·
   have hjb : j = (dig 65536 b).length := by omega
   refine xd4 (xc0 (xc0 (xe2 (x3 ?_))))
   refine x8 ?_
   refine R1 x4 rfl (R1 x4 rfl (R1 x4 rfl (R1 (xc1 Tryz.underlying45) rfl (R2 (xc2 (wr64 (by omega) (by omega))) rfl rfl (R1 x4 rfl (R1 (xb0 Tryz.underlying166 (isS Tryz.underlying3) (wu16 (by omega) (by omega))) rfl (R2 (xd5 sl45 (by omega) (by omega) rfl) rfl rfl ?_)))))))
   refine RE (xa6 (i + (dig 65536 b).length) ti166 (rW_lt (by omega)) (by omega) (rW_set (m := _) rfl)) ⟨rfl, rfl, trivial⟩ ⟨rfl, trivial⟩ trivial (x7 (by kernel_rfl) (xc8 (x3 ?_)))
   refine x8 ?_
   refine R1 x4 rfl (R2 (xc2 (wr64 (by omega) (by omega))) rfl rfl (R1 x5 rfl (x7 (by kernel_rfl) ?_)))
   obtain ⟨n1, n2, n3, n4⟩ := rtimes_out (by omega) hl kl kD (by rw [← hjb]; exact kdr) hz kc hv hbW (by rw [← hjb, ← hx]; exact kv)
   exact xc6 ((i + 1, vs.set (i + (dig 65536 b).length) c)) ⟨(by dsimp only; exact ⟨by omega, n1, n2, n3, n4⟩), (by dsimp only; omega)⟩ (Sub.int rfl (by first | omega | rfl | (dsimp only; omega)) (Sub.cons rfl (Sub.cons rfl (Sub.cons rfl Sub.nil)))) ((SubK.consI rfl ImpK.refl) SubK.nil) (SupG.val (SupG.own rfl (SupG.val (SupG.val SupG.nil)))) (SupH.cons rfl (supJ xc4) SupH.nil) (lkOk rfl)
 ·
  refine xd4 (xc0 (xc0 (xe2 (x3 (x6 ?_)))))
  refine x8 ?_
  refine RE (xh9 (f := fun n : Nat => tE (.int .u16 n)) (xs := ws) (fun _ h => h) (rW_all hl) hl) ⟨rfl, trivial⟩ ⟨rfl, trivial⟩ trivial (R1 (xa0 (c_RTrim _) fi181 rfl) rfl (R1 x5 rfl (x7 (by kernel_rfl) (x3 (xa2 ?_)))))
  exact xa8 Plain.mk' rfl rfl (Le.of (congrArg tLm (rtimes_end hl hD (xg9 xa9 a) (by rw [← show i = (dig 65536 a).length by omega]; exact hv))))
theorem c_RValid (x : Wh) :
  Ct Tryz.prog 129 [tWh x] (tB x.valid) := by
 refine Ct.intro Tryz.func129 rfl Tryz.ntmps129 rfl ?_
 intro w F
 refine x6 ?_
 refine x8 ?_
 refine RE (xd2 (k := 1) ti47 rfl) ⟨rfl, trivial⟩ trivial ⟨rfl, trivial⟩ (R1 x5 rfl (x7 (by kernel_rfl) (x3 (x6 (x6 ?_)))))
 refine x8 ?_
 refine R1 (x9 fo47_1 rfl) rfl (xa3 (0) ti45 rfl rfl rfl (At.g 1 rfl rfl) rfl (R1 (xc1 Tryz.underlying45) rfl (R2 xf1 rfl rfl (x7 (by kernel_rfl) (x3 ?_)))))
 refine xb8 rfl (fun h142 => ?_) (fun h142 => ?_)
 ·
  refine x6 ?_
  refine x8 ?_
  refine R1 (x9 fo47_0 rfl) rfl (xa3 (0) ti4 rfl rfl rfl (At.g 0 rfl rfl) rfl (R1 xe5 rfl (R1 x5 rfl (x7 (by kernel_rfl) (x3 (xa2 (xa7 ?_)))))))
  exact xa8 Plain.mk' rfl rfl (Le.bool (by simp only [Wh.valid]; rw [if_pos (by omega)]))
 ·
  refine xa4 (x3 (x6 ?_))
  refine C_len (s := 4) rfl (fun hl4 => ?_)
  refine x8 ?_
  refine R1 (x9 fo47_1 rfl) rfl (xa3 (0) ti45 rfl rfl rfl (At.g 1 rfl rfl) rfl (R1 (xc1 Tryz.underlying45) rfl (R2 xg0 rfl rfl (R1 x4 rfl ?_))))
  refine RGcaseD (t := 14) rfl (fun h145 => ?_) (fun h145 => ?_)
  ·
   refine RGon (decide_eq_true h145) rfl (x9 fo47_1 rfl) rfl ⟨rfl, trivial⟩ trivial trivial (xb7 (decide_eq_true h145) rfl rfl (0) ti45 rfl rfl rfl (At.g 1 rfl rfl) rfl (RGon (decide_eq_true h145) rfl (x9 fo47_1 rfl) rfl ⟨rfl, trivial⟩ trivial trivial (xb7 (decide_eq_true h145) rfl rfl (0) ti45 rfl rfl rfl (At.g 1 rfl rfl) rfl (RGon (decide_eq_true h145) rfl (xc1 Tryz.underlying45) rfl ⟨rfl, trivial⟩ trivial trivial (RGon (decide_eq_true h145) rfl (xe1 (wr64 (by omega) (by omega))) rfl ⟨rfl, rfl, trivial⟩ trivial trivial (RGon (decide_eq_true h145) rfl (xc3 sl45 (x.l.length - 1) (by omega) (gN (by omega))) rfl ⟨rfl, rfl, trivial⟩ trivial trivial (RGon (decide_eq_true h145) rfl (xc7 ti166) rfl ⟨rfl, trivial⟩ trivial trivial ?_)))))))
   refine RGon (decide_eq_true h145) rfl d_neq rfl ⟨rfl, rfl, trivial⟩ trivial trivial (R2 (xb5 (decide_eq_true h145)) rfl rfl (R1 x5 rfl (x7 (by kernel_rfl) (x3 (xa2 ?_)))))
   exact xa8 Plain.mk' rfl rfl (Le.bool (by simp only [Wh.valid]; rw [if_neg (by omega), decide_eq_true (show x.l.length ≤ 1024 by omega), Bool.true_and]; exact decide_eq_decide.2 (by omega)))
  ·
   refine RGoff (decide_eq_false h145) rfl rfl (RGoff (decide_eq_false h145) rfl rfl (RGoff (decide_eq_false h145) rfl rfl (RGoff (decide_eq_false h145) rfl rfl (RGoff (decide_eq_false h145) rfl rfl (RGoff (decide_eq_false h145) rfl rfl (RGoff (decide_eq_false h145) rfl rfl (RGoff (decide_eq_false h145) rfl rfl ?_)))))))
   refine RGoff (decide_eq_false h145) rfl rfl (R2 (xb4 (decide_eq_false h145)) rfl rfl (R1 x5 rfl (x7 (by kernel_rfl) (x3 (xa2 ?_)))))
   exact xa8 Plain.mk' rfl rfl (Le.bool (by simp only [Wh.valid]; rw [if_neg (by omega), decide_eq_false (show ¬ x.l.length ≤ 1024 by omega), Bool.false_and]))
theorem c_RValidV (z : Int) (h : len16 z ≤ 1024) : Ct Tryz.prog 129 [tWh (wh z)] (tB true) := by
  have := c_RValid (wh z)
  rw [valid_wh h] at this; exact this
theorem len_nil {x : Int} : (wh x).l.length = 0 ↔ x = 0 := by
  show (dig 65536 x.natAbs).length = 0 ↔ _
  rw [List.length_eq_zero_iff, xh4 xa9]; omega
theorem c_RProduct (x y : Int) (hx : len16 x ≤ 4001) (hy : len16 y ≤ 4001) :
  Ct Tryz.prog 85 [tWh (wh x), tWh (wh y)] (tWh (wh (x * y))) := by
 refine Ct.intro Tryz.func85 rfl Tryz.ntmps85 rfl ?_
 intro w F
 refine x6 ?_
 refine x8 ?_
 refine RE (xd2 (k := 2) ti47 rfl) ⟨rfl, trivial⟩ trivial ⟨rfl, trivial⟩ (RE (xd2 (k := 3) ti47 rfl) ⟨rfl, trivial⟩ trivial ⟨rfl, trivial⟩ (RE (xb9 (k := 4) (n := 2) (agg := true) zr47.1 zr47.2 rfl) trivial trivial ⟨rfl, trivial⟩ (x7 (by kernel_rfl) (x3 (x6 ?_)))))
 refine xd8 mixed ?_
 refine R1 (x9 fo47_0 rfl) rfl (xa3 (0) ti4 rfl rfl rfl (At.g 0 rfl rfl) rfl (R1 (x9 fo47_0 rfl) rfl (xa3 (0) ti4 rfl rfl rfl (At.g 0 rfl rfl) rfl (R2 (d_neqB Tryz.underlying4) rfl rfl (R1 (x9 fo47_1 rfl) rfl (xa3 (0) ti45 rfl rfl rfl (At.g 1 rfl rfl) rfl (R1 (x9 fo47_1 rfl) rfl ?_)))))))
 refine xa3 (0) ti45 rfl rfl rfl (At.g 1 rfl rfl) rfl (R2 (xa0 (c_RTimes x.natAbs y.natAbs (by show len16 x ≤ 100000; omega) (by show len16 y ≤ 100000; omega)) fi136 rfl) rfl rfl (R2 (xa0 (c_RMake _ _) fi126 rfl) rfl rfl (RE (xa6 (es := 2) (agg := true) (0) ti47 rfl rfl rfl) ⟨rfl, rfl, trivial⟩ ⟨rfl, trivial⟩ trivial (xe0 (by kernel_rfl) (x3 (xa2 ?_))))))
 exact xf9 Plain.mk' rfl ⟨_, _, _, _, _, rfl, rfl, ti47, (Le.of (by rw [sgn_mul]))⟩
theorem c_RFloor (x y : Int) (hx : len16 x ≤ 4000) (hy : len16 y ≤ 4000) (hy0 : 0 < y) :
  Ct Tryz.prog 84 [tWh (wh x), tWh (wh y)] (tT [tWh (wh (x / y)), tWh (wh (x % y))]) := by
 have hrl : x.natAbs % y.natAbs < y.natAbs := Nat.mod_lt _ (by omega)
 have ey : (wh y).neg = false := decide_eq_false (by omega)
 have ex : (wh x).neg = decide (x < 0) := rfl
 have hql : (dig 65536 (x.natAbs / y.natAbs)).length ≤ 4000 := lenM (Nat.div_le_self _ _) hx
 refine Ct.intro Tryz.func84 rfl Tryz.ntmps84 rfl ?_
 intro w F
 refine x6 ?_
 refine x8 ?_
 refine RE (xd2 (k := 2) ti47 rfl) ⟨rfl, trivial⟩ trivial ⟨rfl, trivial⟩ (RE (xd2 (k := 3) ti47 rfl) ⟨rfl, trivial⟩ trivial ⟨rfl, trivial⟩ (RE (xb9 (k := 4) (n := 2) (agg := true) zr47.1 zr47.2 rfl) trivial trivial ⟨rfl, trivial⟩ (RE (xb9 (k := 5) (n := 2) (agg := true) zr47.1 zr47.2 rfl) trivial trivial ⟨rfl, trivial⟩ (x7 (by kernel_rfl) (x3 (x6 ?_))))))
 refine x8 ?_
 refine R1 (x9 fo47_1 rfl) rfl (xa3 (0) ti45 rfl rfl rfl (At.g 1 rfl rfl) rfl (R1 (x9 fo47_1 rfl) rfl (xa3 (0) ti45 rfl rfl rfl (At.g 1 rfl rfl) rfl (R2 (xa0 (c_RDivided x.natAbs y.natAbs (by omega) hx hy) fi127 rfl) rfl rfl (R1 x4 rfl (R1 (xa5 rfl) rfl (R1 (xa5 rfl) rfl ?_)))))))
 refine R1 x5 rfl (R1 x5 rfl (x7 (by kernel_rfl) (x3 (x6 (x6 ?_)))))
 refine x8 ?_
 refine R1 (x9 fo47_0 rfl) rfl (xa3 (0) ti4 rfl rfl rfl (At.g 0 rfl rfl) rfl (R1 (x9 fo47_0 rfl) rfl (xa3 (0) ti4 rfl rfl rfl (At.g 0 rfl rfl) rfl (R2 (d_neqB Tryz.underlying4) rfl rfl (R1 x4 rfl ?_)))))
 refine RGcase (t := 21) rfl (fun h240 => ?_) (fun h240 => ?_)
 ·
  have hxn : decide (x < 0) = true := by have h := h240; rw [ey, ex] at h; simpa using h
  refine RGon h240 rfl x4 rfl ⟨rfl, trivial⟩ trivial trivial (RGon h240 rfl (xc1 Tryz.underlying45) rfl ⟨rfl, trivial⟩ trivial trivial (RGon h240 rfl xg3 rfl ⟨rfl, rfl, trivial⟩ trivial trivial (R2 (xb5 h240) rfl rfl (x7 (by kernel_rfl) (x3 ?_)))))
  refine xb8 rfl (fun h240_2 => ?_) (fun h240_2 => ?_)
  ·
   have hr0 : x.natAbs % y.natAbs ≠ 0 := fun h => by rw [h, xf0] at h240_2; simp at h240_2
   have hQR := dm_quo hy0 (Q := (x.natAbs / y.natAbs + 1)) (R := (y.natAbs - x.natAbs % y.natAbs)) ⟨fun _ => ⟨rfl, rfl⟩, fun h => (h ⟨hxn, hr0⟩).elim⟩
   refine x6 ?_
   refine x8 ?_
   refine R1 x4 rfl (R1 (d_nums (n := 1) [1] Tryz.underlying45 el166 zf166 rfl rfl rfl) rfl (R2 (xa0 (c_RPlusOne (x.natAbs / y.natAbs) (by omega)) fi134 rfl) rfl rfl (R1 x5 rfl (x7 (by kernel_rfl) (x3 ?_)))))
   refine x8 ?_
   refine R1 (x9 fo47_1 rfl) rfl (xa3 (0) ti45 rfl rfl rfl (At.g 1 rfl rfl) rfl (R1 x4 rfl (R2 (xa0 (c_RMinus y.natAbs (x.natAbs % y.natAbs) (by omega) (by show len16 y ≤ 100000; omega)) fi135 rfl) rfl rfl (R1 x5 rfl (x7 (by kernel_rfl) (x3 (x6 ?_)))))))
   refine xd8 mixed ?_
   refine R1 (x9 fo47_0 rfl) rfl (xa3 (0) ti4 rfl rfl rfl (At.g 0 rfl rfl) rfl (R1 (x9 fo47_0 rfl) rfl (xa3 (0) ti4 rfl rfl rfl (At.g 0 rfl rfl) rfl (R2 (d_neqB Tryz.underlying4) rfl rfl (R1 x4 rfl (R2 (xa0 (c_RMake _ (x.natAbs / y.natAbs + 1)) fi126 rfl) rfl rfl (R1 (x9 fo47_0 rfl) rfl ?_)))))))
   refine xa3 (0) ti4 rfl rfl rfl (At.g 0 rfl rfl) rfl (R1 x4 rfl (R2 (xa0 (c_RMake _ (y.natAbs - x.natAbs % y.natAbs)) fi126 rfl) rfl rfl (RE (xa6 (es := 2) (agg := true) (0) ti47 rfl rfl rfl) ⟨rfl, rfl, trivial⟩ ⟨rfl, trivial⟩ trivial (RE (xa6 (es := 2) (agg := true) (0) ti47 rfl rfl rfl) ⟨rfl, rfl, trivial⟩ ⟨rfl, trivial⟩ trivial (xe0 (by kernel_rfl) (x3 (xa2 ?_)))))))
   exact xe8 Plain.mk' (rs := [.cell 4 47, .cell 5 47]) rfl rfl ⟨⟨_, _, _, _, _, rfl, rfl, ti47, (Le.of (by rw [hQR.1]))⟩, ⟨_, _, _, _, _, rfl, rfl, ti47, (Le.of (by rw [hQR.2]))⟩, trivial⟩
  ·
   have hr0 : x.natAbs % y.natAbs = 0 := (xh4 xa9).1 (List.length_eq_zero_iff.1 (by omega))
   have hQR := dm_quo hy0 (Q := (x.natAbs / y.natAbs)) (R := (x.natAbs % y.natAbs)) ⟨fun h => (h.2 hr0).elim, fun _ => ⟨rfl, rfl⟩⟩
   refine xa4 (x3 (x6 ?_))
   refine xd8 mixed ?_
   refine R1 (x9 fo47_0 rfl) rfl (xa3 (0) ti4 rfl rfl rfl (At.g 0 rfl rfl) rfl (R1 (x9 fo47_0 rfl) rfl (xa3 (0) ti4 rfl rfl rfl (At.g 0 rfl rfl) rfl (R2 (d_neqB Tryz.underlying4) rfl rfl (R1 x4 rfl (R2 (xa0 (c_RMake _ (x.natAbs / y.natAbs)) fi126 rfl) rfl rfl (R1 (x9 fo47_0 rfl) rfl ?_)))))))
   refine xa3 (0) ti4 rfl rfl rfl (At.g 0 rfl rfl) rfl (R1 x4 rfl (R2 (xa0 (c_RMake _ (x.natAbs % y.natAbs)) fi126 rfl) rfl rfl (RE (xa6 (es := 2) (agg := true) (0) ti47 rfl rfl rfl) ⟨rfl, rfl, trivial⟩ ⟨rfl, trivial⟩ trivial (RE (xa6 (es := 2) (agg := true) (0) ti47 rfl rfl rfl) ⟨rfl, rfl, trivial⟩ ⟨rfl, trivial⟩ trivial (xe0 (by kernel_rfl) (x3 (xa2 ?_)))))))
   exact xe8 Plain.mk' (rs := [.cell 4 47, .cell 5 47]) rfl rfl ⟨⟨_, _, _, _, _, rfl, rfl, ti47, (Le.of (by rw [hQR.1]))⟩, ⟨_, _, _, _, _, rfl, rfl, ti47, (Le.of (by rw [hQR.2]))⟩, trivial⟩
 ·
  have hxn : ¬ decide (x < 0) = true := by have h := h240; rw [ey, ex] at h; simpa using h
  have hQR := dm_quo hy0 (Q := (x.natAbs / y.natAbs)) (R := (x.natAbs % y.natAbs)) ⟨fun h => (hxn h.1).elim, fun _ => ⟨rfl, rfl⟩⟩
  refine RGoff h240 rfl rfl (RGoff h240 rfl rfl (RGoff h240 rfl rfl (R2 (xb4 h240) rfl rfl (x7 (by kernel_rfl) (x3 (C_bF rfl rfl (xa4 ?_)))))))
  refine x3 (x6 ?_)
  refine xd8 mixed ?_
  refine R1 (x9 fo47_0 rfl) rfl (xa3 (0) ti4 rfl rfl rfl (At.g 0 rfl rfl) rfl (R1 (x9 fo47_0 rfl) rfl (xa3 (0) ti4 rfl rfl rfl (At.g 0 rfl rfl) rfl (R2 (d_neqB Tryz.underlying4) rfl rfl (R1 x4 rfl (R2 (xa0 (c_RMake _ (x.natAbs / y.natAbs)) fi126 rfl) rfl rfl (R1 (x9 fo47_0 rfl) rfl ?_)))))))
  refine xa3 (0) ti4 rfl rfl rfl (At.g 0 rfl rfl) rfl (R1 x4 rfl (R2 (xa0 (c_RMake _ (x.natAbs % y.natAbs)) fi126 rfl) rfl rfl (RE (xa6 (es := 2) (agg := true) (0) ti47 rfl rfl rfl) ⟨rfl, rfl, trivial⟩ ⟨rfl, trivial⟩ trivial (RE (xa6 (es := 2) (agg := true) (0) ti47 rfl rfl rfl) ⟨rfl, rfl, trivial⟩ ⟨rfl, trivial⟩ trivial (xe0 (by kernel_rfl) (x3 (xa2 ?_)))))))
  exact xe8 Plain.mk' (rs := [.cell 4 47, .cell 5 47]) rfl rfl ⟨⟨_, _, _, _, _, rfl, rfl, ti47, (Le.of (by rw [hQR.1]))⟩, ⟨_, _, _, _, _, rfl, rfl, ti47, (Le.of (by rw [hQR.2]))⟩, trivial⟩
theorem c_RInt (z : Int) (hz : len16 z ≤ 1024) :
  Ct Tryz.prog 86 [tWh (wh z)] (tT [tI (if fits z then z else 0), tI (if fits z then 0 else 3)]) := by
 have hzl : (wh z).l.length ≤ 1024 := hz
 have hD : Dig 65536 (wh z).l := xe4 xa9 _
 refine Ct.intro Tryz.func86 rfl Tryz.ntmps86 rfl ?_
 intro w F
 refine x6 ?_
 refine x8 ?_
 refine RE (xd2 (k := 1) ti47 rfl) ⟨rfl, trivial⟩ trivial ⟨rfl, trivial⟩ (R1 x5 rfl (R1 x5 rfl (x7 (by kernel_rfl) (x3 (x6 (x6 ?_))))))
 refine x8 ?_
 refine RE (xb2 (0) ti47 rfl rfl) ⟨rfl, trivial⟩ ⟨rfl, trivial⟩ trivial (R1 (xa0 (c_RValidV z hz) fi129 rfl) rfl (R1 xe5 rfl (x7 (by kernel_rfl) (x3 (C_bF rfl rfl (xa4 (x3 ?_)))))))
 refine x6 (x6 ?_)
 refine x8 ?_
 refine R1 (x9 fo47_1 rfl) rfl (xa3 (0) ti45 rfl rfl rfl (At.g 1 rfl rfl) rfl (R1 (xc1 Tryz.underlying45) rfl (R2 xg3 rfl rfl (x7 (by kernel_rfl) (x3 ?_)))))
 refine xb8 rfl (fun h180 => ?_) (fun h180 => ?_)
 ·
  have hf : fits z = false := fits_len (by show 4 < (wh z).l.length; omega)
  refine x6 ?_
  refine x8 ?_
  refine R1 x5 rfl (R1 x5 rfl (x7 (by kernel_rfl) (x3 (xa2 (xa7 ?_)))))
  exact xe7 Plain.mk' rfl rfl rfl (Le.int (by rw [hf]; rfl)) (Le.int (by rw [hf]; rfl))
 ·
  have hlt : z.natAbs < 18446744073709551616 := len_fits (by show (wh z).l.length ≤ 4; omega)
  have hl4 : (wh z).l.length ≤ 4 := by omega
  refine xa4 (x3 (x6 ?_))
  refine x8 ?_
  refine R1 x5 rfl (x7 (by kernel_rfl) (x3 (x6 (x6 ?_))))
  refine x8 ?_
  refine R1 (x9 fo47_1 rfl) rfl (xa3 (0) ti45 rfl rfl rfl (At.g 1 rfl rfl) rfl (R1 (xc1 Tryz.underlying45) rfl (R2 (xe1 (wr64 (by omega) (by omega))) rfl rfl (R1 x5 rfl (x7 (by kernel_rfl) (x3 (xb3 ?_)))))))
  refine xd9 (fun (k : Nat) => k ≤ (wh z).l.length) (fun (k : Nat) => upd (upd (upd (fun _ => none) 1 (some (.own (.ptr 1 0)))) 4 (some (.val (tE (.int .u64 ((val 65536 ((wh z).l.drop k) : Nat) : Int)))))) 5 (some (.val (tI ((k : Int) - 1))))) (fun (k : Nat) => upd (fun _ => none) 1 (some (⟨47, 2, true, [.val (tWh (wh z))]⟩))) (nm [1]) (fun (k : Nat) => k) ((wh z).l.length) (Nat.le_refl _) (Sub.int rfl (by first | omega | rfl | (dsimp only; omega)) (Sub.le rfl (Le.int (by rw [List.drop_length]; rfl)) (Sub.cons rfl Sub.nil))) ((SubK.consI rfl ImpK.refl) SubK.nil) (SupG.val (SupG.val (SupG.own rfl SupG.nil))) (SupH.cons rfl (supJL rfl) SupH.nil) (lkOk rfl) ?_
  intro k hI
  refine x6 (x6 ?_)
  refine x8 ?_
  refine R1 x4 rfl (R2 d_geq rfl rfl (x7 (by kernel_rfl) (x3 ?_)))
  refine xb8 rfl (fun h184 => ?_) (fun h184 => ?_)
  ·
   obtain ⟨j, rfl⟩ : ∃ j, k = j + 1 := ⟨k - 1, by omega⟩
   have hv := val_lt (hD.drop (j + 1))
   rw [List.length_drop] at hv
   have hk1 : 65536 ^ ((wh z).l.length - (j + 1)) ≤ 65536 ^ 3 := Nat.pow_le_pow_right (by decide) (by omega)
   have hw := hD.getD (by decide) j
   have hst := xi3 65536 (wh z).l j (by omega)
   rw [Nat.mul_comm] at hst
   have hv48 : val 65536 ((wh z).l.drop (j + 1)) < 281474976710656 := by omega
   refine xa4 (x3 (x6 (xb3 ?_)))
   refine x8 ?_
   refine R1 x4 rfl (R2 (d_mul (r := ((val 65536 ((wh z).l.drop (j + 1)) * 65536 : Nat) : Int)) (by rw [wu64 (by omega) (by omega)]; omega)) rfl rfl (R1 (x9 fo47_1 rfl) rfl (xa3 (0) ti45 rfl rfl rfl (At.g 1 rfl rfl) rfl (R1 x4 rfl (R2 (xc3 sl45 (j) (by omega) (gN (by omega))) rfl rfl (R1 (xc7 ti166) rfl (R1 (xb0 Tryz.underlying142 (isS Tryz.underlying166) (by first | exact wu64 (by omega) (by omega) | exact mu64)) rfl ?_)))))))
   refine R2 (xc2 (r := ((val 65536 ((wh z).l.drop (j + 1)) * 65536 + (wh z).l.getD j 0 : Nat) : Int)) (by rw [wu64 (by omega) (by omega)]; omega)) rfl rfl (R1 x5 rfl (x7 (by kernel_rfl) (xc8 (x3 ?_))))
   refine x8 ?_
   refine R1 x4 rfl (R2 (xe1 (wr64 (by omega) (by omega))) rfl rfl (R1 x5 rfl (x7 (by kernel_rfl) ?_)))
   exact xc6 (j) ⟨(by omega), (by omega)⟩ (Sub.int rfl (by first | omega | rfl | (dsimp only; omega)) (Sub.le rfl (Le.int (by rw [hst, Nat.add_comm])) (Sub.cons rfl Sub.nil))) ((SubK.consI rfl ImpK.refl) SubK.nil) (SupG.val (SupG.val (SupG.own rfl SupG.nil))) (SupH.cons rfl (supJL rfl) SupH.nil) (lkOk rfl)
  ·
   refine xd4 (xc0 (xc0 (xe2 (x3 (x6 (x6 ?_))))))
   have hk0 : k = 0 := by omega
   subst hk0
   have hval : val 65536 ((wh z).l.drop 0) = z.natAbs := by rw [List.drop_zero]; exact val_dig xa9 _
   rw [hval]
   refine x8 ?_
   refine R1 (x9 fo47_0 rfl) rfl (xa3 (0) ti4 rfl rfl rfl (At.g 0 rfl rfl) rfl (R1 x4 rfl ?_))
   refine RGcase (t := 32) rfl (fun h187 => ?_) (fun h187 => ?_)
   ·
    have hz0 : z < 0 := of_decide_eq_true h187
    refine RGon h187 rfl x4 rfl ⟨rfl, trivial⟩ trivial trivial (RGon h187 rfl xg0 rfl ⟨rfl, rfl, trivial⟩ trivial trivial (R2 (xb5 h187) rfl rfl (x7 (by kernel_rfl) (x3 ?_))))
    refine xb8 rfl (fun h187_2 => ?_) (fun h187_2 => ?_)
    ·
     have hf : fits z = true := by simp only [fits, Bool.and_eq_true, decide_eq_true_eq]; omega
     refine x6 ?_
     refine x8 ?_
     refine R1 x4 rfl (R1 (d_neg (negU64 (by omega))) rfl (R1 (xb0 Tryz.underlying3 (isS Tryz.underlying142) (toI64 (Nat.mod_lt _ (by decide)))) rfl (R1 x5 rfl (R1 x5 rfl (x7 (by kernel_rfl) (x3 (xa2 ?_)))))))
     refine xa7 ?_
     exact xe7 Plain.mk' rfl rfl rfl (Le.int (by rw [hf]; simp only [↓reduceIte]; split <;> omega)) (Le.int (by rw [hf]; rfl))
    ·
     have hf : fits z = false := by simp only [fits, Bool.and_eq_false_iff, decide_eq_false_iff_not]; omega
     refine xa4 (x3 (x6 (x6 ?_)))
     refine x8 ?_
     refine R1 (x9 fo47_0 rfl) rfl (xa3 (0) ti4 rfl rfl rfl (At.g 0 rfl rfl) rfl (R1 xe5 rfl (R1 x4 rfl (RGoff (by simp [h187]) rfl rfl (RGoff (by simp [h187]) rfl rfl (R2 (xb4 (by simp [h187])) rfl rfl (x7 (by kernel_rfl) ?_)))))))
     refine x3 (C_bF rfl rfl (xa4 (x3 (x6 ?_))))
     refine x8 ?_
     refine R1 x5 rfl (R1 x5 rfl (x7 (by kernel_rfl) (x3 (xa2 ?_))))
     exact xe7 Plain.mk' rfl rfl rfl (Le.int (by rw [hf]; rfl)) (Le.int (by rw [hf]; rfl))
   ·
    have hz0 : ¬ z < 0 := of_decide_eq_false h187
    refine RGoff h187 rfl rfl (RGoff h187 rfl rfl (R2 (xb4 h187) rfl rfl (x7 (by kernel_rfl) (x3 (C_bF rfl rfl (xa4 (x3 ?_)))))))
    refine x6 (x6 ?_)
    refine x8 ?_
    refine R1 (x9 fo47_0 rfl) rfl (xa3 (0) ti4 rfl rfl rfl (At.g 0 rfl rfl) rfl (R1 xe5 rfl (R1 x4 rfl (RGon (by simp [h187]) rfl x4 rfl ⟨rfl, trivial⟩ trivial trivial (RGon (by simp [h187]) rfl xd7 rfl ⟨rfl, rfl, trivial⟩ trivial trivial (R2 (xb5 (by simp [h187])) rfl rfl (x7 (by kernel_rfl) ?_)))))))
    refine x3 ?_
    refine xb8 rfl (fun h190_2 => ?_) (fun h190_2 => ?_)
    ·
     have hf : fits z = true := by simp only [fits, Bool.and_eq_true, decide_eq_true_eq]; omega
     refine x6 ?_
     refine x8 ?_
     refine R1 x4 rfl (R1 (xb0 Tryz.underlying3 (isS Tryz.underlying142) (toI64 (by omega))) rfl (R1 x5 rfl (R1 x5 rfl (x7 (by kernel_rfl) (x3 (xa2 (xa7 ?_)))))))
     exact xe7 Plain.mk' rfl rfl rfl (Le.int (by rw [hf]; simp only [↓reduceIte]; split <;> omega)) (Le.int (by rw [hf]; rfl))
    ·
     have hf : fits z = false := by simp only [fits, Bool.and_eq_false_iff, decide_eq_false_iff_not]; omega
     refine xa4 (x3 (x6 ?_))
     refine x8 ?_
     refine R1 x5 rfl (R1 x5 rfl (x7 (by kernel_rfl) (x3 (xa2 ?_))))
     exact xe7 Plain.mk' rfl rfl rfl (Le.int (by rw [hf]; rfl)) (Le.int (by rw [hf]; rfl))
theorem c_RFits (f : Fr) :
  Ct Tryz.prog 130 [tFr f] (tB f.sh) := by
 refine Ct.intro Tryz.func130 rfl Tryz.ntmps130 rfl ?_
 intro w F
 refine x6 ?_
 refine x8 ?_
 refine RE (xd2 (k := 1) ti49 rfl) ⟨rfl, trivial⟩ trivial ⟨rfl, trivial⟩ (R1 x5 rfl (x7 (by kernel_rfl) (x3 (x6 ?_))))
 refine x8 ?_
 refine R1 (x9 fo49_0 rfl) rfl (R1 (x9 fo47_1 rfl) rfl (xa3 (0) ti45 rfl rfl rfl (At.t (At.g 0 rfl rfl) (At.g 1 rfl rfl)) rfl (R1 (xc1 Tryz.underlying45) rfl (R2 xg0 rfl rfl (R1 x4 rfl ?_)))))
 refine RGcaseD (t := 8) rfl (fun h27 => ?_) (fun h27 => ?_)
 ·
  refine RGon (decide_eq_true h27) rfl (x9 fo49_1 rfl) rfl ⟨rfl, trivial⟩ trivial trivial (RGon (decide_eq_true h27) rfl (x9 fo47_1 rfl) rfl ⟨rfl, trivial⟩ trivial trivial (xb7 (decide_eq_true h27) rfl rfl (0) ti45 rfl rfl rfl (At.t (At.g 1 rfl rfl) (At.g 1 rfl rfl)) rfl (RGon (decide_eq_true h27) rfl (xc1 Tryz.underlying45) rfl ⟨rfl, trivial⟩ trivial trivial (RGon (decide_eq_true h27) rfl xg0 rfl ⟨rfl, rfl, trivial⟩ trivial trivial (R2 (xb5 (decide_eq_true h27)) rfl rfl (R1 x5 rfl (x7 (by kernel_rfl) ?_)))))))
  refine x3 (xa2 ?_)
  exact xa8 Plain.mk' rfl rfl (Le.bool (by rw [Fr.sh, decide_eq_true (show f.n.l.length ≤ 256 by omega), Bool.true_and]; exact decide_eq_decide.2 (by omega)))
 ·
  refine RGoff (decide_eq_false h27) rfl rfl (RGoff (decide_eq_false h27) rfl rfl (RGoff (decide_eq_false h27) rfl rfl (RGoff (decide_eq_false h27) rfl rfl (RGoff (decide_eq_false h27) rfl rfl (R2 (xb4 (decide_eq_false h27)) rfl rfl (R1 x5 rfl (x7 (by kernel_rfl) ?_)))))))
  refine x3 (xa2 ?_)
  exact xa8 Plain.mk' rfl rfl (Le.bool (by rw [Fr.sh, decide_eq_false (show ¬ f.n.l.length ≤ 256 by omega)]; rfl))
theorem one_dec2 {x y : Int} : decide (dig 65536 (Nat.gcd x.natAbs y.natAbs) = [1]) = decide (Int.gcd x y = 1) := by
  have h1 : dig 65536 1 = [1] := by rw [dig_pos xa9 (by decide), show (1 : Nat) / 65536 = 0 by decide, xf0]
  refine decide_eq_decide.2 ⟨fun h => ?_, fun h => ?_⟩
  · rw [← h1] at h
    have h2 := congrArg (val 65536) h
    rw [val_dig xa9, val_dig xa9] at h2
    exact h2
  · have h : Nat.gcd x.natAbs y.natAbs = 1 := h
    rw [h, h1]
theorem prod_fr {a b : Rat} : Rat.divInt (a.num * b.num) ((a.den : Int) * (b.den : Int)) = a * b := by
  rw [Rat.mul_def, ← Int.natCast_mul, Rat.divInt_ofNat, Rat.normalize_eq_mkRat]
theorem c_R2Valid (f : Fr) (hn : Dig 65536 f.n.l) (hd : Dig 65536 f.d.l) :
  Ct Tryz.prog 80 [tFr f] (tB f.valid) := by
 obtain ⟨n, d⟩ := f
 replace hn : Dig 65536 n.l := hn
 replace hd : Dig 65536 d.l := hd
 refine Ct.intro Tryz.func80 rfl Tryz.ntmps80 rfl ?_
 intro w F
 refine x6 ?_
 refine x8 ?_
 refine RE (xd2 (k := 1) ti49 rfl) ⟨rfl, trivial⟩ trivial ⟨rfl, trivial⟩ (R1 x5 rfl (x7 (by kernel_rfl) (x3 (x6 (x6 ?_)))))
 refine x8 ?_
 refine R1 (x9 fo49_0 rfl) rfl (xa3 (0) ti47 rfl rfl rfl (At.g 0 rfl rfl) rfl (R1 (xa0 (c_RValid n) fi129 rfl) rfl (R1 xe5 rfl (R1 x4 rfl ?_))))
 refine RGcase (t := 7) rfl (fun h39 => ?_) (fun h39 => ?_)
 ·
  have hv1 : n.valid = false := by simpa using h39
  refine RGoff h39 rfl rfl (RGoff h39 rfl rfl (RGoff h39 rfl rfl (RGoff h39 rfl rfl (R2 (xb5 h39) rfl rfl (R1 x4 rfl (RGoff1 rfl rfl (RGoff1 rfl rfl ?_)))))))
  refine RGoff1 rfl rfl (R2 (xb5 rfl) rfl rfl (R1 x4 rfl (RGoff1 rfl rfl (RGoff1 rfl rfl (RGoff1 rfl rfl (R2 (xb5 rfl) rfl rfl (R1 x4 rfl ?_)))))))
  refine RGoff1 rfl rfl (RGoff1 rfl rfl (RGoff1 rfl rfl (RGoff1 rfl rfl (RGoff1 rfl rfl (R2 (xb5 rfl) rfl rfl (x7 (by kernel_rfl) (x3 ?_)))))))
  refine C_bT rfl rfl (x6 ?_)
  refine x8 ?_
  refine R1 x5 rfl (x7 (by kernel_rfl) (x3 (xa2 (xa7 ?_))))
  exact xa8 Plain.mk' rfl rfl (Le.bool (by simp only [Fr.valid, hv1, Bool.and_false, Bool.false_and]))
 ·
  have hv1 : n.valid = true := by simpa using h39
  refine RGon h39 rfl (x9 fo49_1 rfl) rfl ⟨rfl, trivial⟩ trivial trivial (xb7 h39 rfl rfl (0) ti47 rfl rfl rfl (At.g 1 rfl rfl) rfl (RGon h39 rfl (xa0 (c_RValid d) fi129 rfl) rfl ⟨rfl, trivial⟩ trivial trivial (RGon h39 rfl xe5 rfl ⟨rfl, trivial⟩ trivial trivial (R2 (xb4 h39) rfl rfl (R1 x4 rfl ?_)))))
  refine RGcase (t := 13) rfl (fun h39_2 => ?_) (fun h39_2 => ?_)
  ·
   have hv2 : d.valid = false := by simpa using h39_2
   refine RGoff h39_2 rfl rfl (RGoff h39_2 rfl rfl (RGoff h39_2 rfl rfl (R2 (xb5 h39_2) rfl rfl (R1 x4 rfl (RGoff1 rfl rfl (RGoff1 rfl rfl (RGoff1 rfl rfl ?_)))))))
   refine R2 (xb5 rfl) rfl rfl (R1 x4 rfl (RGoff1 rfl rfl (RGoff1 rfl rfl (RGoff1 rfl rfl (RGoff1 rfl rfl (RGoff1 rfl rfl (R2 (xb5 rfl) rfl rfl ?_)))))))
   refine x7 (by kernel_rfl) (x3 (C_bT rfl rfl (x6 ?_)))
   refine x8 ?_
   refine R1 x5 rfl (x7 (by kernel_rfl) (x3 (xa2 (xa7 ?_))))
   exact xa8 Plain.mk' rfl rfl (Le.bool (by simp only [Fr.valid, hv2, Bool.and_false, Bool.false_and]))
  ·
   have hv2 : d.valid = true := by simpa using h39_2
   obtain ⟨x, rfl, hxl⟩ := Wh.of_valid hn hv1
   obtain ⟨y, rfl, hyl⟩ := Wh.of_valid hd hv2
   have ix := int_wh x
   have iy := int_wh y
   refine RGon h39_2 rfl (xb2 (0) ti49 rfl rfl) rfl ⟨rfl, trivial⟩ ⟨rfl, trivial⟩ trivial (RGon h39_2 rfl (xa0 (c_RFits _) fi130 rfl) rfl ⟨rfl, trivial⟩ trivial trivial (RGon h39_2 rfl xe5 rfl ⟨rfl, trivial⟩ trivial trivial (R2 (xb4 h39_2) rfl rfl (R1 x4 rfl ?_))))
   refine RGcase (t := 18) rfl (fun h39_3 => ?_) (fun h39_3 => ?_)
   ·
    have hs : (⟨wh x, wh y⟩ : Fr).sh = false := by simpa using h39_3
    refine RGoff h39_3 rfl rfl (RGoff h39_3 rfl rfl (RGoff h39_3 rfl rfl (R2 (xb5 h39_3) rfl rfl (R1 x4 rfl (RGoff1 rfl rfl (RGoff1 rfl rfl (RGoff1 rfl rfl ?_)))))))
    refine RGoff1 rfl rfl (RGoff1 rfl rfl (R2 (xb5 rfl) rfl rfl (x7 (by kernel_rfl) (x3 (C_bT rfl rfl (x6 ?_))))))
    refine x8 ?_
    refine R1 x5 rfl (x7 (by kernel_rfl) (x3 (xa2 (xa7 ?_))))
    exact xa8 Plain.mk' rfl rfl (Le.bool (by simp only [Fr.valid, hs, Bool.false_and]))
   ·
    have hs : (⟨wh x, wh y⟩ : Fr).sh = true := by simpa using h39_3
    refine RGon h39_3 rfl (x9 fo49_1 rfl) rfl ⟨rfl, trivial⟩ trivial trivial (RGon h39_3 rfl (x9 fo47_0 rfl) rfl ⟨rfl, trivial⟩ trivial trivial (xb7 h39_3 rfl rfl (0) ti4 rfl rfl rfl (At.t (At.g 1 rfl rfl) (At.g 0 rfl rfl)) rfl (R2 (xb4 h39_3) rfl rfl (R1 x4 rfl ?_))))
    refine RGcase (t := 23) rfl (fun h39_4 => ?_) (fun h39_4 => ?_)
    ·
     have hy0 : ¬ 0 < y := by have : y < 0 := of_decide_eq_true h39_4; omega
     refine RGoff h39_4 rfl rfl (RGoff h39_4 rfl rfl (RGoff h39_4 rfl rfl (RGoff h39_4 rfl rfl (RGoff h39_4 rfl rfl (R2 (xb5 h39_4) rfl rfl (x7 (by kernel_rfl) (x3 ?_)))))))
     refine C_bT rfl rfl (x6 ?_)
     refine x8 ?_
     refine R1 x5 rfl (x7 (by kernel_rfl) (x3 (xa2 (xa7 ?_))))
     exact xa8 Plain.mk' rfl rfl (Le.bool (by simp only [Fr.valid, ix, iy, decide_eq_false hy0, Bool.and_false, Bool.false_and]))
    ·
     refine RGon h39_4 rfl (x9 fo49_1 rfl) rfl ⟨rfl, trivial⟩ trivial trivial (RGon h39_4 rfl (x9 fo47_1 rfl) rfl ⟨rfl, trivial⟩ trivial trivial (xb7 h39_4 rfl rfl (0) ti45 rfl rfl rfl (At.t (At.g 1 rfl rfl) (At.g 1 rfl rfl)) rfl (RGon h39_4 rfl (xc1 Tryz.underlying45) rfl ⟨rfl, trivial⟩ trivial trivial (RGon h39_4 rfl xf1 rfl ⟨rfl, rfl, trivial⟩ trivial trivial (R2 (xb4 h39_4) rfl rfl (x7 (by kernel_rfl) (x3 ?_)))))))
     refine xb8 rfl (fun h39_5 => ?_) (fun h39_5 => ?_)
     ·
      have h5 : (((wh y).l.length : Nat) : Int) = 0 := h39_5
      have hy0 : ¬ 0 < y := fun h => by have := len_nil.1 (show (wh y).l.length = 0 by omega); omega
      refine x6 ?_
      refine x8 ?_
      refine R1 x5 rfl (x7 (by kernel_rfl) (x3 (xa2 (xa7 ?_))))
      exact xa8 Plain.mk' rfl rfl (Le.bool (by simp only [Fr.valid, ix, iy, decide_eq_false hy0, Bool.and_false, Bool.false_and]))
     ·
      have h5 : ¬ (((wh y).l.length : Nat) : Int) = 0 := h39_5
      have hy0 : 0 < y := pos_of_wh h39_4 (by omega)
      refine xa4 (x3 (x6 ?_))
      refine x8 ?_
      refine R1 (x9 fo49_0 rfl) rfl (R1 (x9 fo47_1 rfl) rfl (xa3 (0) ti45 rfl rfl rfl (At.t (At.g 0 rfl rfl) (At.g 1 rfl rfl)) rfl (R1 (x9 fo49_1 rfl) rfl (R1 (x9 fo47_1 rfl) rfl (xa3 (0) ti45 rfl rfl rfl (At.t (At.g 1 rfl rfl) (At.g 1 rfl rfl)) rfl (R2 (xa0 (c_RCommon x.natAbs y.natAbs (by show len16 x ≤ 4000; omega) (by show len16 y ≤ 4000; omega)) fi124 rfl) rfl rfl (R1 (xa0 (c_Rone _) fi125 rfl) rfl ?_)))))))
      refine R1 x5 rfl (x7 (by kernel_rfl) (x3 (xa2 ?_)))
      exact xa8 Plain.mk' rfl rfl (Le.bool (by simp only [Fr.valid, ix, iy, hs, hv1, hv2, decide_eq_true hy0, Bool.true_and]; exact one_dec2))
theorem c_R2ValidQ (q : Rat) (h : short q) : Ct Tryz.prog 80 [tFr (fr q)] (tB true) := by
  have := c_R2Valid (fr q) (xe4 xa9 _) (xe4 xa9 _)
  rw [valid_fr h] at this; exact this
theorem c_R2told (q : Rat) :
  Ct Tryz.prog 146 [tFr (fr q)] (tT [tFr (resF q), tI (resFE q)]) := by
 refine Ct.intro Tryz.func146 rfl Tryz.ntmps146 rfl ?_
 intro w F
 refine x6 ?_
 refine x8 ?_
 refine RE (xd2 (k := 1) ti49 rfl) ⟨rfl, trivial⟩ trivial ⟨rfl, trivial⟩ (RE (xb9 (k := 2) (n := 4) (agg := true) zr49.1 zr49.2 rfl) trivial trivial ⟨rfl, trivial⟩ (R1 x5 rfl (x7 (by kernel_rfl) (x3 (x6 (x6 ?_))))))
 refine x8 ?_
 refine RE (xb2 (0) ti49 rfl rfl) ⟨rfl, trivial⟩ ⟨rfl, trivial⟩ trivial (R1 (xa0 (c_RFits (fr q)) fi130 rfl) rfl (R1 xe5 rfl (x7 (by kernel_rfl) (x3 ?_))))
 refine xf5 rfl (fun h31 => ?_) (fun h31 => ?_)
 ·
  have hk : ¬ short q := by rw [sh_fr] at h31; simpa using h31
  refine x6 ?_
  refine x8 ?_
  refine R0 (xd1 (r := tS [⟨2, true, (tS [⟨1, false, (tE (.bool false))⟩, ⟨1, false, (tLm [])⟩])⟩, ⟨2, true, (tS [⟨1, false, (tE (.bool false))⟩, ⟨1, false, (tLm [])⟩])⟩]) (ts := []) bu49 zr49.2 ⟨_, rfl⟩ rfl Le.refl)  (RE (xa6 (es := 4) (agg := true) (0) ti49 rfl rfl rfl) ⟨rfl, rfl, trivial⟩ ⟨rfl, trivial⟩ trivial (R1 x5 rfl (x7 (by kernel_rfl) (x3 (xa2 (xa7 ?_))))))
  exact xe8 Plain.mk' (rs := [.cell 2 49, .tmp 3]) rfl rfl ⟨⟨_, _, _, _, _, rfl, rfl, ti49, (Le.of (by rw [resF, if_neg hk]; rfl))⟩, ⟨_, rfl, (Le.int (by rw [resFE, if_neg hk]))⟩, trivial⟩
 ·
  have hk : short q := by rw [sh_fr] at h31; simpa using h31
  refine xa4 (x3 (x6 ?_))
  refine x8 ?_
  refine RE (xb2 (0) ti49 rfl rfl) ⟨rfl, trivial⟩ ⟨rfl, trivial⟩ trivial (RE (xa6 (es := 4) (agg := true) (0) ti49 rfl rfl rfl) ⟨rfl, rfl, trivial⟩ ⟨rfl, trivial⟩ trivial (R1 x5 rfl (x7 (by kernel_rfl) (x3 (xa2 ?_)))))
  exact xe8 Plain.mk' (rs := [.cell 2 49, .tmp 3]) rfl rfl ⟨⟨_, _, _, _, _, rfl, rfl, ti49, (Le.of (by rw [resF, if_pos hk]))⟩, ⟨_, rfl, (Le.int (by rw [resFE, if_pos hk]))⟩, trivial⟩
theorem c_R2Times (a b : Rat) (ha : short a) (hb : short b) :
  Ct Tryz.prog 147 [tFr (fr a), tFr (fr b)] (tFr (fr (a * b))) := by
 obtain ⟨an, ad⟩ := ha
 obtain ⟨bn, bd⟩ := hb
 have ha : short a := ⟨an, ad⟩
 have hb : short b := ⟨bn, bd⟩
 have da := a.den_nz
 have db := b.den_nz
 have l1 := len16_mul an bn
 have l2 := len16_mul ad bd
 refine Ct.intro Tryz.func147 rfl Tryz.ntmps147 rfl ?_
 intro w F
 refine x6 ?_
 refine x8 ?_
 refine RE (xd2 (k := 2) ti49 rfl) ⟨rfl, trivial⟩ trivial ⟨rfl, trivial⟩ (RE (xd2 (k := 3) ti49 rfl) ⟨rfl, trivial⟩ trivial ⟨rfl, trivial⟩ (RE (xb9 (k := 4) (n := 4) (agg := true) zr49.1 zr49.2 rfl) trivial trivial ⟨rfl, trivial⟩ (x7 (by kernel_rfl) (x3 (x6 ?_)))))
 refine xd8 mixed ?_
 refine R1 (x9 fo49_0 rfl) rfl (xa3 (0) ti47 rfl rfl rfl (At.g 0 rfl rfl) rfl (R1 (x9 fo49_0 rfl) rfl (xa3 (0) ti47 rfl rfl rfl (At.g 0 rfl rfl) rfl (R2 (xa0 (c_RProduct a.num b.num (by omega) (by omega)) fi85 rfl) rfl rfl (R1 (x9 fo49_1 rfl) rfl (xa3 (0) ti47 rfl rfl rfl (At.g 1 rfl rfl) rfl (R1 (x9 fo49_1 rfl) rfl ?_)))))))
 refine xa3 (0) ti47 rfl rfl rfl (At.g 1 rfl rfl) rfl (R2 (xa0 (c_RProduct (a.den : Int) (b.den : Int) (by omega) (by omega)) fi85 rfl) rfl rfl (R2 (xa0 (c_RLowest (a.num * b.num) ((a.den : Int) * (b.den : Int)) (by omega) (by omega) (Int.mul_ne_zero (by omega) (by omega))) fi76 rfl) rfl rfl (RE (xa6 (es := 4) (agg := true) (0) ti49 rfl rfl rfl) ⟨rfl, rfl, trivial⟩ ⟨rfl, trivial⟩ trivial (xe0 (by kernel_rfl) (x3 (xa2 ?_))))))
 exact xf9 Plain.mk' rfl ⟨_, _, _, _, _, rfl, rfl, ti49, (Le.of (by rw [prod_fr]))⟩
theorem c_R2Mul (a b : Rat) (ha : short a) (hb : short b) :
  Ct Tryz.prog 93 [tFr (fr a), tFr (fr b)] (tT [tFr (resF (a * b)), tI (resFE (a * b))]) := by
 refine Ct.intro Tryz.func93 rfl Tryz.ntmps93 rfl ?_
 intro w F
 refine x6 ?_
 refine x8 ?_
 refine RE (xd2 (k := 2) ti49 rfl) ⟨rfl, trivial⟩ trivial ⟨rfl, trivial⟩ (RE (xd2 (k := 3) ti49 rfl) ⟨rfl, trivial⟩ trivial ⟨rfl, trivial⟩ (RE (xb9 (k := 4) (n := 4) (agg := true) zr49.1 zr49.2 rfl) trivial trivial ⟨rfl, trivial⟩ (R1 x5 rfl (x7 (by kernel_rfl) (x3 (x6 (x6 ?_)))))))
 refine x8 ?_
 refine RE (xb2 (0) ti49 rfl rfl) ⟨rfl, trivial⟩ ⟨rfl, trivial⟩ trivial (R1 (xa0 (c_R2ValidQ a ha) fi80 rfl) rfl (R1 xe5 rfl (R1 x4 rfl (RGon rfl rfl (xb2 (0) ti49 rfl rfl) rfl ⟨rfl, trivial⟩ ⟨rfl, trivial⟩ trivial (RGon rfl rfl (xa0 (c_R2ValidQ b hb) fi80 rfl) rfl ⟨rfl, trivial⟩ trivial trivial (RGon rfl rfl xe5 rfl ⟨rfl, trivial⟩ trivial trivial (R2 (xb4 rfl) rfl rfl ?_)))))))
 refine x7 (by kernel_rfl) (x3 (C_bF rfl rfl (xa4 (x3 (x6 ?_)))))
 refine x8 ?_
 refine RE (xb2 (0) ti49 rfl rfl) ⟨rfl, trivial⟩ ⟨rfl, trivial⟩ trivial (RE (xb2 (0) ti49 rfl rfl) ⟨rfl, trivial⟩ ⟨rfl, trivial⟩ trivial (R2 (xa0 (c_R2Times a b ha hb) fi147 rfl) rfl rfl (R1 (xa0 (c_R2told (a * b)) fi146 rfl) rfl (R1 (xa5 rfl) rfl (R1 (xa5 rfl) rfl (RE (xa6 (es := 4) (agg := true) (0) ti49 rfl rfl rfl) ⟨rfl, rfl, trivial⟩ ⟨rfl, trivial⟩ trivial (R1 x5 rfl ?_)))))))
 refine x7 (by kernel_rfl) (x3 (xa2 ?_))
 exact xe8 Plain.mk' (rs := [.cell 4 49, .tmp 5]) rfl rfl ⟨⟨_, _, _, _, _, rfl, rfl, ti49, Le.refl⟩, ⟨_, rfl, Le.refl⟩, trivial⟩
theorem c_R2FromInt (n : Int) (h1 : -9223372036854775808 ≤ n) (h2 : n ≤ 9223372036854775807) :
  Ct Tryz.prog 82 [tI n] (tFr (fr (n : Rat))) := by
 refine Ct.intro Tryz.func82 rfl Tryz.ntmps82 rfl ?_
 intro w F
 refine x6 ?_
 refine x8 ?_
 refine RE (xb9 (k := 2) (n := 4) (agg := true) zr49.1 zr49.2 rfl) trivial trivial ⟨rfl, trivial⟩ (x7 (by kernel_rfl) (x3 (x6 ?_)))
 refine x8 ?_
 refine R1 x4 rfl (R1 (xa0 (c_RFromInt n h1 h2) fi77 rfl) rfl (R1 (xa0 (c_RFromInt 1 (by decide) (by decide)) fi77 rfl) rfl (R2 (xd1 (r := tS [⟨2, true, tWh (wh n)⟩, ⟨2, true, tWh (wh 1)⟩]) (ts := [(0, tWh (wh n)), (1, tWh (wh 1))]) bu49 zr49.2 ⟨_, rfl⟩ rfl ⟨_, _, _, _, rfl, Up.f (fs := [⟨2, true, (tS [⟨1, false, (tE (.bool false))⟩, ⟨1, false, (tLm [])⟩])⟩, ⟨2, true, (tS [⟨1, false, (tE (.bool false))⟩, ⟨1, false, (tLm [])⟩])⟩]) (f := ⟨2, true, (tS [⟨1, false, (tE (.bool false))⟩, ⟨1, false, (tLm [])⟩])⟩) (fs' := [⟨2, true, tWh (wh n)⟩, ⟨2, true, (tS [⟨1, false, (tE (.bool false))⟩, ⟨1, false, (tLm [])⟩])⟩]) 0 rfl rfl rfl, inferInstance, ⟨_, _, _, _, rfl, Up.f (fs := [⟨2, true, tWh (wh n)⟩, ⟨2, true, (tS [⟨1, false, (tE (.bool false))⟩, ⟨1, false, (tLm [])⟩])⟩]) (f := ⟨2, true, (tS [⟨1, false, (tE (.bool false))⟩, ⟨1, false, (tLm [])⟩])⟩) (fs' := [⟨2, true, tWh (wh n)⟩, ⟨2, true, tWh (wh 1)⟩]) 1 rfl rfl rfl, inferInstance, Le.refl⟩⟩) rfl rfl (RE (xa6 (es := 4) (agg := true) (0) ti49 rfl rfl rfl) ⟨rfl, rfl, trivial⟩ ⟨rfl, trivial⟩ trivial (x7 (by kernel_rfl) (x3 (xa2 ?_)))))))
 exact xf9 Plain.mk' rfl ⟨_, _, _, _, _, rfl, rfl, ti49, (Le.of (by rw [fr, Rat.num_intCast, Rat.den_intCast]; rfl))⟩
theorem c_R2Floor (q : Rat) (h : short q) :
  Ct Tryz.prog 94 [tFr (fr q)] (tT [tWh (wh q.floor), tI 0]) := by
 obtain ⟨qn, qd⟩ := h
 have h : short q := ⟨qn, qd⟩
 have hdp : (0 : Int) < (q.den : Int) := by have := q.den_pos; omega
 refine Ct.intro Tryz.func94 rfl Tryz.ntmps94 rfl ?_
 intro w F
 refine x6 ?_
 refine x8 ?_
 refine RE (xd2 (k := 1) ti49 rfl) ⟨rfl, trivial⟩ trivial ⟨rfl, trivial⟩ (RE (xb9 (k := 2) (n := 2) (agg := true) zr47.1 zr47.2 rfl) trivial trivial ⟨rfl, trivial⟩ (R1 x5 rfl (x7 (by kernel_rfl) (x3 (x6 (x6 ?_))))))
 refine x8 ?_
 refine RE (xb2 (0) ti49 rfl rfl) ⟨rfl, trivial⟩ ⟨rfl, trivial⟩ trivial (R1 (xa0 (c_R2ValidQ q h) fi80 rfl) rfl (R1 xe5 rfl (x7 (by kernel_rfl) (x3 (C_bF rfl rfl (xa4 (x3 ?_)))))))
 refine x6 ?_
 refine x8 ?_
 refine R1 (x9 fo49_0 rfl) rfl (xa3 (0) ti47 rfl rfl rfl (At.g 0 rfl rfl) rfl (R1 (x9 fo49_1 rfl) rfl (xa3 (0) ti47 rfl rfl rfl (At.g 1 rfl rfl) rfl (R2 (xa0 (c_RFloor q.num (q.den : Int) (by omega) (by omega) hdp) fi84 rfl) rfl rfl (R1 x4 rfl (R1 (xa5 rfl) rfl (R1 (xa5 rfl) rfl ?_)))))))
 refine RE (xb9 (k := 4) (n := 2) (agg := true) zr47.1 zr47.2 rfl) trivial trivial ⟨rfl, trivial⟩ (RE (xb9 (k := 5) (n := 2) (agg := true) zr47.1 zr47.2 rfl) trivial trivial ⟨rfl, trivial⟩ (RE (xa6 (es := 2) (agg := true) (0) ti47 rfl rfl rfl) ⟨rfl, rfl, trivial⟩ ⟨rfl, trivial⟩ trivial (RE (xa6 (es := 2) (agg := true) (0) ti47 rfl rfl rfl) ⟨rfl, rfl, trivial⟩ ⟨rfl, trivial⟩ trivial (x7 (by kernel_rfl) (x3 (x6 ?_))))))
 refine x8 ?_
 refine RE (xb2 (0) ti47 rfl rfl) ⟨rfl, trivial⟩ ⟨rfl, trivial⟩ trivial (RE (xa6 (es := 2) (agg := true) (0) ti47 rfl rfl rfl) ⟨rfl, rfl, trivial⟩ ⟨rfl, trivial⟩ trivial (R1 x5 rfl (x7 (by kernel_rfl) (x3 (xa2 ?_)))))
 exact xe8 Plain.mk' (rs := [.cell 2 47, .tmp 3]) rfl rfl ⟨⟨_, _, _, _, _, rfl, rfl, ti47, (Le.of (by rw [Rat.floor_def]))⟩, ⟨_, rfl, Le.refl⟩, trivial⟩
end An.S

/- Law 8: ServiceMonths: the program and the reference agree on months. -/
namespace An.S
open Go Go.Proofs An
set_option maxHeartbeats 2000000
set_option maxRecDepth 100000
theorem fi17 : FnI Tryz.prog 17 := ⟨_, Tryz.func17, by kernel_rfl, rfl⟩
theorem fi18 : FnI Tryz.prog 18 := ⟨_, Tryz.func18, by kernel_rfl, rfl⟩
theorem fi19 : FnI Tryz.prog 19 := ⟨_, Tryz.func19, by kernel_rfl, rfl⟩
theorem fi41 : FnI Tryz.prog 41 := ⟨_, Tryz.func41, by kernel_rfl, rfl⟩
theorem fi82 : FnI Tryz.prog 82 := ⟨_, Tryz.func82, by kernel_rfl, rfl⟩
theorem fi86 : FnI Tryz.prog 86 := ⟨_, Tryz.func86, by kernel_rfl, rfl⟩
theorem fi93 : FnI Tryz.prog 93 := ⟨_, Tryz.func93, by kernel_rfl, rfl⟩
theorem fi94 : FnI Tryz.prog 94 := ⟨_, Tryz.func94, by kernel_rfl, rfl⟩
theorem c_R2MulT (f : Fr) (n : Int) (hf1 : f = fr f.rat) (hf2 : short f.rat) (hn : short (n : Rat)) : Ct Tryz.prog 93 [tFr f, tFr (fr (n : Rat))] (tT [tFr (resF (f.rat * (n : Rat))), tI (resFE (f.rat * (n : Rat)))]) := by
  have h := c_R2Mul f.rat (n : Rat) hf2 hn
  rw [← hf1] at h; exact h
theorem c_R2FloorR (q : Rat) (h : short q) : Ct Tryz.prog 94 [tFr (resF q)] (tT [tWh (wh q.floor), tI 0]) := by
  rw [show resF q = fr q from if_pos h]; exact c_R2Floor q h
theorem c_R8Months (f : Fr) (hF : f.dig) :
    Ct Tryz.prog 41 [tFr f] (tT [tI (if moC f then (m12 f).floor else 0), tI (if moB f then (if moC f then 0 else 3) else 2)]) := by
  refine Ct.intro Tryz.func41 rfl Tryz.ntmps41 rfl ?_
  intro w F
  refine x6 ?_
  refine x8 ?_
  refine RE (xd2 (k := 1) ti49 rfl) ⟨rfl, trivial⟩ trivial ⟨rfl, trivial⟩ (R1 x5 rfl (R1 x5 rfl (x7 (by kernel_rfl) (x3 (x6 (x6 ?_))))))
  refine x8 ?_
  refine RE (xb2 (0) ti49 rfl rfl) ⟨rfl, trivial⟩ ⟨rfl, trivial⟩ trivial (R1 (xa0 (c_R2Valid f hF.1 hF.2) fi80 rfl) rfl (R1 xe5 rfl (R1 x4 rfl ?_)))
  refine RGcase (t := 13) rfl (fun h58 => ?_) (fun h58 => ?_)
  ·
    have hk : ¬ moB f := fun h => by rw [h.1] at h58; cases h58
    refine RGoff h58 rfl rfl (RGoff h58 rfl rfl (RGoff h58 rfl rfl (R2 (xb5 h58) rfl rfl (x7 (by kernel_rfl) (x3 (C_bT rfl rfl (x6 ?_)))))))
    refine x8 ?_
    refine R1 x5 rfl (R1 x5 rfl (x7 (by kernel_rfl) (x3 (xa2 (xa7 ?_)))))
    exact xe7 Plain.mk' rfl rfl rfl (Le.int (by rw [if_neg (fun h => hk h.1)])) (Le.int (by rw [if_neg hk]))
  ·
    have hv : f.valid = true := by simpa using h58
    refine RGon h58 rfl (x9 fo49_0 rfl) rfl ⟨rfl, trivial⟩ trivial trivial (RGon h58 rfl (x9 fo47_0 rfl) rfl ⟨rfl, trivial⟩ trivial trivial (xb7 h58 rfl rfl (0) ti4 rfl rfl rfl (At.t (At.g 0 rfl rfl) (At.g 0 rfl rfl)) rfl (R2 (xb4 h58) rfl rfl (x7 (by kernel_rfl) (x3 ?_)))))
    refine xf5 rfl (fun h58_2 => ?_) (fun h58_2 => ?_)
    ·
      have hk : ¬ moB f := fun h => by rw [h.2] at h58_2; cases h58_2
      refine x6 ?_
      refine x8 ?_
      refine R1 x5 rfl (R1 x5 rfl (x7 (by kernel_rfl) (x3 (xa2 (xa7 ?_)))))
      exact xe7 Plain.mk' rfl rfl rfl (Le.int (by rw [if_neg (fun h => hk h.1)])) (Le.int (by rw [if_neg hk]))
    ·
      have hb : moB f := ⟨hv, h58_2⟩
      have hf := Fr.of_valid' hF hv
      refine xa4 (x3 (x6 ?_))
      refine xd8 mixed ?_
      refine RE (xb2 (0) ti49 rfl rfl) ⟨rfl, trivial⟩ ⟨rfl, trivial⟩ trivial (R1 (xa0 (c_R2FromInt 12 (by decide) (by decide)) fi82 rfl) rfl (R2 (xa0 (c_R2MulT f 12 hf.1 hf.2 (short_int (len16_small (by decide) (by decide)))) fi93 rfl) rfl rfl (R1 x4 rfl (R1 (xa5 rfl) rfl (R1 (xa5 rfl) rfl (RE (xb9 (k := 4) (n := 4) (agg := true) zr49.1 zr49.2 rfl) trivial trivial ⟨rfl, trivial⟩ (RE (xa6 (es := 4) (agg := true) (0) ti49 rfl rfl rfl) ⟨rfl, rfl, trivial⟩ ⟨rfl, trivial⟩ trivial ?_)))))))
      refine R1 x5 rfl (xe0 (by kernel_rfl) (x3 (x6 (x6 ?_))))
      refine x8 ?_
      refine R1 x4 rfl (R2 d_neq rfl rfl (x7 (by kernel_rfl) (x3 ?_)))
      refine xb8 rfl (fun h62 => ?_) (fun h62 => ?_)
      ·
        refine x6 ?_
        refine x8 ?_
        refine R1 x4 rfl (R1 x5 rfl (R1 x5 rfl (x7 (by kernel_rfl) (x3 (xa2 (xa7 ?_))))))
        exact xe7 Plain.mk' rfl rfl rfl (Le.int (by rw [if_neg (fun h : moC f => xh7 h62 h.2.1)])) (Le.int (by rw [if_pos hb, if_neg (fun h : moC f => xh7 h62 h.2.1), resFE, if_neg (xh7 h62)]))
      ·
        have hs : short (m12 f) := resFE_zero (Decidable.not_not.1 h62)
        have hlen := len_floor hs
        have hn0 := m12_nonneg hF hb
        refine xa4 (x3 (x6 ?_))
        refine x8 ?_
        refine RE (xb2 (0) ti49 rfl rfl) ⟨rfl, trivial⟩ ⟨rfl, trivial⟩ trivial (R1 (xa0 (c_R2FloorR (m12 f) hs) fi94 rfl) rfl (R1 x4 rfl (R1 (xa5 rfl) rfl (R1 (xa5 rfl) rfl (RE (xb9 (k := 6) (n := 2) (agg := true) zr47.1 zr47.2 rfl) trivial trivial ⟨rfl, trivial⟩ (RE (xa6 (es := 2) (agg := true) (0) ti47 rfl rfl rfl) ⟨rfl, rfl, trivial⟩ ⟨rfl, trivial⟩ trivial (R1 x5 rfl ?_)))))))
        refine x7 (by kernel_rfl) (x3 (x6 ?_))
        refine x8 ?_
        refine RE (xb2 (0) ti47 rfl rfl) ⟨rfl, trivial⟩ ⟨rfl, trivial⟩ trivial (R1 (xa0 (c_RInt (m12 f).floor (by omega)) fi86 rfl) rfl (R1 x4 rfl (R1 (xa5 rfl) rfl (R1 (xa5 rfl) rfl (R1 x5 rfl (R1 x5 rfl (x7 (by kernel_rfl) ?_)))))))
        refine x3 (x6 (x6 ?_))
        refine x8 ?_
        refine R1 x4 rfl (R2 d_neq rfl rfl (R1 x4 rfl ?_))
        refine RGcaseD (t := 39) rfl (fun h67 => ?_) (fun h67 => ?_)
        ·
          have hfit : fits (m12 f).floor = false := by
            cases h : fits (m12 f).floor with
            | false => rfl
            | true => exact absurd (by rw [h]; rfl) h67
          have hnc : ¬ moC f := fun h => by
            have h2 := h.2.2
            have h3 : fits (m12 f).floor = true := by simp only [fits, Bool.and_eq_true, decide_eq_true_eq]; omega
            rw [hfit] at h3; cases h3
          refine RGoff (decide_eq_true h67) rfl rfl (RGoff (decide_eq_true h67) rfl rfl (R2 (xb5 (decide_eq_true h67)) rfl rfl (x7 (by kernel_rfl) (x3 (C_bT rfl rfl (x6 ?_))))))
          refine x8 ?_
          refine R1 x5 rfl (R1 x5 rfl (x7 (by kernel_rfl) (x3 (xa2 (xa7 ?_)))))
          exact xe7 Plain.mk' rfl rfl rfl (Le.int (by rw [if_neg hnc])) (Le.int (by rw [if_pos hb, if_neg hnc]))
        ·
          have hfit : fits (m12 f).floor = true := by
            cases h : fits (m12 f).floor with
            | true => rfl
            | false => exact absurd (by rw [h]; decide) h67
          refine RGon (decide_eq_false h67) rfl x4 rfl ⟨rfl, trivial⟩ trivial trivial (RGon (decide_eq_false h67) rfl xg3 rfl ⟨rfl, rfl, trivial⟩ trivial trivial (R2 (xb4 (decide_eq_false h67)) rfl rfl (x7 (by kernel_rfl) (x3 ?_))))
          refine xb8 rfl (fun h67_2 => ?_) (fun h67_2 => ?_)
          ·
            have hnc : ¬ moC f := fun h => by
              have h2 := h.2.2
              rw [if_pos hfit] at h67_2; omega
            refine x6 ?_
            refine x8 ?_
            refine R1 x5 rfl (R1 x5 rfl (x7 (by kernel_rfl) (x3 (xa2 (xa7 ?_)))))
            exact xe7 Plain.mk' rfl rfl rfl (Le.int (by rw [if_neg hnc])) (Le.int (by rw [if_pos hb, if_neg hnc]))
          ·
            rw [if_pos hfit] at h67_2
            have hc : moC f := ⟨hb, hs, by omega⟩
            refine xa4 (x3 (x6 ?_))
            refine x8 ?_
            refine R1 x4 rfl (R1 x5 rfl (R1 x5 rfl (x7 (by kernel_rfl) (x3 (xa2 ?_)))))
            exact xe7 Plain.mk' rfl rfl rfl (Le.int (by rw [if_pos hfit, if_pos hc])) (Le.int (by rw [if_pos hb, if_pos hc]))
theorem c_LimbsW (x : Fr) :
  Ct Tryz.prog 17 [tFr x] (tI (IntKind.i64.wrap ((x.n.l.length : Int) + (x.d.l.length : Int)))) := by
 refine Ct.intro Tryz.func17 rfl Tryz.ntmps17 rfl ?_
 intro w F
 refine x6 ?_
 refine x8 ?_
 refine RE (xd2 (k := 1) ti49 rfl) ⟨rfl, trivial⟩ trivial ⟨rfl, trivial⟩ (R1 x5 rfl (x7 (by kernel_rfl) (x3 (x6 ?_))))
 refine x8 ?_
 refine R1 (x9 fo49_0 rfl) rfl (R1 (x9 fo47_1 rfl) rfl (xa3 (0) ti45 rfl rfl rfl (At.t (At.g 0 rfl rfl) (At.g 1 rfl rfl)) rfl (R1 (xc1 Tryz.underlying45) rfl (R1 (x9 fo49_1 rfl) rfl (R1 (x9 fo47_1 rfl) rfl (xa3 (0) ti45 rfl rfl rfl (At.t (At.g 1 rfl rfl) (At.g 1 rfl rfl)) rfl (R1 (xc1 Tryz.underlying45) rfl ?_)))))))
 refine R2 (xc2 rfl) rfl rfl (R1 x5 rfl (x7 (by kernel_rfl) (x3 (xa2 ?_))))
 exact xa8 Plain.mk' rfl rfl Le.refl
theorem c_months8 (f : Fr) (hF : f.dig) :
  Ct Tryz.prog 18 [tFr f] (tB true) := by
 refine Ct.intro Tryz.func18 rfl Tryz.ntmps18 rfl ?_
 intro w F
 refine x6 ?_
 refine x8 ?_
 refine RE (xd2 (k := 1) ti49 rfl) ⟨rfl, trivial⟩ trivial ⟨rfl, trivial⟩ (R1 x5 rfl (x7 (by kernel_rfl) (x3 (x6 ?_))))
 refine x8 ?_
 refine RE (xb2 (0) ti49 rfl rfl) ⟨rfl, trivial⟩ ⟨rfl, trivial⟩ trivial (R1 (xa0 (c_Months f hF) fi40 rfl) rfl (R1 x4 rfl (R1 (xa5 rfl) rfl (R1 (xa5 rfl) rfl (R1 x5 rfl (R1 x5 rfl (x7 (by kernel_rfl) ?_)))))))
 refine x3 (x6 ?_)
 refine x8 ?_
 refine RE (xb2 (0) ti49 rfl rfl) ⟨rfl, trivial⟩ ⟨rfl, trivial⟩ trivial (R1 (xa0 (c_R8Months f hF) fi41 rfl) rfl (R1 x4 rfl (R1 (xa5 rfl) rfl (R1 (xa5 rfl) rfl (R1 x5 rfl (R1 x5 rfl (x7 (by kernel_rfl) ?_)))))))
 refine x3 (x6 ?_)
 refine x8 ?_
 refine R1 x4 rfl (R1 x4 rfl (R2 xf1 rfl rfl (R1 x4 rfl (RGon (decide_eq_true (by rfl)) rfl x4 rfl ⟨rfl, trivial⟩ trivial trivial (RGon (decide_eq_true (by rfl)) rfl x4 rfl ⟨rfl, trivial⟩ trivial trivial (RGon (decide_eq_true (by rfl)) rfl xf1 rfl ⟨rfl, rfl, trivial⟩ trivial trivial (R2 (xb5 (decide_eq_true (by rfl))) rfl rfl ?_)))))))
 refine R1 x5 rfl (x7 (by kernel_rfl) (x3 (xa2 ?_)))
 exact xa8 Plain.mk' rfl rfl (Le.bool (decide_eq_true rfl))
theorem c_ServiceMonths (f : Fr) (hF : f.dig) :
  Ct Tryz.prog 4 [tFr f] (tB true) := by
 refine Ct.intro Tryz.func4 rfl Tryz.ntmps4 rfl ?_
 intro w F
 refine x6 ?_
 refine x8 ?_
 refine RE (xd2 (k := 1) ti49 rfl) ⟨rfl, trivial⟩ trivial ⟨rfl, trivial⟩ (R1 x5 rfl (x7 (by kernel_rfl) (x3 (x6 ?_))))
 refine x8 ?_
 refine RE (xb2 (0) ti49 rfl rfl) ⟨rfl, trivial⟩ ⟨rfl, trivial⟩ trivial (R1 (xa0 (c_LimbsW f) fi17 rfl) rfl (R2 xg3 rfl rfl (R1 x4 rfl ?_)))
 refine RGcaseD (t := 6) rfl (fun h96 => ?_) (fun h96 => ?_)
 ·
  refine RGoff (decide_eq_true h96) rfl rfl (RGoff (decide_eq_true h96) rfl rfl (R2 (xb5 (decide_eq_true h96)) rfl rfl (R1 x4 rfl (RGon rfl rfl (xa0 c_awake fi19 rfl) rfl trivial trivial trivial (R2 (xb5 rfl) rfl rfl (R1 x5 rfl (x7 (by kernel_rfl) ?_)))))))
  refine x3 (xa2 ?_)
  exact xa8 Plain.mk' rfl rfl Le.refl
 ·
  refine RGon (decide_eq_false h96) rfl (xb2 (0) ti49 rfl rfl) rfl ⟨rfl, trivial⟩ ⟨rfl, trivial⟩ trivial (RGon (decide_eq_false h96) rfl (xa0 (c_months8 f hF) fi18 rfl) rfl ⟨rfl, trivial⟩ trivial trivial (R2 (xb4 (decide_eq_false h96)) rfl rfl (R1 x4 rfl (RGon rfl rfl (xa0 c_awake fi19 rfl) rfl trivial trivial trivial (R2 (xb5 rfl) rfl rfl (R1 x5 rfl (x7 (by kernel_rfl) ?_)))))))
  refine x3 (xa2 ?_)
  exact xa8 Plain.mk' rfl rfl Le.refl
end An.S

/- What the readers of law 8 read: fractions. -/
namespace An.S
open Go Go.Proofs An
open Go.ChangeShapes Go.WideShapes Go.ChangeAt Go.RowKit
set_option maxRecDepth 100000
theorem own : ownKnob Tryz.prog.godebug = none := by kernel_rfl
theorem laidOut : laidOutB Tryz.prog = true := by kernel_rfl
theorem oBool : Opn Tryz.prog 4 1 false (fun b : Bool => tB b) (fun _ => True) := Opn.bool Tryz.underlying4 (by kernel_rfl)
theorem oU16 : Opn Tryz.prog 166 1 false (fun n : Nat => tE (.int .u16 n)) (fun n => n < 65536) := Opn.nat Tryz.underlying166 (by kernel_rfl) rfl rfl
theorem oLm : Opn Tryz.prog 45 1 false (fun l : List Nat => tLm l) (fun l => Dig 65536 l) := (Opn.slice Tryz.underlying45 (by kernel_rfl) oU16).as id (fun _ => rfl) (fun _ h => h)
theorem oWh : Opn Tryz.prog 47 2 true (fun x : Wh => tWh x) (fun x => Dig 65536 x.l) :=
  (Opn.struct Tryz.underlying47 (by kernel_rfl) (by decide) (OpnF.cons oBool rfl rfl (OpnF.cons oLm rfl rfl OpnF.nil rfl) rfl)).as (fun x => ⟨x.1, x.2.1⟩) (fun _ => rfl) (fun _ h => h.2.1)
theorem oFr : Opn Tryz.prog 49 4 true (fun x : Fr => tFr x) (fun x => x.dig) :=
  (Opn.struct Tryz.underlying49 (by kernel_rfl) (by decide) (OpnF.cons oWh rfl rfl (OpnF.cons oWh rfl rfl OpnF.nil rfl) rfl)).as (fun x => ⟨x.1, x.2.1⟩) (fun _ => rfl) (fun _ h => ⟨h.1, h.2.1⟩)
/-- What a contract says, as the frame of a statement wants it. -/
theorem walked {f : FuncId} {ts : List Ty} (h : Ct Tryz.prog f ts (tB true)) {vs : List Value} {W : World} (ha : Tup.all (Old W) W ts vs) : Calls Tryz.prog f vs.toArray W fun e W' => e = .returned (.bool true) ∧ Ext W W' :=
  (h (Old W) W vs ha).mono fun e W' ⟨v, h1, h2, h3⟩ => by
    have h3 : v = .bool true := h3
    subst h3; exact ⟨h1, h2⟩
end An.S
