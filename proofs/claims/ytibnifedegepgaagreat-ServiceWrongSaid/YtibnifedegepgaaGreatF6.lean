/- Part 6 of a proof: S16. -/
import Derived.Test.YtibnifedegepgaaGreatF5
/- Law 8: ServiceWrong. -/
namespace An.S
open Go Go.Proofs An
set_option maxHeartbeats 2000000
set_option maxRecDepth 100000
theorem ti33 : TyI Tryz.prog 33 1 false := ⟨by kernel_rfl, by kernel_rfl⟩
theorem sl59 : SlI Tryz.prog 59 33 1 false := ⟨Tryz.underlying59, ti33⟩
theorem fi10 : FnI Tryz.prog 10 := ⟨_, Tryz.func10, by kernel_rfl, rfl⟩
theorem fi23 : FnI Tryz.prog 23 := ⟨_, Tryz.func23, by kernel_rfl, rfl⟩
theorem el33 : ElI Tryz.prog 33 1 8 false (.int .i64 0) := ⟨ti33, by kernel_rfl, by kernel_rfl⟩
theorem zr53 : (Tryz.prog.info? 53).bind (·.zero) = some (.agg #[.int .i64 0, .int .i64 0, .int .u8 0, .bool false, .slice none 0 0, .bool false, .slice none 0 0, .int .i64 0, .int .i64 0, .int .i64 0, .int .u8 0, .bool false, .slice none 0 0, .bool false, .slice none 0 0, .int .i64 0, .int .i64 0, .int .i64 0, .int .u8 0, .bool false, .slice none 0 0, .bool false, .slice none 0 0, .int .i64 0, .int .i64 0, .int .i64 0, .int .u8 0, .bool false, .slice none 0 0, .bool false, .slice none 0 0, .int .i64 0]) ∧ ∀ F w, (tS [⟨8, true, (tS [⟨1, false, (tE (.int .i64 0))⟩, ⟨1, false, (tE (.int .i64 0))⟩, ⟨6, true, (tS [⟨1, false, (tE (.int .u8 0))⟩, ⟨4, true, (tS [⟨2, true, (tS [⟨1, false, (tE (.bool false))⟩, ⟨1, false, (tLm [])⟩])⟩, ⟨2, true, (tS [⟨1, false, (tE (.bool false))⟩, ⟨1, false, (tLm [])⟩])⟩])⟩, ⟨1, false, (tE (.int .i64 0))⟩])⟩])⟩, ⟨8, true, (tS [⟨1, false, (tE (.int .i64 0))⟩, ⟨1, false, (tE (.int .i64 0))⟩, ⟨6, true, (tS [⟨1, false, (tE (.int .u8 0))⟩, ⟨4, true, (tS [⟨2, true, (tS [⟨1, false, (tE (.bool false))⟩, ⟨1, false, (tLm [])⟩])⟩, ⟨2, true, (tS [⟨1, false, (tE (.bool false))⟩, ⟨1, false, (tLm [])⟩])⟩])⟩, ⟨1, false, (tE (.int .i64 0))⟩])⟩])⟩, ⟨8, true, (tS [⟨1, false, (tE (.int .i64 0))⟩, ⟨1, false, (tE (.int .i64 0))⟩, ⟨6, true, (tS [⟨1, false, (tE (.int .u8 0))⟩, ⟨4, true, (tS [⟨2, true, (tS [⟨1, false, (tE (.bool false))⟩, ⟨1, false, (tLm [])⟩])⟩, ⟨2, true, (tS [⟨1, false, (tE (.bool false))⟩, ⟨1, false, (tLm [])⟩])⟩])⟩, ⟨1, false, (tE (.int .i64 0))⟩])⟩])⟩, ⟨8, true, (tS [⟨1, false, (tE (.int .i64 0))⟩, ⟨1, false, (tE (.int .i64 0))⟩, ⟨6, true, (tS [⟨1, false, (tE (.int .u8 0))⟩, ⟨4, true, (tS [⟨2, true, (tS [⟨1, false, (tE (.bool false))⟩, ⟨1, false, (tLm [])⟩])⟩, ⟨2, true, (tS [⟨1, false, (tE (.bool false))⟩, ⟨1, false, (tLm [])⟩])⟩])⟩, ⟨1, false, (tE (.int .i64 0))⟩])⟩])⟩]).p F w (.agg #[.int .i64 0, .int .i64 0, .int .u8 0, .bool false, .slice none 0 0, .bool false, .slice none 0 0, .int .i64 0, .int .i64 0, .int .i64 0, .int .u8 0, .bool false, .slice none 0 0, .bool false, .slice none 0 0, .int .i64 0, .int .i64 0, .int .i64 0, .int .u8 0, .bool false, .slice none 0 0, .bool false, .slice none 0 0, .int .i64 0, .int .i64 0, .int .i64 0, .int .u8 0, .bool false, .slice none 0 0, .bool false, .slice none 0 0, .int .i64 0]) := ⟨by kernel_rfl, fun _ _ => ⟨_, rfl, rfl, ⟨fun h => Bool.noConfusion h, ⟨_, rfl, rfl, ⟨fun _ => rfl, rfl⟩, ⟨fun _ => rfl, rfl⟩, ⟨fun h => Bool.noConfusion h, ⟨_, rfl, rfl, ⟨fun _ => rfl, rfl⟩, ⟨fun h => Bool.noConfusion h, ⟨_, rfl, rfl, ⟨fun h => Bool.noConfusion h, ⟨_, rfl, rfl, ⟨fun _ => rfl, rfl⟩, ⟨fun _ => rfl, ⟨none, 0, rfl, Nat.le_refl _, by decide, .inl rfl⟩⟩, trivial⟩⟩, ⟨fun h => Bool.noConfusion h, ⟨_, rfl, rfl, ⟨fun _ => rfl, rfl⟩, ⟨fun _ => rfl, ⟨none, 0, rfl, Nat.le_refl _, by decide, .inl rfl⟩⟩, trivial⟩⟩, trivial⟩⟩, ⟨fun _ => rfl, rfl⟩, trivial⟩⟩, trivial⟩⟩, ⟨fun h => Bool.noConfusion h, ⟨_, rfl, rfl, ⟨fun _ => rfl, rfl⟩, ⟨fun _ => rfl, rfl⟩, ⟨fun h => Bool.noConfusion h, ⟨_, rfl, rfl, ⟨fun _ => rfl, rfl⟩, ⟨fun h => Bool.noConfusion h, ⟨_, rfl, rfl, ⟨fun h => Bool.noConfusion h, ⟨_, rfl, rfl, ⟨fun _ => rfl, rfl⟩, ⟨fun _ => rfl, ⟨none, 0, rfl, Nat.le_refl _, by decide, .inl rfl⟩⟩, trivial⟩⟩, ⟨fun h => Bool.noConfusion h, ⟨_, rfl, rfl, ⟨fun _ => rfl, rfl⟩, ⟨fun _ => rfl, ⟨none, 0, rfl, Nat.le_refl _, by decide, .inl rfl⟩⟩, trivial⟩⟩, trivial⟩⟩, ⟨fun _ => rfl, rfl⟩, trivial⟩⟩, trivial⟩⟩, ⟨fun h => Bool.noConfusion h, ⟨_, rfl, rfl, ⟨fun _ => rfl, rfl⟩, ⟨fun _ => rfl, rfl⟩, ⟨fun h => Bool.noConfusion h, ⟨_, rfl, rfl, ⟨fun _ => rfl, rfl⟩, ⟨fun h => Bool.noConfusion h, ⟨_, rfl, rfl, ⟨fun h => Bool.noConfusion h, ⟨_, rfl, rfl, ⟨fun _ => rfl, rfl⟩, ⟨fun _ => rfl, ⟨none, 0, rfl, Nat.le_refl _, by decide, .inl rfl⟩⟩, trivial⟩⟩, ⟨fun h => Bool.noConfusion h, ⟨_, rfl, rfl, ⟨fun _ => rfl, rfl⟩, ⟨fun _ => rfl, ⟨none, 0, rfl, Nat.le_refl _, by decide, .inl rfl⟩⟩, trivial⟩⟩, trivial⟩⟩, ⟨fun _ => rfl, rfl⟩, trivial⟩⟩, trivial⟩⟩, ⟨fun h => Bool.noConfusion h, ⟨_, rfl, rfl, ⟨fun _ => rfl, rfl⟩, ⟨fun _ => rfl, rfl⟩, ⟨fun h => Bool.noConfusion h, ⟨_, rfl, rfl, ⟨fun _ => rfl, rfl⟩, ⟨fun h => Bool.noConfusion h, ⟨_, rfl, rfl, ⟨fun h => Bool.noConfusion h, ⟨_, rfl, rfl, ⟨fun _ => rfl, rfl⟩, ⟨fun _ => rfl, ⟨none, 0, rfl, Nat.le_refl _, by decide, .inl rfl⟩⟩, trivial⟩⟩, ⟨fun h => Bool.noConfusion h, ⟨_, rfl, rfl, ⟨fun _ => rfl, rfl⟩, ⟨fun _ => rfl, ⟨none, 0, rfl, Nat.le_refl _, by decide, .inl rfl⟩⟩, trivial⟩⟩, trivial⟩⟩, ⟨fun _ => rfl, rfl⟩, trivial⟩⟩, trivial⟩⟩, trivial⟩⟩
theorem bu53 : BuI Tryz.prog 53 (fun i => some (i * 8, 8)) (.agg #[.int .i64 0, .int .i64 0, .int .u8 0, .bool false, .slice none 0 0, .bool false, .slice none 0 0, .int .i64 0, .int .i64 0, .int .i64 0, .int .u8 0, .bool false, .slice none 0 0, .bool false, .slice none 0 0, .int .i64 0, .int .i64 0, .int .i64 0, .int .u8 0, .bool false, .slice none 0 0, .bool false, .slice none 0 0, .int .i64 0, .int .i64 0, .int .i64 0, .int .u8 0, .bool false, .slice none 0 0, .bool false, .slice none 0 0, .int .i64 0]) := BuI.array Tryz.underlying53 ti39 zr53.1
theorem zf33 : Flat 1 false (.int .i64 0) := flat_one rfl
theorem c_YearsN (l : List Tst) (a b : Int) (hl : l.length ≤ 500000) (hD : ∀ s ∈ l, s.v.f.dig) (hk : ¬ askB l a b = true) : Ct Tryz.prog 15 [tL 8 true tTs l, tI a, tI b] (tT [tFr fr0, tI 2]) := by
  have h := c_Years l a b hl hD
  rw [if_neg hk, if_neg hk] at h; exact h
theorem c_CappedN (l : List Tst) (a b : Int) (f : Fr) (hl : l.length ≤ 500000) (hD : ∀ s ∈ l, s.v.f.dig) (hF : f.dig) (hk : ¬ capC l a b f) : Ct Tryz.prog 21 [tL 8 true tTs l, tI a, tI b, tFr f] (tT [tFr fr0, tI 2]) := by
  have h := c_Capped l a b f hl hD hF
  rw [if_neg hk, if_neg hk] at h; exact h
theorem c_MonthsN (f : Fr) (hF : f.dig) (hk : ¬ moB f) : Ct Tryz.prog 22 [tFr f] (tT [tI 0, tI 2]) := by
  have h := c_Months f hF
  rw [if_neg (fun h => hk h.1), if_neg hk] at h; exact h
theorem c_WorkedN (l : List Tst) (a b : Int) (hl : l.length ≤ 500000) (hD : ∀ s ∈ l, s.v.f.dig) (hk : ¬ askB l a b = true) : Ct Tryz.prog 24 [tL 8 true tTs l, tI a, tI b] (tT [tL 2 true tSn [], tI 2]) := by
  have h := c_Worked l a b hl hD
  rw [if_neg hk, if_neg hk] at h; exact h
theorem c_BreaksN (l : List Tst) (a b : Int) (hl : l.length ≤ 500000) (hD : ∀ s ∈ l, s.v.f.dig) (hk : ¬ askB l a b = true) : Ct Tryz.prog 25 [tL 8 true tTs l, tI a, tI b] (tT [tL 2 true tSn [], tI 2]) := by
  have h := c_Breaks l a b hl hD
  rw [if_neg hk, if_neg hk] at h; exact h
theorem c_PeriodsN (l : List Tst) (a b d : Int) (hl : l.length ≤ 500000) (hD : ∀ s ∈ l, s.v.f.dig) (hk : ¬ (askB l a b = true ∧ sVal (wkd l a b) = true ∧ 0 ≤ d)) : Ct Tryz.prog 26 [tL 8 true tTs l, tI a, tI b, tI d] (tT [tL 2 true tSn [], tI 2]) := by
  have h := c_Periods l a b d hl hD
  rw [if_neg hk, if_neg hk] at h; exact h
theorem c_RightN (l : List Tst) (hD : ∀ s ∈ l, s.v.f.dig) (h : sRight l = false) : Ct Tryz.prog 27 [tL 8 true tTs l] (tB false) := by
  have := c_SvRight l hD
  rw [h] at this; exact this
theorem c_Limbs0 : Ct Tryz.prog 10 [tFr fr0] (tI 0) := c_Limbs fr0 (by decide) (by decide)
theorem ask_low {l : List Tst} {a b : Int} (h : ¬ (0 ≤ a ∧ a ≤ 65536 ∧ 0 ≤ b ∧ b ≤ 65536)) : ¬ askB l a b = true := fun h' => h (askB_iff.1 h').2
theorem last_bd {l : List Tst} (h : isB l) : 0 ≤ (l.getD (l.length - 1) tst0).hi ∧ (l.getD (l.length - 1) tst0).hi ≤ 65536 := by
  rcases Nat.eq_zero_or_pos l.length with h0 | h0
  · rw [List.eq_nil_of_length_eq_zero h0]; decide
  · have := h.bd _ (mem_getD (l := l) (i := l.length - 1) (by omega)); omega
def wrongs (t : Int) : List Tst := [⟨t, t + 1, ⟨2, fr (kfr (-1) 8), 0⟩⟩, ⟨t, t + 1, ⟨2, fr (kfr 9 8), 0⟩⟩, ⟨t, t + 1, ⟨3, fr (kfr 1 8), 0⟩⟩, ⟨t + 2, t + 2, ⟨2, fr (kfr 1 8), 0⟩⟩]
theorem kcase {k : Nat} (h : k < 4) : k = 0 ∨ k = 1 ∨ k = 2 ∨ k = 3 := by omega
theorem wrongs_dig {t : Int} {k : Nat} (h : k < 4) : ((wrongs t).getD k tst0).v.f.dig := by
  rcases kcase h with rfl | rfl | rfl | rfl <;> exact dig_fr _
theorem sOk_bad {l : List Tst} {x : Tst} (h : sOk x = false) : sRight (l ++ [x]) = false := by
  rw [sRight, List.all_append]; simp [h]
theorem wrongs_right {l : List Tst} {t : Int} {k : Nat} (h : k < 4) : sRight (l ++ [(wrongs t).getD k tst0]) = false := by
  rcases kcase h with rfl | rfl | rfl | rfl
  · refine sOk_bad ?_
    show sOk ⟨0, 1, ⟨2, fr (kfr (-1) 8), 0⟩⟩ = false
    decide +kernel
  · refine sOk_bad ?_
    show sOk ⟨0, 1, ⟨2, fr (kfr 9 8), 0⟩⟩ = false
    decide +kernel
  · refine sOk_bad ?_
    show sOk ⟨0, 1, ⟨3, fr (kfr 1 8), 0⟩⟩ = false
    decide +kernel
  · rw [sRight, Bool.and_eq_false_iff]
    refine .inl (Bool.eq_false_iff.2 fun h' => ?_)
    have h1 := (tRight_at h' (i := l.length) (by simp)).2.1
    rw [getD_snoc, if_neg (by omega), if_pos rfl] at h1
    have h2 : t + 2 < t + 2 := h1
    omega
theorem c_SvWrong (m : List Nat) (hm : ∀ i, m.getD i 0 < 65536) (wy : Nat) (hw : wy < 256) (x y : Int) :
    Ct Tryz.prog 6 [tLm m, tE (.int .u8 (wy : Int)), tI x, tI y] (tB true) := by
  obtain ⟨hB, hl⟩ := builtB m
  have hbt := c_Built m hm
  generalize builtT m = l at *
  have hlb := last_bd hB
  have hE9 : ∀ i, i < 9 → ([2, 2, 2, 2, 2, 2, 2, 2, 2] : List Int).getD i 0 = 2 := by decide
  refine Ct.intro Tryz.func6 rfl Tryz.ntmps6 rfl ?_
  intro w F
  refine C_seq ?_
  refine C_reg ?_
  refine R1 d_assign rfl ?_
  refine R_nil (by kernel_rfl) ?_
  refine K_then ?_
  refine C_seq ?_
  refine C_seq ?_
  refine C_reg ?_
  refine R0 (d_call c_awake fi12 rfl)  ?_
  refine R1 d_not rfl ?_
  refine R_nil (by kernel_rfl) ?_
  refine K_then ?_
  refine C_bF rfl rfl ?_
  refine C_skip ?_
  refine K_then ?_
  refine C_seq ?_
  refine C_reg ?_
  refine R1 d_move rfl ?_
  refine R1 (d_call hbt fi13 rfl) rfl ?_
  refine R1 d_assign rfl ?_
  refine R_nil (by kernel_rfl) ?_
  refine K_then ?_
  refine C_seq ?_
  refine C_reg ?_
  refine R1 d_assign rfl ?_
  refine R_nil (by kernel_rfl) ?_
  refine K_then ?_
  refine C_join (fun (t : Int) => t = (l.getD (l.length - 1) tst0).hi) (fun (t : Int) => upd (upd (upd (upd (upd (fun _ => none) 1 (some (.val (tE (.int .u8 (wy : Int)))))) 2 (some (.val (tI x)))) 3 (some (.val (tI y)))) 9 (some (.val (tL 8 true tTs l)))) 10 (some (.val (tI t)))) (fun (t : Int) => fun _ => none) (nm []) ?_ ?_
  ·
    refine C_seq ?_
    refine C_reg ?_
    refine R1 d_move rfl ?_
    refine R1 (d_len Tryz.underlying30) rfl ?_
    refine R2 d_gtr rfl rfl ?_
    refine R_nil (by kernel_rfl) ?_
    refine K_then ?_
    refine C_if rfl (fun h163 => ?_) (fun h163 => ?_)
    ·
      refine C_reg ?_
      refine R1 d_move rfl ?_
      refine R1 d_move rfl ?_
      refine R1 (d_len Tryz.underlying30) rfl ?_
      refine R2 (d_sub (wr64 (by omega) (by omega))) rfl rfl ?_
      refine R2 (d_indexP sl30 (l.length - 1) (by omega) (gD (l := l) (n := l.length - 1) (d := tst0) (by omega))) rfl rfl ?_
      refine R1 (d_fieldP fo39_1 (At.f 1 rfl rfl) rfl) rfl ?_
      refine R1 (d_loadP ti3) rfl ?_
      refine R1 d_assign rfl ?_
      refine R_nil (by kernel_rfl) ?_
      exact K_fam ((l.getD (l.length - 1) tst0).hi) rfl (Sub.int rfl (by first | omega | rfl | (dsimp only; omega)) (Sub.cons rfl (Sub.int rfl (by first | omega | rfl | (dsimp only; omega)) (Sub.int rfl (by first | omega | rfl | (dsimp only; omega)) (Sub.int rfl (by first | omega | rfl | (dsimp only; omega)) Sub.nil))))) SubK.nil (SupG.val (SupG.val (SupG.val (SupG.val (SupG.val SupG.nil))))) SupH.nil (lkOk rfl)
    ·
      refine C_skip ?_
      exact K_fam (0) (by rw [List.eq_nil_of_length_eq_zero (show l.length = 0 by omega)]; rfl) (Sub.int rfl (by first | omega | rfl | (dsimp only; omega)) (Sub.cons rfl (Sub.int rfl (by first | omega | rfl | (dsimp only; omega)) (Sub.int rfl (by first | omega | rfl | (dsimp only; omega)) (Sub.int rfl (by first | omega | rfl | (dsimp only; omega)) Sub.nil))))) SubK.nil (SupG.val (SupG.val (SupG.val (SupG.val (SupG.val SupG.nil))))) SupH.nil (lkOk rfl)
  ·
    intro t ht0
    have ht : 0 ≤ t ∧ t ≤ 65536 := by rw [ht0]; exact hlb
    clear ht0
    obtain ⟨bad, hbad⟩ : ∃ z : List Tst, z = l ++ [((wrongs t).getD (wy % 4) tst0)] := ⟨_, rfl⟩
    have hk4 : wy % 4 < 4 := Nat.mod_lt _ (by decide)
    have hbl : bad.length = l.length + 1 := by rw [hbad]; simp
    have hbD : ∀ s ∈ bad, s.v.f.dig := fun s hs => by
      rw [hbad] at hs
      rcases List.mem_append.1 hs with h | h
      · exact hB.dig s h
      · rw [List.mem_singleton.1 h]; exact wrongs_dig hk4
    have hbR : sRight bad = false := by rw [hbad]; exact wrongs_right hk4
    have hbK : ¬ askB bad 0 9 = true := fun h => by rw [(askB_iff.1 h).1] at hbR; cases hbR
    refine C_seq ?_
    refine C_seq ?_
    refine C_reg ?_
    refine R1 d_move rfl ?_
    refine R2 d_gtr rfl rfl ?_
    refine R_nil (by kernel_rfl) ?_
    refine K_then ?_
    refine C_if rfl (fun h166 => ?_) (fun h166 => ?_)
    ·
      refine C_seq ?_
      refine C_reg ?_
      refine R1 d_assign rfl ?_
      refine R_nil (by kernel_rfl) ?_
      refine K_then ?_
      refine C_ret ?_
      refine K_retT ?_
      exact E_ret1 Plain.mk' rfl rfl Le.refl
    ·
      refine C_skip ?_
      refine K_then ?_
      refine C_seq ?_
      refine C_reg ?_
      refine RE (d_empty (k := 49) Tryz.underlying30 el39 rfl (fun h => by cases h)) trivial trivial ⟨rfl, trivial⟩ ?_
      refine R1 d_move rfl ?_
      refine RE (d_appendO (n := 0) (k := 49) (k' := 51) (f := tTs) (ys := l) (ts' := rV tTs l) Tryz.underlying30 el39 zf39 rfl rfl (fun _ => inferInstance) rfl (by omega) (by omega) rfl (n' := l.length) (Nat.zero_add _)) ⟨rfl, rfl, trivial⟩ ⟨rfl, trivial⟩ ⟨rfl, trivial⟩ ?_
      refine R1 d_move rfl ?_
      refine R1 d_move rfl ?_
      refine R2 (d_add (wr64 (by omega) (by omega))) rfl rfl ?_
      refine RE (d_call (c_step08 t (t + 1) (-1) 8 (by decide) (by decide) (by decide) (by decide)) fi16 rfl) ⟨rfl, rfl, rfl, rfl, trivial⟩ trivial trivial ?_
      refine R1 d_move rfl ?_
      refine R1 d_move rfl ?_
      refine R2 (d_add (wr64 (by omega) (by omega))) rfl rfl ?_
      refine RE (d_call (c_step08 t (t + 1) 9 8 (by decide) (by decide) (by decide) (by decide)) fi16 rfl) ⟨rfl, rfl, rfl, rfl, trivial⟩ trivial trivial ?_
      refine R1 d_move rfl ?_
      refine R1 d_move rfl ?_
      refine R2 (d_add (wr64 (by omega) (by omega))) rfl rfl ?_
      refine R2 (d_call (c_Cash 1 8 (by decide) (by decide) (by decide) (by decide)) fi23 rfl) rfl rfl ?_
      refine R3 (d_build (r := tS [⟨1, false, tI t⟩, ⟨1, false, tI (t + 1)⟩, ⟨6, true, tVa ⟨3, fr (kfr 1 8), 0⟩⟩]) (ts := [(0, tI t), (1, tI (t + 1)), (2, tVa ⟨3, fr (kfr 1 8), 0⟩)]) bu39 zr39.2 ⟨_, rfl⟩ rfl ⟨_, _, _, _, rfl, Up.f (fs := [⟨1, false, (tE (.int .i64 0))⟩, ⟨1, false, (tE (.int .i64 0))⟩, ⟨6, true, (tS [⟨1, false, (tE (.int .u8 0))⟩, ⟨4, true, (tS [⟨2, true, (tS [⟨1, false, (tE (.bool false))⟩, ⟨1, false, (tLm [])⟩])⟩, ⟨2, true, (tS [⟨1, false, (tE (.bool false))⟩, ⟨1, false, (tLm [])⟩])⟩])⟩, ⟨1, false, (tE (.int .i64 0))⟩])⟩]) (f := ⟨1, false, (tE (.int .i64 0))⟩) (fs' := [⟨1, false, tI t⟩, ⟨1, false, (tE (.int .i64 0))⟩, ⟨6, true, (tS [⟨1, false, (tE (.int .u8 0))⟩, ⟨4, true, (tS [⟨2, true, (tS [⟨1, false, (tE (.bool false))⟩, ⟨1, false, (tLm [])⟩])⟩, ⟨2, true, (tS [⟨1, false, (tE (.bool false))⟩, ⟨1, false, (tLm [])⟩])⟩])⟩, ⟨1, false, (tE (.int .i64 0))⟩])⟩]) 0 rfl rfl rfl, inferInstance, ⟨_, _, _, _, rfl, Up.f (fs := [⟨1, false, tI t⟩, ⟨1, false, (tE (.int .i64 0))⟩, ⟨6, true, (tS [⟨1, false, (tE (.int .u8 0))⟩, ⟨4, true, (tS [⟨2, true, (tS [⟨1, false, (tE (.bool false))⟩, ⟨1, false, (tLm [])⟩])⟩, ⟨2, true, (tS [⟨1, false, (tE (.bool false))⟩, ⟨1, false, (tLm [])⟩])⟩])⟩, ⟨1, false, (tE (.int .i64 0))⟩])⟩]) (f := ⟨1, false, (tE (.int .i64 0))⟩) (fs' := [⟨1, false, tI t⟩, ⟨1, false, tI (t + 1)⟩, ⟨6, true, (tS [⟨1, false, (tE (.int .u8 0))⟩, ⟨4, true, (tS [⟨2, true, (tS [⟨1, false, (tE (.bool false))⟩, ⟨1, false, (tLm [])⟩])⟩, ⟨2, true, (tS [⟨1, false, (tE (.bool false))⟩, ⟨1, false, (tLm [])⟩])⟩])⟩, ⟨1, false, (tE (.int .i64 0))⟩])⟩]) 1 rfl rfl rfl, inferInstance, ⟨_, _, _, _, rfl, Up.f (fs := [⟨1, false, tI t⟩, ⟨1, false, tI (t + 1)⟩, ⟨6, true, (tS [⟨1, false, (tE (.int .u8 0))⟩, ⟨4, true, (tS [⟨2, true, (tS [⟨1, false, (tE (.bool false))⟩, ⟨1, false, (tLm [])⟩])⟩, ⟨2, true, (tS [⟨1, false, (tE (.bool false))⟩, ⟨1, false, (tLm [])⟩])⟩])⟩, ⟨1, false, (tE (.int .i64 0))⟩])⟩]) (f := ⟨6, true, (tS [⟨1, false, (tE (.int .u8 0))⟩, ⟨4, true, (tS [⟨2, true, (tS [⟨1, false, (tE (.bool false))⟩, ⟨1, false, (tLm [])⟩])⟩, ⟨2, true, (tS [⟨1, false, (tE (.bool false))⟩, ⟨1, false, (tLm [])⟩])⟩])⟩, ⟨1, false, (tE (.int .i64 0))⟩])⟩) (fs' := [⟨1, false, tI t⟩, ⟨1, false, tI (t + 1)⟩, ⟨6, true, tVa ⟨3, fr (kfr 1 8), 0⟩⟩]) 2 rfl rfl rfl, inferInstance, Le.refl⟩⟩⟩) rfl rfl rfl ?_
      refine R1 d_move rfl ?_
      refine R2 (d_add (wr64 (by omega) (by omega))) rfl rfl ?_
      refine R1 d_move rfl ?_
      refine R2 (d_add (wr64 (by omega) (by omega))) rfl rfl ?_
      refine RE (d_call (c_step08 (t + 2) (t + 2) 1 8 (by decide) (by decide) (by decide) (by decide)) fi16 rfl) ⟨rfl, rfl, rfl, rfl, trivial⟩ trivial trivial ?_
      refine RE (d_build (r := tS [⟨8, true, tTs ⟨t, t + 1, ⟨2, fr (kfr (-1) 8), 0⟩⟩⟩, ⟨8, true, tTs ⟨t, t + 1, ⟨2, fr (kfr 9 8), 0⟩⟩⟩, ⟨8, true, tTs ⟨t, t + 1, ⟨3, fr (kfr 1 8), 0⟩⟩⟩, ⟨8, true, tTs ⟨t + 2, t + 2, ⟨2, fr (kfr 1 8), 0⟩⟩⟩]) (ts := [(0, tTs ⟨t, t + 1, ⟨2, fr (kfr (-1) 8), 0⟩⟩), (1, tTs ⟨t, t + 1, ⟨2, fr (kfr 9 8), 0⟩⟩), (2, tTs ⟨t, t + 1, ⟨3, fr (kfr 1 8), 0⟩⟩), (3, tTs ⟨t + 2, t + 2, ⟨2, fr (kfr 1 8), 0⟩⟩)]) bu53 zr53.2 ⟨_, rfl⟩ rfl ⟨_, _, _, _, rfl, Up.f (fs := [⟨8, true, (tS [⟨1, false, (tE (.int .i64 0))⟩, ⟨1, false, (tE (.int .i64 0))⟩, ⟨6, true, (tS [⟨1, false, (tE (.int .u8 0))⟩, ⟨4, true, (tS [⟨2, true, (tS [⟨1, false, (tE (.bool false))⟩, ⟨1, false, (tLm [])⟩])⟩, ⟨2, true, (tS [⟨1, false, (tE (.bool false))⟩, ⟨1, false, (tLm [])⟩])⟩])⟩, ⟨1, false, (tE (.int .i64 0))⟩])⟩])⟩, ⟨8, true, (tS [⟨1, false, (tE (.int .i64 0))⟩, ⟨1, false, (tE (.int .i64 0))⟩, ⟨6, true, (tS [⟨1, false, (tE (.int .u8 0))⟩, ⟨4, true, (tS [⟨2, true, (tS [⟨1, false, (tE (.bool false))⟩, ⟨1, false, (tLm [])⟩])⟩, ⟨2, true, (tS [⟨1, false, (tE (.bool false))⟩, ⟨1, false, (tLm [])⟩])⟩])⟩, ⟨1, false, (tE (.int .i64 0))⟩])⟩])⟩, ⟨8, true, (tS [⟨1, false, (tE (.int .i64 0))⟩, ⟨1, false, (tE (.int .i64 0))⟩, ⟨6, true, (tS [⟨1, false, (tE (.int .u8 0))⟩, ⟨4, true, (tS [⟨2, true, (tS [⟨1, false, (tE (.bool false))⟩, ⟨1, false, (tLm [])⟩])⟩, ⟨2, true, (tS [⟨1, false, (tE (.bool false))⟩, ⟨1, false, (tLm [])⟩])⟩])⟩, ⟨1, false, (tE (.int .i64 0))⟩])⟩])⟩, ⟨8, true, (tS [⟨1, false, (tE (.int .i64 0))⟩, ⟨1, false, (tE (.int .i64 0))⟩, ⟨6, true, (tS [⟨1, false, (tE (.int .u8 0))⟩, ⟨4, true, (tS [⟨2, true, (tS [⟨1, false, (tE (.bool false))⟩, ⟨1, false, (tLm [])⟩])⟩, ⟨2, true, (tS [⟨1, false, (tE (.bool false))⟩, ⟨1, false, (tLm [])⟩])⟩])⟩, ⟨1, false, (tE (.int .i64 0))⟩])⟩])⟩]) (f := ⟨8, true, (tS [⟨1, false, (tE (.int .i64 0))⟩, ⟨1, false, (tE (.int .i64 0))⟩, ⟨6, true, (tS [⟨1, false, (tE (.int .u8 0))⟩, ⟨4, true, (tS [⟨2, true, (tS [⟨1, false, (tE (.bool false))⟩, ⟨1, false, (tLm [])⟩])⟩, ⟨2, true, (tS [⟨1, false, (tE (.bool false))⟩, ⟨1, false, (tLm [])⟩])⟩])⟩, ⟨1, false, (tE (.int .i64 0))⟩])⟩])⟩) (fs' := [⟨8, true, tTs ⟨t, t + 1, ⟨2, fr (kfr (-1) 8), 0⟩⟩⟩, ⟨8, true, (tS [⟨1, false, (tE (.int .i64 0))⟩, ⟨1, false, (tE (.int .i64 0))⟩, ⟨6, true, (tS [⟨1, false, (tE (.int .u8 0))⟩, ⟨4, true, (tS [⟨2, true, (tS [⟨1, false, (tE (.bool false))⟩, ⟨1, false, (tLm [])⟩])⟩, ⟨2, true, (tS [⟨1, false, (tE (.bool false))⟩, ⟨1, false, (tLm [])⟩])⟩])⟩, ⟨1, false, (tE (.int .i64 0))⟩])⟩])⟩, ⟨8, true, (tS [⟨1, false, (tE (.int .i64 0))⟩, ⟨1, false, (tE (.int .i64 0))⟩, ⟨6, true, (tS [⟨1, false, (tE (.int .u8 0))⟩, ⟨4, true, (tS [⟨2, true, (tS [⟨1, false, (tE (.bool false))⟩, ⟨1, false, (tLm [])⟩])⟩, ⟨2, true, (tS [⟨1, false, (tE (.bool false))⟩, ⟨1, false, (tLm [])⟩])⟩])⟩, ⟨1, false, (tE (.int .i64 0))⟩])⟩])⟩, ⟨8, true, (tS [⟨1, false, (tE (.int .i64 0))⟩, ⟨1, false, (tE (.int .i64 0))⟩, ⟨6, true, (tS [⟨1, false, (tE (.int .u8 0))⟩, ⟨4, true, (tS [⟨2, true, (tS [⟨1, false, (tE (.bool false))⟩, ⟨1, false, (tLm [])⟩])⟩, ⟨2, true, (tS [⟨1, false, (tE (.bool false))⟩, ⟨1, false, (tLm [])⟩])⟩])⟩, ⟨1, false, (tE (.int .i64 0))⟩])⟩])⟩]) 0 rfl rfl rfl, inferInstance, ⟨_, _, _, _, rfl, Up.f (fs := [⟨8, true, tTs ⟨t, t + 1, ⟨2, fr (kfr (-1) 8), 0⟩⟩⟩, ⟨8, true, (tS [⟨1, false, (tE (.int .i64 0))⟩, ⟨1, false, (tE (.int .i64 0))⟩, ⟨6, true, (tS [⟨1, false, (tE (.int .u8 0))⟩, ⟨4, true, (tS [⟨2, true, (tS [⟨1, false, (tE (.bool false))⟩, ⟨1, false, (tLm [])⟩])⟩, ⟨2, true, (tS [⟨1, false, (tE (.bool false))⟩, ⟨1, false, (tLm [])⟩])⟩])⟩, ⟨1, false, (tE (.int .i64 0))⟩])⟩])⟩, ⟨8, true, (tS [⟨1, false, (tE (.int .i64 0))⟩, ⟨1, false, (tE (.int .i64 0))⟩, ⟨6, true, (tS [⟨1, false, (tE (.int .u8 0))⟩, ⟨4, true, (tS [⟨2, true, (tS [⟨1, false, (tE (.bool false))⟩, ⟨1, false, (tLm [])⟩])⟩, ⟨2, true, (tS [⟨1, false, (tE (.bool false))⟩, ⟨1, false, (tLm [])⟩])⟩])⟩, ⟨1, false, (tE (.int .i64 0))⟩])⟩])⟩, ⟨8, true, (tS [⟨1, false, (tE (.int .i64 0))⟩, ⟨1, false, (tE (.int .i64 0))⟩, ⟨6, true, (tS [⟨1, false, (tE (.int .u8 0))⟩, ⟨4, true, (tS [⟨2, true, (tS [⟨1, false, (tE (.bool false))⟩, ⟨1, false, (tLm [])⟩])⟩, ⟨2, true, (tS [⟨1, false, (tE (.bool false))⟩, ⟨1, false, (tLm [])⟩])⟩])⟩, ⟨1, false, (tE (.int .i64 0))⟩])⟩])⟩]) (f := ⟨8, true, (tS [⟨1, false, (tE (.int .i64 0))⟩, ⟨1, false, (tE (.int .i64 0))⟩, ⟨6, true, (tS [⟨1, false, (tE (.int .u8 0))⟩, ⟨4, true, (tS [⟨2, true, (tS [⟨1, false, (tE (.bool false))⟩, ⟨1, false, (tLm [])⟩])⟩, ⟨2, true, (tS [⟨1, false, (tE (.bool false))⟩, ⟨1, false, (tLm [])⟩])⟩])⟩, ⟨1, false, (tE (.int .i64 0))⟩])⟩])⟩) (fs' := [⟨8, true, tTs ⟨t, t + 1, ⟨2, fr (kfr (-1) 8), 0⟩⟩⟩, ⟨8, true, tTs ⟨t, t + 1, ⟨2, fr (kfr 9 8), 0⟩⟩⟩, ⟨8, true, (tS [⟨1, false, (tE (.int .i64 0))⟩, ⟨1, false, (tE (.int .i64 0))⟩, ⟨6, true, (tS [⟨1, false, (tE (.int .u8 0))⟩, ⟨4, true, (tS [⟨2, true, (tS [⟨1, false, (tE (.bool false))⟩, ⟨1, false, (tLm [])⟩])⟩, ⟨2, true, (tS [⟨1, false, (tE (.bool false))⟩, ⟨1, false, (tLm [])⟩])⟩])⟩, ⟨1, false, (tE (.int .i64 0))⟩])⟩])⟩, ⟨8, true, (tS [⟨1, false, (tE (.int .i64 0))⟩, ⟨1, false, (tE (.int .i64 0))⟩, ⟨6, true, (tS [⟨1, false, (tE (.int .u8 0))⟩, ⟨4, true, (tS [⟨2, true, (tS [⟨1, false, (tE (.bool false))⟩, ⟨1, false, (tLm [])⟩])⟩, ⟨2, true, (tS [⟨1, false, (tE (.bool false))⟩, ⟨1, false, (tLm [])⟩])⟩])⟩, ⟨1, false, (tE (.int .i64 0))⟩])⟩])⟩]) 1 rfl rfl rfl, inferInstance, ⟨_, _, _, _, rfl, Up.f (fs := [⟨8, true, tTs ⟨t, t + 1, ⟨2, fr (kfr (-1) 8), 0⟩⟩⟩, ⟨8, true, tTs ⟨t, t + 1, ⟨2, fr (kfr 9 8), 0⟩⟩⟩, ⟨8, true, (tS [⟨1, false, (tE (.int .i64 0))⟩, ⟨1, false, (tE (.int .i64 0))⟩, ⟨6, true, (tS [⟨1, false, (tE (.int .u8 0))⟩, ⟨4, true, (tS [⟨2, true, (tS [⟨1, false, (tE (.bool false))⟩, ⟨1, false, (tLm [])⟩])⟩, ⟨2, true, (tS [⟨1, false, (tE (.bool false))⟩, ⟨1, false, (tLm [])⟩])⟩])⟩, ⟨1, false, (tE (.int .i64 0))⟩])⟩])⟩, ⟨8, true, (tS [⟨1, false, (tE (.int .i64 0))⟩, ⟨1, false, (tE (.int .i64 0))⟩, ⟨6, true, (tS [⟨1, false, (tE (.int .u8 0))⟩, ⟨4, true, (tS [⟨2, true, (tS [⟨1, false, (tE (.bool false))⟩, ⟨1, false, (tLm [])⟩])⟩, ⟨2, true, (tS [⟨1, false, (tE (.bool false))⟩, ⟨1, false, (tLm [])⟩])⟩])⟩, ⟨1, false, (tE (.int .i64 0))⟩])⟩])⟩]) (f := ⟨8, true, (tS [⟨1, false, (tE (.int .i64 0))⟩, ⟨1, false, (tE (.int .i64 0))⟩, ⟨6, true, (tS [⟨1, false, (tE (.int .u8 0))⟩, ⟨4, true, (tS [⟨2, true, (tS [⟨1, false, (tE (.bool false))⟩, ⟨1, false, (tLm [])⟩])⟩, ⟨2, true, (tS [⟨1, false, (tE (.bool false))⟩, ⟨1, false, (tLm [])⟩])⟩])⟩, ⟨1, false, (tE (.int .i64 0))⟩])⟩])⟩) (fs' := [⟨8, true, tTs ⟨t, t + 1, ⟨2, fr (kfr (-1) 8), 0⟩⟩⟩, ⟨8, true, tTs ⟨t, t + 1, ⟨2, fr (kfr 9 8), 0⟩⟩⟩, ⟨8, true, tTs ⟨t, t + 1, ⟨3, fr (kfr 1 8), 0⟩⟩⟩, ⟨8, true, (tS [⟨1, false, (tE (.int .i64 0))⟩, ⟨1, false, (tE (.int .i64 0))⟩, ⟨6, true, (tS [⟨1, false, (tE (.int .u8 0))⟩, ⟨4, true, (tS [⟨2, true, (tS [⟨1, false, (tE (.bool false))⟩, ⟨1, false, (tLm [])⟩])⟩, ⟨2, true, (tS [⟨1, false, (tE (.bool false))⟩, ⟨1, false, (tLm [])⟩])⟩])⟩, ⟨1, false, (tE (.int .i64 0))⟩])⟩])⟩]) 2 rfl rfl rfl, inferInstance, ⟨_, _, _, _, rfl, Up.f (fs := [⟨8, true, tTs ⟨t, t + 1, ⟨2, fr (kfr (-1) 8), 0⟩⟩⟩, ⟨8, true, tTs ⟨t, t + 1, ⟨2, fr (kfr 9 8), 0⟩⟩⟩, ⟨8, true, tTs ⟨t, t + 1, ⟨3, fr (kfr 1 8), 0⟩⟩⟩, ⟨8, true, (tS [⟨1, false, (tE (.int .i64 0))⟩, ⟨1, false, (tE (.int .i64 0))⟩, ⟨6, true, (tS [⟨1, false, (tE (.int .u8 0))⟩, ⟨4, true, (tS [⟨2, true, (tS [⟨1, false, (tE (.bool false))⟩, ⟨1, false, (tLm [])⟩])⟩, ⟨2, true, (tS [⟨1, false, (tE (.bool false))⟩, ⟨1, false, (tLm [])⟩])⟩])⟩, ⟨1, false, (tE (.int .i64 0))⟩])⟩])⟩]) (f := ⟨8, true, (tS [⟨1, false, (tE (.int .i64 0))⟩, ⟨1, false, (tE (.int .i64 0))⟩, ⟨6, true, (tS [⟨1, false, (tE (.int .u8 0))⟩, ⟨4, true, (tS [⟨2, true, (tS [⟨1, false, (tE (.bool false))⟩, ⟨1, false, (tLm [])⟩])⟩, ⟨2, true, (tS [⟨1, false, (tE (.bool false))⟩, ⟨1, false, (tLm [])⟩])⟩])⟩, ⟨1, false, (tE (.int .i64 0))⟩])⟩])⟩) (fs' := [⟨8, true, tTs ⟨t, t + 1, ⟨2, fr (kfr (-1) 8), 0⟩⟩⟩, ⟨8, true, tTs ⟨t, t + 1, ⟨2, fr (kfr 9 8), 0⟩⟩⟩, ⟨8, true, tTs ⟨t, t + 1, ⟨3, fr (kfr 1 8), 0⟩⟩⟩, ⟨8, true, tTs ⟨t + 2, t + 2, ⟨2, fr (kfr 1 8), 0⟩⟩⟩]) 3 rfl rfl rfl, inferInstance, Le.refl⟩⟩⟩⟩) ⟨rfl, rfl, rfl, rfl, trivial⟩ trivial trivial ?_
      refine R1 d_move rfl ?_
      refine R2 (d_remP (by omega) (by omega)) rfl rfl ?_
      refine R2 (d_idxS (f := tTs) (xs := wrongs t) (wy % 4) tst0 Tryz.underlying53 ti39 (by omega) (by omega) rfl) rfl rfl ?_
      refine R1 (d_vals (n := 1) (f := tTs) [((wrongs t).getD (wy % 4) tst0)] Tryz.underlying30 el39 zf39 rfl (fun _ => inferInstance) rfl rfl rfl) rfl ?_
      refine RE (d_appendO (k := 51) (k' := 75) (f := tTs) (ys := [((wrongs t).getD (wy % 4) tst0)]) (ts' := rV tTs (l ++ [((wrongs t).getD (wy % 4) tst0)])) Tryz.underlying30 el39 zf39 rfl rfl (fun _ => inferInstance) rV_len (by simp; omega) (by simp; omega) (by simp [rV]) (n' := l.length + 1) rfl) ⟨rfl, rfl, trivial⟩ ⟨rfl, trivial⟩ ⟨rfl, trivial⟩ ?_
      refine RE (d_assignS (f := tTs) (xs := bad) (fun _ h => h) (by rw [hbad]; exact rV_all (by simp)) (by omega)) ⟨rfl, trivial⟩ ⟨rfl, trivial⟩ trivial ?_
      refine R_nil (by kernel_rfl) ?_
      refine K_then ?_
      refine C_seq ?_
      refine C_reg ?_
      refine R2 (d_call (c_KFrac 1 1 (by omega) (by omega) (by omega) (by omega)) fi18 rfl) rfl rfl ?_
      refine RE (d_alloc (k := 12) (n := 4) (agg := true) zr26.1 zr26.2 rfl) trivial trivial ⟨rfl, trivial⟩ ?_
      refine RE (d_store (es := 4) (agg := true) (0) ti26 rfl rfl rfl) ⟨rfl, rfl, trivial⟩ ⟨rfl, trivial⟩ trivial ?_
      refine R_nil (by kernel_rfl) ?_
      refine K_then ?_
      refine C_seq ?_
      refine C_reg ?_
      refine R1 d_move rfl ?_
      refine R3 (d_call (c_YearsN bad 0 9 (by omega) hbD hbK) fi15 rfl) rfl rfl rfl ?_
      refine R1 d_move rfl ?_
      refine R1 (d_extract rfl) rfl ?_
      refine R1 (d_extract rfl) rfl ?_
      refine RE (d_alloc (k := 13) (n := 4) (agg := true) zr26.1 zr26.2 rfl) trivial trivial ⟨rfl, trivial⟩ ?_
      refine RE (d_store (es := 4) (agg := true) (0) ti26 rfl rfl rfl) ⟨rfl, rfl, trivial⟩ ⟨rfl, trivial⟩ trivial ?_
      refine R1 d_assign rfl ?_
      refine R_nil (by kernel_rfl) ?_
      refine K_then ?_
      refine C_seq ?_
      refine C_reg ?_
      refine R1 d_move rfl ?_
      refine RE (d_load (0) ti26 rfl rfl) ⟨rfl, trivial⟩ ⟨rfl, trivial⟩ trivial ?_
      refine RE (d_call (c_CappedN bad 0 9 (fr (kfr 1 1)) (by omega) hbD (dig_fr _) (fun h => hbK h.2)) fi21 rfl) ⟨rfl, rfl, rfl, rfl, trivial⟩ trivial trivial ?_
      refine R1 d_move rfl ?_
      refine R1 (d_extract rfl) rfl ?_
      refine R1 (d_extract rfl) rfl ?_
      refine RE (d_alloc (k := 15) (n := 4) (agg := true) zr26.1 zr26.2 rfl) trivial trivial ⟨rfl, trivial⟩ ?_
      refine RE (d_store (es := 4) (agg := true) (0) ti26 rfl rfl rfl) ⟨rfl, rfl, trivial⟩ ⟨rfl, trivial⟩ trivial ?_
      refine R1 d_assign rfl ?_
      refine R_nil (by kernel_rfl) ?_
      refine K_then ?_
      refine C_seq ?_
      refine C_reg ?_
      refine R1 d_move rfl ?_
      refine R3 (d_call (c_WorkedN bad 0 9 (by omega) hbD hbK) fi24 rfl) rfl rfl rfl ?_
      refine R1 d_move rfl ?_
      refine R1 (d_extract rfl) rfl ?_
      refine R1 (d_extract rfl) rfl ?_
      refine R1 d_assign rfl ?_
      refine R1 d_assign rfl ?_
      refine R_nil (by kernel_rfl) ?_
      refine K_then ?_
      refine C_seq ?_
      refine C_reg ?_
      refine R1 d_move rfl ?_
      refine R3 (d_call (c_BreaksN bad 0 9 (by omega) hbD hbK) fi25 rfl) rfl rfl rfl ?_
      refine R1 d_move rfl ?_
      refine R1 (d_extract rfl) rfl ?_
      refine R1 (d_extract rfl) rfl ?_
      refine R1 d_assign rfl ?_
      refine R1 d_assign rfl ?_
      refine R_nil (by kernel_rfl) ?_
      refine K_then ?_
      refine C_seq ?_
      refine C_reg ?_
      refine R1 d_move rfl ?_
      refine RE (d_call (c_PeriodsN bad 0 9 1 (by omega) hbD (fun h => hbK h.1)) fi26 rfl) ⟨rfl, rfl, rfl, rfl, trivial⟩ trivial trivial ?_
      refine R1 d_move rfl ?_
      refine R1 (d_extract rfl) rfl ?_
      refine R1 (d_extract rfl) rfl ?_
      refine R1 d_assign rfl ?_
      refine R1 d_assign rfl ?_
      refine R_nil (by kernel_rfl) ?_
      refine K_then ?_
      refine C_seq ?_
      refine C_seq ?_
      refine C_draw mixed ?_
      refine R1 d_move rfl ?_
      refine R2 d_neq rfl rfl ?_
      refine R1 d_move rfl ?_
      refine RGon (decide_eq_false (by omega)) rfl d_move rfl ⟨rfl, trivial⟩ trivial trivial ?_
      refine RGon (decide_eq_false (by omega)) rfl d_move rfl ⟨rfl, trivial⟩ trivial trivial ?_
      refine RGon (decide_eq_false (by omega)) rfl d_neq rfl ⟨rfl, rfl, trivial⟩ trivial trivial ?_
      refine R2 (d_pickF (decide_eq_false (by omega))) rfl rfl ?_
      refine R1 d_move rfl ?_
      refine RGon (decide_eq_false (by omega)) rfl d_move rfl ⟨rfl, trivial⟩ trivial trivial ?_
      refine RGon (decide_eq_false (by omega)) rfl d_move rfl ⟨rfl, trivial⟩ trivial trivial ?_
      refine RGon (decide_eq_false (by omega)) rfl d_neq rfl ⟨rfl, rfl, trivial⟩ trivial trivial ?_
      refine R2 (d_pickF (decide_eq_false (by omega))) rfl rfl ?_
      refine R1 d_move rfl ?_
      refine RGon (decide_eq_false (by omega)) rfl d_move rfl ⟨rfl, trivial⟩ trivial trivial ?_
      refine RGon (decide_eq_false (by omega)) rfl d_move rfl ⟨rfl, trivial⟩ trivial trivial ?_
      refine RGon (decide_eq_false (by omega)) rfl d_neq rfl ⟨rfl, rfl, trivial⟩ trivial trivial ?_
      refine R2 (d_pickF (decide_eq_false (by omega))) rfl rfl ?_
      refine R1 d_move rfl ?_
      refine RGon (decide_eq_false (by omega)) rfl d_move rfl ⟨rfl, trivial⟩ trivial trivial ?_
      refine RGon (decide_eq_false (by omega)) rfl d_move rfl ⟨rfl, trivial⟩ trivial trivial ?_
      refine RGon (decide_eq_false (by omega)) rfl d_neq rfl ⟨rfl, rfl, trivial⟩ trivial trivial ?_
      refine R2 (d_pickF (decide_eq_false (by omega))) rfl rfl ?_
      refine R1 d_move rfl ?_
      refine RGon (decide_eq_false (by omega)) rfl (d_load (0) ti26 rfl rfl) rfl ⟨rfl, trivial⟩ ⟨rfl, trivial⟩ trivial ?_
      refine RGon (decide_eq_false (by omega)) rfl (d_call c_Limbs0 fi10 rfl) rfl ⟨rfl, trivial⟩ trivial trivial ?_
      refine RGon (decide_eq_false (by omega)) rfl (d_load (0) ti26 rfl rfl) rfl ⟨rfl, trivial⟩ ⟨rfl, trivial⟩ trivial ?_
      refine RGon (decide_eq_false (by omega)) rfl (d_call c_Limbs0 fi10 rfl) rfl ⟨rfl, trivial⟩ trivial trivial ?_
      refine RGon (decide_eq_false (by omega)) rfl (d_add (r := 0) (by decide)) rfl ⟨rfl, rfl, trivial⟩ trivial trivial ?_
      refine RGon (decide_eq_false (by omega)) rfl d_move rfl ⟨rfl, trivial⟩ trivial trivial ?_
      refine RGon (decide_eq_false (by omega)) rfl (d_len Tryz.underlying54) rfl ⟨rfl, trivial⟩ trivial trivial ?_
      refine RGon (decide_eq_false (by omega)) rfl (d_add (r := 0) (by decide)) rfl ⟨rfl, rfl, trivial⟩ trivial trivial ?_
      refine RGon (decide_eq_false (by omega)) rfl d_move rfl ⟨rfl, trivial⟩ trivial trivial ?_
      refine RGon (decide_eq_false (by omega)) rfl (d_len Tryz.underlying54) rfl ⟨rfl, trivial⟩ trivial trivial ?_
      refine RGon (decide_eq_false (by omega)) rfl (d_add (r := 0) (by decide)) rfl ⟨rfl, rfl, trivial⟩ trivial trivial ?_
      refine RGon (decide_eq_false (by omega)) rfl d_move rfl ⟨rfl, trivial⟩ trivial trivial ?_
      refine RGon (decide_eq_false (by omega)) rfl (d_len Tryz.underlying54) rfl ⟨rfl, trivial⟩ trivial trivial ?_
      refine RGon (decide_eq_false (by omega)) rfl (d_add (r := 0) (by decide)) rfl ⟨rfl, rfl, trivial⟩ trivial trivial ?_
      refine RGon (decide_eq_false (by omega)) rfl d_neq rfl ⟨rfl, rfl, trivial⟩ trivial trivial ?_
      refine R2 (d_pickF (decide_eq_false (by omega))) rfl rfl ?_
      refine R1 d_move rfl ?_
      refine RGon (decide_eq_false (by omega)) rfl d_move rfl ⟨rfl, trivial⟩ trivial trivial ?_
      refine RGon (decide_eq_false (by omega)) rfl (d_call (c_RightN bad hbD hbR) fi27 rfl) rfl ⟨rfl, trivial⟩ trivial trivial ?_
      refine R2 (d_pickF (decide_eq_false (by omega))) rfl rfl ?_
      refine R_end (by kernel_rfl) ?_
      refine K_then ?_
      refine C_bF rfl rfl ?_
      refine C_skip ?_
      refine K_then ?_
      refine C_seq ?_
      refine C_reg ?_
      refine R1 d_move rfl ?_
      refine R2 d_min2 rfl rfl ?_
      refine R1 d_move rfl ?_
      refine R2 d_max2 rfl rfl ?_
      refine R1 d_assign rfl ?_
      refine R1 d_assign rfl ?_
      refine R_nil (by kernel_rfl) ?_
      refine K_then ?_
      refine C_seq ?_
      refine C_reg ?_
      refine R1 d_move rfl ?_
      refine R1 d_move rfl ?_
      refine R3 (d_call (c_YearsN l (min x (-1)) 9 (by omega) hB.dig (ask_low (by omega))) fi15 rfl) rfl rfl rfl ?_
      refine R1 d_move rfl ?_
      refine R1 (d_extract rfl) rfl ?_
      refine R1 (d_extract rfl) rfl ?_
      refine R1 d_assign rfl ?_
      refine R_nil (by kernel_rfl) ?_
      refine K_then ?_
      refine C_seq ?_
      refine C_reg ?_
      refine R1 d_move rfl ?_
      refine R1 d_move rfl ?_
      refine R3 (d_call (c_YearsN l 9 (max y 65537) (by omega) hB.dig (ask_low (by omega))) fi15 rfl) rfl rfl rfl ?_
      refine R1 d_move rfl ?_
      refine R1 (d_extract rfl) rfl ?_
      refine R1 (d_extract rfl) rfl ?_
      refine R1 d_assign rfl ?_
      refine R_nil (by kernel_rfl) ?_
      refine K_then ?_
      refine C_seq ?_
      refine C_reg ?_
      refine R1 d_move rfl ?_
      refine R1 d_move rfl ?_
      refine R3 (d_call (c_WorkedN l (max y 65537) 9 (by omega) hB.dig (ask_low (by omega))) fi24 rfl) rfl rfl rfl ?_
      refine R1 d_move rfl ?_
      refine R1 (d_extract rfl) rfl ?_
      refine R1 (d_extract rfl) rfl ?_
      refine R1 d_assign rfl ?_
      refine R_nil (by kernel_rfl) ?_
      refine K_then ?_
      refine C_seq ?_
      refine C_reg ?_
      refine R1 d_move rfl ?_
      refine R1 d_move rfl ?_
      refine R3 (d_call (c_BreaksN l 9 (min x (-1)) (by omega) hB.dig (ask_low (by omega))) fi25 rfl) rfl rfl rfl ?_
      refine R1 d_move rfl ?_
      refine R1 (d_extract rfl) rfl ?_
      refine R1 (d_extract rfl) rfl ?_
      refine R1 d_assign rfl ?_
      refine R_nil (by kernel_rfl) ?_
      refine K_then ?_
      refine C_seq ?_
      refine C_reg ?_
      refine R1 d_move rfl ?_
      refine R2 (d_call (c_KFrac (-1) 9 (by omega) (by omega) (by omega) (by omega)) fi18 rfl) rfl rfl ?_
      refine RE (d_call (c_CappedN l 0 9 (fr (kfr (-1) 9)) (by omega) hB.dig (dig_fr _) (fun h => absurd h.1.2 (by decide +kernel))) fi21 rfl) ⟨rfl, rfl, rfl, rfl, trivial⟩ trivial trivial ?_
      refine R1 d_move rfl ?_
      refine R1 (d_extract rfl) rfl ?_
      refine R1 (d_extract rfl) rfl ?_
      refine R1 d_assign rfl ?_
      refine R_nil (by kernel_rfl) ?_
      refine K_then ?_
      refine C_seq ?_
      refine C_reg ?_
      refine R1 d_move rfl ?_
      refine R0 (d_build (r := tS [⟨2, true, (tS [⟨1, false, (tE (.bool false))⟩, ⟨1, false, (tLm [])⟩])⟩, ⟨2, true, (tS [⟨1, false, (tE (.bool false))⟩, ⟨1, false, (tLm [])⟩])⟩]) (ts := []) bu26 zr26.2 ⟨_, rfl⟩ rfl Le.refl)  ?_
      refine RE (d_call (c_CappedN l 0 9 fr0 (by omega) hB.dig ⟨Dig.nil _, Dig.nil _⟩ (fun h => absurd h.1.1 (by decide +kernel))) fi21 rfl) ⟨rfl, rfl, rfl, rfl, trivial⟩ trivial trivial ?_
      refine R1 d_move rfl ?_
      refine R1 (d_extract rfl) rfl ?_
      refine R1 (d_extract rfl) rfl ?_
      refine RE (d_alloc (k := 23) (n := 4) (agg := true) zr26.1 zr26.2 rfl) trivial trivial ⟨rfl, trivial⟩ ?_
      refine RE (d_store (es := 4) (agg := true) (0) ti26 rfl rfl rfl) ⟨rfl, rfl, trivial⟩ ⟨rfl, trivial⟩ trivial ?_
      refine R1 d_assign rfl ?_
      refine R_nil (by kernel_rfl) ?_
      refine K_then ?_
      refine C_seq ?_
      refine C_reg ?_
      refine R2 (d_call (c_KFrac (-1) 9 (by omega) (by omega) (by omega) (by omega)) fi18 rfl) rfl rfl ?_
      refine R1 (d_call (c_MonthsN (fr (kfr (-1) 9)) (dig_fr _) (fun h => absurd h.2 (by decide +kernel))) fi22 rfl) rfl ?_
      refine R1 d_move rfl ?_
      refine R1 (d_extract rfl) rfl ?_
      refine R1 (d_extract rfl) rfl ?_
      refine R1 d_assign rfl ?_
      refine R1 d_assign rfl ?_
      refine R_nil (by kernel_rfl) ?_
      refine K_then ?_
      refine C_seq ?_
      refine C_reg ?_
      refine R0 (d_build (r := tS [⟨2, true, (tS [⟨1, false, (tE (.bool false))⟩, ⟨1, false, (tLm [])⟩])⟩, ⟨2, true, (tS [⟨1, false, (tE (.bool false))⟩, ⟨1, false, (tLm [])⟩])⟩]) (ts := []) bu26 zr26.2 ⟨_, rfl⟩ rfl Le.refl)  ?_
      refine R1 (d_call (c_MonthsN fr0 ⟨Dig.nil _, Dig.nil _⟩ (fun h => absurd h.1 (by decide +kernel))) fi22 rfl) rfl ?_
      refine R1 d_move rfl ?_
      refine R1 (d_extract rfl) rfl ?_
      refine R1 (d_extract rfl) rfl ?_
      refine R1 d_assign rfl ?_
      refine R1 d_assign rfl ?_
      refine R_nil (by kernel_rfl) ?_
      refine K_then ?_
      refine C_seq ?_
      refine C_reg ?_
      refine R1 d_move rfl ?_
      refine R1 d_move rfl ?_
      refine RE (d_call (c_PeriodsN l 0 9 (min x (-1)) (by omega) hB.dig (by omega)) fi26 rfl) ⟨rfl, rfl, rfl, rfl, trivial⟩ trivial trivial ?_
      refine R1 d_move rfl ?_
      refine R1 (d_extract rfl) rfl ?_
      refine R1 (d_extract rfl) rfl ?_
      refine R1 d_assign rfl ?_
      refine R1 d_assign rfl ?_
      refine R_nil (by kernel_rfl) ?_
      refine K_then ?_
      refine C_seq ?_
      refine C_seq ?_
      refine C_reg ?_
      refine R1 d_move rfl ?_
      refine R1 d_move rfl ?_
      refine R1 d_move rfl ?_
      refine R1 d_move rfl ?_
      refine R1 d_move rfl ?_
      refine R1 d_move rfl ?_
      refine R1 d_move rfl ?_
      refine R1 d_move rfl ?_
      refine R1 d_move rfl ?_
      refine RE (d_vals (n := 9) (f := fun n : Int => tI n) ([2, 2, 2, 2, 2, 2, 2, 2, 2] : List Int) Tryz.underlying59 el33 zf33 rfl (fun _ => inferInstance) rfl rfl rfl) ⟨rfl, rfl, rfl, rfl, rfl, rfl, rfl, rfl, rfl, trivial⟩ trivial trivial ?_
      refine R1 (d_len Tryz.underlying59) rfl ?_
      refine R1 d_move rfl ?_
      refine R_nil (by kernel_rfl) ?_
      refine K_then ?_
      refine C_block ?_
      refine C_loop (fun (i : Nat) => i ≤ 9) (fun (i : Nat) => upd (upd (upd (upd (fun _ => none) 9 (some (.val (tL 8 true tTs l)))) 211 (some (.val (tL 1 false (fun n : Int => tI n) ([2, 2, 2, 2, 2, 2, 2, 2, 2] : List Int))))) 212 (some (.val (tI 9)))) 213 (some (.val (tI i)))) (fun (i : Nat) => fun _ => none) (nm []) (fun (i : Nat) => 9 - i) (0) (Nat.zero_le _) (Sub.int rfl (by first | omega | rfl | (dsimp only; omega)) (Sub.int rfl (by first | omega | rfl | (dsimp only; omega)) (Sub.cons rfl (Sub.cons rfl Sub.nil)))) SubK.nil (SupG.val (SupG.val (SupG.val (SupG.val SupG.nil)))) SupH.nil (lkOk rfl) ?_
      intro i hI
      refine C_seq ?_
      refine C_reg ?_
      refine R2 d_lss rfl rfl ?_
      refine R_nil (by kernel_rfl) ?_
      refine K_then ?_
      refine C_seq ?_
      refine C_if rfl (fun h189 => ?_) (fun h189 => ?_)
      ·
        refine C_skip ?_
        refine K_then ?_
        refine C_seq ?_
        refine C_block ?_
        refine C_seq ?_
        refine C_reg ?_
        refine R2 (d_indexP sl59 (i) (by omega) (gD (l := ([2, 2, 2, 2, 2, 2, 2, 2, 2] : List Int)) (n := i) (d := (0 : Int)) (by show i < 9; omega))) rfl rfl ?_
        refine R1 (d_loadP ti33) rfl ?_
        refine R1 d_assign rfl ?_
        refine R_nil (by kernel_rfl) ?_
        refine K_then ?_
        refine C_seq ?_
        refine C_reg ?_
        refine R1 d_move rfl ?_
        refine R2 d_neq rfl rfl ?_
        refine R_nil (by kernel_rfl) ?_
        refine K_then ?_
        refine C_bF rfl (decide_eq_false (by exact fun h => h (hE9 i (by omega)))) ?_
        refine C_skip ?_
        refine K_norB ?_
        refine K_then ?_
        refine C_reg ?_
        refine R2 (d_add (wr64 (by omega) (by omega))) rfl rfl ?_
        refine R1 d_move rfl ?_
        refine R_nil (by kernel_rfl) ?_
        exact K_fam (i + 1) ⟨(by omega), (by omega)⟩ (Sub.int rfl (by first | omega | rfl | (dsimp only; omega)) (Sub.int rfl (by first | omega | rfl | (dsimp only; omega)) (Sub.cons rfl (Sub.cons rfl Sub.nil)))) SubK.nil (SupG.val (SupG.val (SupG.val (SupG.val SupG.nil)))) SupH.nil (lkOk rfl)
      ·
        refine C_exit ?_
        refine K_exT ?_
        refine K_exT ?_
        refine K_exB ?_
        refine K_then ?_
        refine C_seq ?_
        refine C_reg ?_
        refine R1 d_move rfl ?_
        refine R1 (d_call (c_SvRight l hB.dig) fi27 rfl) rfl ?_
        refine R1 d_assign rfl ?_
        refine R_nil (by kernel_rfl) ?_
        refine K_then ?_
        refine C_ret ?_
        exact E_ret1 Plain.mk' rfl rfl (Le.bool hB.right)
end An.S
