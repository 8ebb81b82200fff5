/- Part 4 of a proof: W9, Wh3, W10, Fr, W11, W12, W13, Split, W14, W15, Split2, W21, Split3. -/
import Derived.Test.YtakdpdkifnkaeaaGreatS3
/- Package whole: numbers with signs. -/
namespace An.S
open Go Go.Proofs An
set_option maxHeartbeats 1000000
theorem ti48 : TyI Tryz.prog 48 2 true := ⟨by kernel_rfl, by kernel_rfl⟩
theorem sl185 : SlI Tryz.prog 185 48 2 true := ⟨Tryz.underlying185, ti48⟩
theorem fo48_0 : fieldO Tryz.prog 48 0 = some 0 := by kernel_rfl
theorem fo48_1 : fieldO Tryz.prog 48 1 = some 1 := by kernel_rfl
theorem fi91 : FnI Tryz.prog 91 := ⟨_, Tryz.func91, by kernel_rfl, rfl⟩
theorem fi93 : FnI Tryz.prog 93 := ⟨_, Tryz.func93, by kernel_rfl, rfl⟩
theorem fi119 : FnI Tryz.prog 119 := ⟨_, Tryz.func119, by kernel_rfl, rfl⟩
theorem fi124 : FnI Tryz.prog 124 := ⟨_, Tryz.func124, by kernel_rfl, rfl⟩
theorem fi125 : FnI Tryz.prog 125 := ⟨_, Tryz.func125, by kernel_rfl, rfl⟩
theorem fi126 : FnI Tryz.prog 126 := ⟨_, Tryz.func126, by kernel_rfl, rfl⟩
theorem fi179 : FnI Tryz.prog 179 := ⟨_, Tryz.func179, by kernel_rfl, rfl⟩
theorem fi180 : FnI Tryz.prog 180 := ⟨_, Tryz.func180, by kernel_rfl, rfl⟩
theorem fi182 : FnI Tryz.prog 182 := ⟨_, Tryz.func182, by kernel_rfl, rfl⟩
theorem fi183 : FnI Tryz.prog 183 := ⟨_, Tryz.func183, by kernel_rfl, rfl⟩
theorem el48 : ElI Tryz.prog 48 2 32 true (.agg #[.bool false, .slice none 0 0]) := ⟨ti48, by kernel_rfl, by kernel_rfl⟩
theorem zr48 : (Tryz.prog.info? 48).bind (·.zero) = some (.agg #[.bool false, .slice none 0 0]) ∧ ∀ F w, (tS [⟨1, false, (tE (.bool false))⟩, ⟨1, false, (tLm [])⟩]).p F w (.agg #[.bool false, .slice none 0 0]) := ⟨by kernel_rfl, fun _ _ => ⟨_, rfl, rfl, ⟨fun _ => rfl, rfl⟩, ⟨fun _ => rfl, ⟨none, 0, rfl, Nat.le_refl _, by decide, .inl rfl⟩⟩, trivial⟩⟩
theorem bu48 : BuI Tryz.prog 48 (fun i => [(0, 1), (1, 1)][i]?) (.agg #[.bool false, .slice none 0 0]) := BuI.struct Tryz.underlying48 (by kernel_rfl) (by kernel_rfl)
theorem zf48 : Flat 2 true (.agg #[.bool false, .slice none 0 0]) := flat_agg (by intro u hu; simp at hu; rcases hu with rfl | rfl <;> rfl)
theorem all_take_succ {α : Type} {p : α → Bool} {l : List α} {i : Nat} {d : α} (hi : i < l.length) : (l.take (i + 1)).all p = ((l.take i).all p && p (l.getD i d)) := by
  rw [List.take_succ_eq_append_getElem hi, List.all_append]
  simp [hi]
theorem all_stop {α : Type} {p : α → Bool} {l : List α} {i : Nat} {d : α} (hi : i < l.length) (h : p (l.getD i d) = false) : l.all p = false := by
  rw [List.all_eq_false]
  refine ⟨l[i], List.getElem_mem hi, ?_⟩
  rw [List.getD_eq_getElem?_getD, List.getElem?_eq_getElem hi] at h
  simpa using h
theorem c_WValid (x : Wh) :
    Ct Tryz.prog 119 [tWh x] (tB x.valid) := by
  refine Ct.intro Tryz.func119 rfl Tryz.ntmps119 rfl ?_
  intro w F
  refine C_seq ?_
  refine C_reg ?_
  refine RE (d_box (k := 1) ti48 rfl) ⟨rfl, trivial⟩ trivial ⟨rfl, trivial⟩ ?_
  refine R1 d_assign rfl ?_
  refine R_nil (by kernel_rfl) ?_
  refine K_then ?_
  refine C_seq ?_
  refine C_reg ?_
  refine R1 (d_fieldO fo48_1 rfl) rfl ?_
  refine R_loadF (0) ti46 rfl rfl rfl (At.g 1 rfl rfl) rfl ?_
  refine R1 (d_len Tryz.underlying46) rfl ?_
  refine R1 d_assign rfl ?_
  refine R_nil (by kernel_rfl) ?_
  refine K_then ?_
  refine C_seq ?_
  refine C_seq ?_
  refine C_len (s := 5) rfl (fun hl5 => ?_)
  refine C_reg ?_
  refine R1 d_move rfl ?_
  refine R2 d_eql rfl rfl ?_
  refine R_nil (by kernel_rfl) ?_
  refine K_then ?_
  refine C_if rfl (fun h24 => ?_) (fun h24 => ?_)
  ·
    refine C_seq ?_
    refine C_reg ?_
    refine R1 (d_fieldO fo48_0 rfl) rfl ?_
    refine R_loadF (0) ti4 rfl rfl rfl (At.g 0 rfl rfl) rfl ?_
    refine R1 d_not rfl ?_
    refine R1 d_assign rfl ?_
    refine R_nil (by kernel_rfl) ?_
    refine K_then ?_
    refine C_ret ?_
    refine K_retT ?_
    exact E_ret1 Plain.mk' rfl rfl (Le.bool (by simp only [Wh.valid]; rw [if_pos (by omega)]))
  ·
    refine C_skip ?_
    refine K_then ?_
    refine C_seq ?_
    refine C_reg ?_
    refine R1 d_move rfl ?_
    refine R2 d_leq rfl rfl ?_
    refine R1 d_move rfl ?_
    refine RGcaseD (t := 14) rfl (fun h27 => ?_) (fun h27 => ?_)
    ·
      refine RGon (decide_eq_true h27) rfl (d_fieldO fo48_1 rfl) rfl ⟨rfl, trivial⟩ trivial trivial ?_
      refine RG_loadF (decide_eq_true h27) rfl rfl (0) ti46 rfl rfl rfl (At.g 1 rfl rfl) rfl ?_
      refine RGon (decide_eq_true h27) rfl d_move rfl ⟨rfl, trivial⟩ trivial trivial ?_
      refine RGon (decide_eq_true h27) rfl (d_sub (by first | exact wr64 (by omega) (by omega))) rfl ⟨rfl, rfl, trivial⟩ trivial trivial ?_
      refine RGon (decide_eq_true h27) rfl (d_indexP sl46 (x.l.length - 1) (by omega) (gN (by omega))) rfl ⟨rfl, rfl, trivial⟩ trivial trivial ?_
      refine RGon (decide_eq_true h27) rfl (d_loadP ti122) rfl ⟨rfl, trivial⟩ trivial trivial ?_
      refine RGon (decide_eq_true h27) rfl d_neq rfl ⟨rfl, rfl, trivial⟩ trivial trivial ?_
      refine R2 (d_pickT (decide_eq_true h27)) rfl rfl ?_
      refine R1 d_assign rfl ?_
      refine R_nil (by kernel_rfl) ?_
      refine K_then ?_
      refine C_ret ?_
      exact E_ret1 Plain.mk' rfl rfl (Le.bool (by simp only [Wh.valid]; rw [if_neg (by omega), decide_eq_true (show x.l.length ≤ 1024 by omega), Bool.true_and]; exact decide_eq_decide.2 (by omega)))
    ·
      refine RGoff (decide_eq_false h27) rfl rfl ?_
      refine RGoff (decide_eq_false h27) rfl rfl ?_
      refine RGoff (decide_eq_false h27) rfl rfl ?_
      refine RGoff (decide_eq_false h27) rfl rfl ?_
      refine RGoff (decide_eq_false h27) rfl rfl ?_
      refine RGoff (decide_eq_false h27) rfl rfl ?_
      refine RGoff (decide_eq_false h27) rfl rfl ?_
      refine R2 (d_pickF (decide_eq_false h27)) rfl rfl ?_
      refine R1 d_assign rfl ?_
      refine R_nil (by kernel_rfl) ?_
      refine K_then ?_
      refine C_ret ?_
      exact E_ret1 Plain.mk' rfl rfl (Le.bool (by simp only [Wh.valid]; rw [if_neg (by omega), decide_eq_false (show ¬ x.l.length ≤ 1024 by omega), Bool.false_and]))
theorem c_WallValid (ws : List Wh) :
    Ct Tryz.prog 91 [tL 2 true tWh ws] (tB (ws.all Wh.valid)) := by
  refine Ct.intro Tryz.func91 rfl Tryz.ntmps91 rfl ?_
  intro w F
  refine C_len (s := 0) rfl (fun hl0 => ?_)
  refine C_seq ?_
  refine C_reg ?_
  refine R1 d_assign rfl ?_
  refine R_nil (by kernel_rfl) ?_
  refine K_then ?_
  refine C_seq ?_
  refine C_seq ?_
  refine C_reg ?_
  refine R1 d_move rfl ?_
  refine R1 (d_len Tryz.underlying185) rfl ?_
  refine R1 d_move rfl ?_
  refine R_nil (by kernel_rfl) ?_
  refine K_then ?_
  refine C_block ?_
  refine C_loop (fun (i : Nat) => i ≤ ws.length ∧ (ws.take i).all Wh.valid = true) (fun (i : Nat) => upd (upd (upd (fun _ => none) 5 (some (.val (tL 2 true tWh ws)))) 6 (some (.val (tI ws.length)))) 7 (some (.val (tI i)))) (fun (i : Nat) => fun _ => none) (nm []) (fun (i : Nat) => ws.length - i) (0) ⟨Nat.zero_le _, rfl⟩ (Sub.int rfl (by first | omega | rfl | (dsimp only; omega)) (Sub.int rfl (by first | omega | rfl | (dsimp only; omega)) (Sub.cons rfl Sub.nil))) SubK.nil (SupG.val (SupG.val (SupG.val SupG.nil))) SupH.nil (lkOk rfl) ?_
  intro i hI
  obtain ⟨hi, ha⟩ := hI
  refine C_seq ?_
  refine C_reg ?_
  refine R2 d_lss rfl rfl ?_
  refine R_nil (by kernel_rfl) ?_
  refine K_then ?_
  refine C_seq ?_
  refine C_if rfl (fun h32 => ?_) (fun h32 => ?_)
  ·
    refine C_skip ?_
    refine K_then ?_
    refine C_seq ?_
    refine C_block ?_
    refine C_seq ?_
    refine C_reg ?_
    refine R2 (d_indexP sl185 i (by omega) (gD (l := ws) (n := i) (d := ⟨false, []⟩) (by omega))) rfl rfl ?_
    refine R1 (d_loadP ti48) rfl ?_
    refine RE (d_alloc (k := 4) (n := 2) (agg := true) zr48.1 zr48.2 rfl) trivial trivial ⟨rfl, trivial⟩ ?_
    refine RE (d_store (es := 2) (agg := true) (0) ti48 rfl rfl rfl) ⟨rfl, rfl, trivial⟩ ⟨rfl, trivial⟩ trivial ?_
    refine R_nil (by kernel_rfl) ?_
    refine K_then ?_
    refine C_seq ?_
    refine C_reg ?_
    refine RE (d_load (0) ti48 rfl rfl) ⟨rfl, trivial⟩ ⟨rfl, trivial⟩ trivial ?_
    refine R1 (d_call (c_WValid _) fi119 rfl) rfl ?_
    refine R1 d_not rfl ?_
    refine R_nil (by kernel_rfl) ?_
    refine K_then ?_
    refine C_cond rfl (fun h33 => ?_) (fun h33 => ?_)
    ·
      refine C_seq ?_
      refine C_reg ?_
      refine R1 d_assign rfl ?_
      refine R_nil (by kernel_rfl) ?_
      refine K_then ?_
      refine C_ret ?_
      refine K_retB ?_
      refine K_retT ?_
      refine K_retT ?_
      refine K_retB ?_
      refine K_retT ?_
      exact E_ret1 Plain.mk' rfl rfl (Le.bool (all_stop (l := ws) (i := i) (d := ⟨false, []⟩) (by omega) (by simpa using h33)).symm)
    ·
      refine C_skip ?_
      refine K_norB ?_
      refine K_then ?_
      refine C_reg ?_
      refine R2 (d_add (by first | exact wr64 (by omega) (by omega))) rfl rfl ?_
      refine R1 d_move rfl ?_
      refine R_nil (by kernel_rfl) ?_
      exact K_fam (i + 1) ⟨⟨by omega, by rw [all_take_succ (l := ws) (i := i) (d := ⟨false, []⟩) (by omega), ha]; simpa using h33⟩, (by omega)⟩ (Sub.int rfl (by first | omega | rfl | (dsimp only; omega)) (Sub.int rfl (by first | omega | rfl | (dsimp only; omega)) (Sub.cons rfl Sub.nil))) SubK.nil (SupG.val (SupG.val (SupG.val SupG.nil))) SupH.nil (lkOk rfl)
  ·
    refine C_exit ?_
    refine K_exT ?_
    refine K_exT ?_
    refine K_exB ?_
    refine K_then ?_
    refine C_seq ?_
    refine C_reg ?_
    refine R1 d_assign rfl ?_
    refine R_nil (by kernel_rfl) ?_
    refine K_then ?_
    refine C_ret ?_
    exact E_ret1 Plain.mk' rfl rfl (Le.bool (by rw [← ha, show i = ws.length by omega, List.take_length]))
theorem c_WallValid2 (x y : Int) (hx : len16 x ≤ 1024) (hy : len16 y ≤ 1024) : Ct Tryz.prog 91 [tL 2 true tWh [wh x, wh y]] (tB true) := by
  have := c_WallValid [wh x, wh y]
  simp only [List.all_cons, List.all_nil, valid_wh hx, valid_wh hy, Bool.and_true] at this
  exact this
theorem c_packN (v : Nat) (h : (dig 65536 v).length ≤ 1000000) : Ct Tryz.prog 93 [tLm (dig 65536 v)] (tN v) := by
  have := c_pack (dig 65536 v) (dig_Dig two_le_L v) h
  rw [pack_dig] at this; exact this
theorem c_trimN (v : Nat) : Ct Tryz.prog 184 [tN v] (tN v) := by
  have := c_trim (dig 4294967296 v)
  rw [trimL_Top (dig_Top two_le_W v)] at this; exact this
theorem c_clone16V (xs : List Nat) (h : xs.length ≤ 1000000) : Ct Tryz.prog 82 [tLm xs] (tLm xs) := Ct.ofG (c_clone16 xs h) rfl
theorem c_unpack (p : Bool) (v : Nat) (h : (dig 4294967296 v).length ≤ 100000) :
    Ct Tryz.prog 179 [tB p, tN v] (tWh (wh (sgn p v))) := by
  refine Ct.intro Tryz.func179 rfl Tryz.ntmps179 rfl ?_
  intro w F
  refine C_seq ?_
  refine C_reg ?_
  refine RE (d_alloc (k := 4) (n := 2) (agg := true) zr48.1 zr48.2 rfl) trivial trivial ⟨rfl, trivial⟩ ?_
  refine R_nil (by kernel_rfl) ?_
  refine K_then ?_
  refine C_seq ?_
  refine C_reg ?_
  refine R1 d_move rfl ?_
  refine R1 (d_call (c_trimN _) fi184 rfl) rfl ?_
  refine R1 d_assign rfl ?_
  refine R_nil (by kernel_rfl) ?_
  refine K_then ?_
  refine C_seq ?_
  refine C_seq ?_
  refine C_reg ?_
  refine R1 d_move rfl ?_
  refine R1 (d_len Tryz.underlying133) rfl ?_
  refine R2 d_eql rfl rfl ?_
  refine R_nil (by kernel_rfl) ?_
  refine K_then ?_
  refine C_if rfl (fun h37 => ?_) (fun h37 => ?_)
  ·
    have hv0 : v = 0 := (dig_eq_nil two_le_W).1 (List.length_eq_zero_iff.1 (by omega))
    subst hv0
    refine C_seq ?_
    refine C_reg ?_
    refine R0 (d_build (r := tS [⟨1, false, (tE (.bool false))⟩, ⟨1, false, (tLm [])⟩]) (ts := []) bu48 zr48.2 ⟨_, rfl⟩ rfl Le.refl)  ?_
    refine RE (d_store (es := 2) (agg := true) (0) ti48 rfl rfl rfl) ⟨rfl, rfl, trivial⟩ ⟨rfl, trivial⟩ trivial ?_
    refine R_nil (by kernel_rfl) ?_
    refine K_then ?_
    refine C_ret ?_
    refine K_retT ?_
    exact E_retC Plain.mk' rfl ⟨_, _, _, _, _, rfl, rfl, ti48, (Le.of (by rw [wh_sgn, dig_zero]; simp))⟩
  ·
    have hv0 : 0 < v := by
      rcases Nat.eq_zero_or_pos v with h' | h'
      · subst h'; rw [dig_zero] at h37; simp at h37
      · exact h'
    refine C_skip ?_
    refine K_then ?_
    refine C_seq ?_
    refine C_reg ?_
    refine R1 d_move rfl ?_
    refine R1 (d_len Tryz.underlying133) rfl ?_
    refine R2 (d_mul (by first | exact wr64 (by omega) (by omega))) rfl rfl ?_
    refine RE (d_makeO (k := 17) (t := tE (.int .u16 0)) (ts := rW .u16 (List.replicate (2 * (dig 4294967296 v).length) 0)) (2 * (dig 4294967296 v).length) (2 * (dig 4294967296 v).length) Tryz.underlying46 el122 (fun _ _ => rfl) rfl (by omega) (by omega) (Nat.le_refl _) (by omega) (by omega) (rW_rep _)) ⟨rfl, rfl, trivial⟩ trivial ⟨rfl, trivial⟩ ?_
    refine R1 d_assign rfl ?_
    refine R_nil (by kernel_rfl) ?_
    refine K_then ?_
    refine C_seq ?_
    refine C_seq ?_
    refine C_reg ?_
    refine R1 d_move rfl ?_
    refine R1 (d_len Tryz.underlying133) rfl ?_
    refine R1 d_move rfl ?_
    refine R_nil (by kernel_rfl) ?_
    refine K_then ?_
    refine C_block ?_
    refine C_loop (fun (fm : (Nat) × (List Nat)) => (fun (i : Nat) (ls : List Nat) => i ≤ (dig 4294967296 v).length ∧ ls.length = 2 * (dig 4294967296 v).length ∧ ls.take (2 * i) = dgs 65536 (2 * i) v) fm.1 fm.2) (fun (fm : (Nat) × (List Nat)) => (fun (i : Nat) (ls : List Nat) => upd (upd (upd (upd (upd (upd (fun _ => none) 0 (some (.val (tB p)))) 4 (some (.own (.ptr 4 0)))) 5 (some (.own (.sl 17 1 0 (2 * (dig 4294967296 v).length))))) 18 (some (.val (tN v)))) 19 (some (.val (tI (dig 4294967296 v).length)))) 20 (some (.val (tI i)))) fm.1 fm.2) (fun (fm : (Nat) × (List Nat)) => (fun (i : Nat) (ls : List Nat) => upd (upd (fun _ => none) 4 (some (⟨48, 2, true, [.val (tWh ⟨false, []⟩)]⟩))) 17 (some (⟨122, 1, false, rW .u16 ls⟩))) fm.1 fm.2) (nm [4, 17]) (fun (fm : (Nat) × (List Nat)) => (fun (i : Nat) (ls : List Nat) => (dig 4294967296 v).length - i) fm.1 fm.2) ((0, List.replicate (2 * (dig 4294967296 v).length) 0)) (by dsimp only; exact ⟨Nat.zero_le _, by simp, rfl⟩) (Sub.int rfl (by first | omega | rfl | (dsimp only; omega)) (Sub.int rfl (by first | omega | rfl | (dsimp only; omega)) (Sub.cons rfl (Sub.cons rfl (Sub.cons rfl (Sub.cons rfl Sub.nil)))))) ((SubK.consI rfl ImpK.refl) ((SubK.consI rfl ImpK.refl) SubK.nil)) (SupG.val (SupG.val (SupG.val (SupG.own rfl (SupG.own rfl (SupG.val SupG.nil)))))) (SupH.cons rfl (supJ sup_rW) (SupH.cons rfl (supJL rfl) SupH.nil)) (lkOk rfl) ?_
    intro fm hI
    obtain ⟨i, ls⟩ := fm
    replace hI : i ≤ (dig 4294967296 v).length ∧ ls.length = 2 * (dig 4294967296 v).length ∧ ls.take (2 * i) = dgs 65536 (2 * i) v := hI
    show wc _ _ _ _ (upd (upd (upd (upd (upd (upd (fun _ => none) 0 (some (.val (tB p)))) 4 (some (.own (.ptr 4 0)))) 5 (some (.own (.sl 17 1 0 (2 * (dig 4294967296 v).length))))) 18 (some (.val (tN v)))) 19 (some (.val (tI (dig 4294967296 v).length)))) 20 (some (.val (tI i)))) (upd (upd (fun _ => none) 4 (some (⟨48, 2, true, [.val (tWh ⟨false, []⟩)]⟩))) 17 (some (⟨122, 1, false, rW .u16 ls⟩))) _
    obtain ⟨hi, hl, ht⟩ := hI
    have hx := dig_getD two_le_W v i
    have hxW := (dig_Dig two_le_W v).getD (by decide) i
    refine C_seq ?_
    refine C_reg ?_
    refine R2 d_lss rfl rfl ?_
    refine R_nil (by kernel_rfl) ?_
    refine K_then ?_
    refine C_seq ?_
    refine C_if rfl (fun h41 => ?_) (fun h41 => ?_)
    ·
      refine C_skip ?_
      refine K_then ?_
      refine C_seq ?_
      refine C_block ?_
      refine C_seq ?_
      refine C_reg ?_
      refine R1 d_move rfl ?_
      refine R2 (d_indexP sl133 (i) (by omega) (gN (by omega))) rfl rfl ?_
      refine R1 (d_loadP ti186) rfl ?_
      refine R1 d_assign rfl ?_
      refine R1 d_assign rfl ?_
      refine R_nil (by kernel_rfl) ?_
      refine K_then ?_
      refine C_seq ?_
      refine C_reg ?_
      refine R1 d_move rfl ?_
      refine R1 d_move rfl ?_
      refine R2 (d_mul (by first | exact wr64 (by omega) (by omega))) rfl rfl ?_
      refine R1 d_move rfl ?_
      refine R1 (d_convert Tryz.underlying122 (isS Tryz.underlying186) cut16) rfl ?_
      refine R2 (d_indexO sl46 (by omega) (by omega) rfl) rfl rfl ?_
      refine RE (d_store (2 * i) ti122 (rW_lt (by omega)) (by omega) (rW_set (m := _) rfl)) ⟨rfl, rfl, trivial⟩ ⟨rfl, trivial⟩ trivial ?_
      refine R_nil (by kernel_rfl) ?_
      refine K_then ?_
      refine C_reg ?_
      refine R1 d_move rfl ?_
      refine R1 d_move rfl ?_
      refine R2 (d_mul (by first | exact wr64 (by omega) (by omega))) rfl rfl ?_
      refine R2 (d_add (by first | exact wr64 (by omega) (by omega))) rfl rfl ?_
      refine R1 d_move rfl ?_
      refine R2 (d_shr (by decide) (shrN (s := 16) rfl (by decide))) rfl rfl ?_
      refine R1 (d_convert Tryz.underlying122 (isS Tryz.underlying186) (wu16 (by omega) (by omega))) rfl ?_
      refine R2 (d_indexO sl46 (by omega) (by omega) rfl) rfl rfl ?_
      refine RE (d_store (2 * i + 1) ti122 (rW_lt (by rw [List.length_set]; omega)) (by omega) (rW_set (m := _) rfl)) ⟨rfl, rfl, trivial⟩ ⟨rfl, trivial⟩ trivial ?_
      refine R_nil (by kernel_rfl) ?_
      refine K_norB ?_
      refine K_then ?_
      refine C_reg ?_
      refine R2 (d_add (by first | exact wr64 (by omega) (by omega))) rfl rfl ?_
      refine R1 d_move rfl ?_
      refine R_nil (by kernel_rfl) ?_
      obtain ⟨n1, n2⟩ := unpack_in (by omega) hl ht
      rw [← hx] at n1 n2
      exact K_fam ((i + 1, (ls.set (2 * i) ((dig 4294967296 v).getD i 0 % 65536)).set (2 * i + 1) ((dig 4294967296 v).getD i 0 / 2 ^ 16))) ⟨(by dsimp only; exact ⟨by omega, n1, n2⟩), (by dsimp only; omega)⟩ (Sub.int rfl (by first | omega | rfl | (dsimp only; omega)) (Sub.int rfl (by first | omega | rfl | (dsimp only; omega)) (Sub.cons rfl (Sub.cons rfl (Sub.cons rfl (Sub.cons rfl Sub.nil)))))) ((SubK.consI rfl ImpK.refl) ((SubK.consI rfl ImpK.refl) SubK.nil)) (SupG.val (SupG.val (SupG.val (SupG.own rfl (SupG.own rfl (SupG.val SupG.nil)))))) (SupH.cons rfl (supJ sup_rW) (SupH.cons rfl (supJL rfl) SupH.nil)) (lkOk rfl)
    ·
      have him : i = (dig 4294967296 v).length := by omega
      subst him
      obtain ⟨e1, e2, e3⟩ := unpack_end rfl hv0 hl ht
      refine C_exit ?_
      refine K_exT ?_
      refine K_exT ?_
      refine K_exB ?_
      refine K_then ?_
      refine C_seq ?_
      refine C_seq ?_
      refine C_reg ?_
      refine R1 d_move rfl ?_
      refine R1 d_move rfl ?_
      refine R1 (d_lenO Tryz.underlying46) rfl ?_
      refine R2 (d_sub (by first | exact wr64 (by omega) (by omega))) rfl rfl ?_
      refine R2 (d_indexO sl46 (by omega) (by omega) rfl) rfl rfl ?_
      refine RE (d_load (2 * (dig 4294967296 v).length - 1) ti122 (rW_get (by omega)) (by omega)) ⟨rfl, trivial⟩ ⟨rfl, trivial⟩ trivial ?_
      refine R2 d_eql rfl rfl ?_
      refine R_nil (by kernel_rfl) ?_
      refine K_then ?_
      refine C_if rfl (fun h45 => ?_) (fun h45 => ?_)
      ·
        refine C_reg ?_
        refine R1 d_move rfl ?_
        refine R1 d_move rfl ?_
        refine R1 (d_lenO Tryz.underlying46) rfl ?_
        refine R2 (d_sub (by first | exact wr64 (by omega) (by omega))) rfl rfl ?_
        refine R2 (d_sliceOTo sl46 (2 * (dig 4294967296 v).length - 1) (by omega) (by omega) rfl) rfl rfl ?_
        refine R1 d_assign rfl ?_
        refine R_nil (by kernel_rfl) ?_
        refine K_then ?_
        refine C_seq ?_
        refine C_reg ?_
        refine R1 d_move rfl ?_
        refine RE (d_moveS (f := fun n : Nat => tE (.int .u16 n)) (xs := ls.take (2 * (dig 4294967296 v).length - 1)) (fun _ h => h) rW_take (by rw [List.length_take]; omega)) ⟨rfl, trivial⟩ ⟨rfl, trivial⟩ trivial ?_
        refine R2 (d_build (r := tS [⟨1, false, tB p⟩, ⟨1, false, tLm (ls.take (2 * (dig 4294967296 v).length - 1))⟩]) (ts := [(0, tB p), (1, tLm (ls.take (2 * (dig 4294967296 v).length - 1)))]) bu48 zr48.2 ⟨_, rfl⟩ rfl ⟨_, _, _, _, rfl, Up.f (fs := [⟨1, false, (tE (.bool false))⟩, ⟨1, false, (tLm [])⟩]) (f := ⟨1, false, (tE (.bool false))⟩) (fs' := [⟨1, false, tB p⟩, ⟨1, false, (tLm [])⟩]) 0 rfl rfl rfl, inferInstance, ⟨_, _, _, _, rfl, Up.f (fs := [⟨1, false, tB p⟩, ⟨1, false, (tLm [])⟩]) (f := ⟨1, false, (tLm [])⟩) (fs' := [⟨1, false, tB p⟩, ⟨1, false, tLm (ls.take (2 * (dig 4294967296 v).length - 1))⟩]) 1 rfl rfl rfl, inferInstance, Le.refl⟩⟩) rfl rfl ?_
        refine RE (d_store (es := 2) (agg := true) (0) ti48 rfl rfl rfl) ⟨rfl, rfl, trivial⟩ ⟨rfl, trivial⟩ trivial ?_
        refine R_nil (by kernel_rfl) ?_
        refine K_then ?_
        refine C_ret ?_
        exact E_retC Plain.mk' rfl ⟨_, _, _, _, _, rfl, rfl, ti48, (Le.of (by rw [wh_sgn, e1 (by omega), decide_eq_true (show v ≠ 0 by omega), Bool.and_true]))⟩
      ·
        refine C_skip ?_
        refine K_then ?_
        refine C_seq ?_
        refine C_reg ?_
        refine R1 d_move rfl ?_
        refine RE (d_moveS (f := fun n : Nat => tE (.int .u16 n)) (xs := ls) (fun _ h => h) (rW_all hl) hl) ⟨rfl, trivial⟩ ⟨rfl, trivial⟩ trivial ?_
        refine R2 (d_build (r := tS [⟨1, false, tB p⟩, ⟨1, false, tLm ls⟩]) (ts := [(0, tB p), (1, tLm ls)]) bu48 zr48.2 ⟨_, rfl⟩ rfl ⟨_, _, _, _, rfl, Up.f (fs := [⟨1, false, (tE (.bool false))⟩, ⟨1, false, (tLm [])⟩]) (f := ⟨1, false, (tE (.bool false))⟩) (fs' := [⟨1, false, tB p⟩, ⟨1, false, (tLm [])⟩]) 0 rfl rfl rfl, inferInstance, ⟨_, _, _, _, rfl, Up.f (fs := [⟨1, false, tB p⟩, ⟨1, false, (tLm [])⟩]) (f := ⟨1, false, (tLm [])⟩) (fs' := [⟨1, false, tB p⟩, ⟨1, false, tLm ls⟩]) 1 rfl rfl rfl, inferInstance, Le.refl⟩⟩) rfl rfl ?_
        refine RE (d_store (es := 2) (agg := true) (0) ti48 rfl rfl rfl) ⟨rfl, rfl, trivial⟩ ⟨rfl, trivial⟩ trivial ?_
        refine R_nil (by kernel_rfl) ?_
        refine K_then ?_
        refine C_ret ?_
        exact E_retC Plain.mk' rfl ⟨_, _, _, _, _, rfl, rfl, ti48, (Le.of (by rw [wh_sgn, e2 (by omega), decide_eq_true (show v ≠ 0 by omega), Bool.and_true]))⟩
theorem c_result (p : Bool) (v : Nat) (h : (dig 4294967296 v).length ≤ 100000) :
    Ct Tryz.prog 125 [tB p, tN v] (tT [tWh (resW (sgn p v)), tI (resE (sgn p v))]) := by
  refine Ct.intro Tryz.func125 rfl Tryz.ntmps125 rfl ?_
  intro w F
  refine C_seq ?_
  refine C_reg ?_
  refine RE (d_alloc (k := 4) (n := 2) (agg := true) zr48.1 zr48.2 rfl) trivial trivial ⟨rfl, trivial⟩ ?_
  refine R1 d_assign rfl ?_
  refine R_nil (by kernel_rfl) ?_
  refine K_then ?_
  refine C_seq ?_
  refine C_reg ?_
  refine R1 d_move rfl ?_
  refine R1 d_move rfl ?_
  refine R2 (d_call (c_unpack _ _ h) fi179 rfl) rfl rfl ?_
  refine RE (d_alloc (k := 6) (n := 2) (agg := true) zr48.1 zr48.2 rfl) trivial trivial ⟨rfl, trivial⟩ ?_
  refine RE (d_store (es := 2) (agg := true) (0) ti48 rfl rfl rfl) ⟨rfl, rfl, trivial⟩ ⟨rfl, trivial⟩ trivial ?_
  refine R_nil (by kernel_rfl) ?_
  refine K_then ?_
  refine C_seq ?_
  refine C_seq ?_
  refine C_reg ?_
  refine R1 (d_fieldO fo48_1 rfl) rfl ?_
  refine R_loadF (0) ti46 rfl rfl rfl (At.g 1 rfl rfl) rfl ?_
  refine R1 (d_len Tryz.underlying46) rfl ?_
  refine R2 d_gtr rfl rfl ?_
  refine R_nil (by kernel_rfl) ?_
  refine K_then ?_
  refine C_if rfl (fun h89 => ?_) (fun h89 => ?_)
  ·
    have hn : ¬ len16 (sgn p v) ≤ 1024 := by show ¬ (wh (sgn p v)).l.length ≤ 1024; omega
    refine C_seq ?_
    refine C_reg ?_
    refine R0 (d_build (r := tS [⟨1, false, (tE (.bool false))⟩, ⟨1, false, (tLm [])⟩]) (ts := []) bu48 zr48.2 ⟨_, rfl⟩ rfl Le.refl)  ?_
    refine RE (d_store (es := 2) (agg := true) (0) ti48 rfl rfl rfl) ⟨rfl, rfl, trivial⟩ ⟨rfl, trivial⟩ trivial ?_
    refine R1 d_assign rfl ?_
    refine R_nil (by kernel_rfl) ?_
    refine K_then ?_
    refine C_ret ?_
    refine K_retT ?_
    exact E_retN Plain.mk' (rs := [.cell 4 48, .tmp 5]) rfl rfl ⟨⟨_, _, _, _, _, rfl, rfl, ti48, (Le.of (by rw [resW, if_neg hn]))⟩, ⟨_, rfl, (Le.int (by rw [resE, if_neg hn]))⟩, trivial⟩
  ·
    have hn : len16 (sgn p v) ≤ 1024 := by show (wh (sgn p v)).l.length ≤ 1024; omega
    refine C_skip ?_
    refine K_then ?_
    refine C_seq ?_
    refine C_reg ?_
    refine RE (d_load (0) ti48 rfl rfl) ⟨rfl, trivial⟩ ⟨rfl, trivial⟩ trivial ?_
    refine RE (d_store (es := 2) (agg := true) (0) ti48 rfl rfl rfl) ⟨rfl, rfl, trivial⟩ ⟨rfl, trivial⟩ trivial ?_
    refine R1 d_assign rfl ?_
    refine R_nil (by kernel_rfl) ?_
    refine K_then ?_
    refine C_ret ?_
    exact E_retN Plain.mk' (rs := [.cell 4 48, .tmp 5]) rfl rfl ⟨⟨_, _, _, _, _, rfl, rfl, ti48, (Le.of (by rw [resW, if_pos hn]))⟩, ⟨_, rfl, (Le.int (by rw [resE, if_pos hn]))⟩, trivial⟩
theorem c_sum (p : Bool) (m : Nat) (q : Bool) (n : Nat) (hm : (dig 4294967296 m).length ≤ 10000) (hn : (dig 4294967296 n).length ≤ 10000) :
    Ct Tryz.prog 124 [tB p, tN m, tB q, tN n] (tT [tWh (resW (sgn p m + sgn q n)), tI (resE (sgn p m + sgn q n))]) := by
  have hmn := len_add (m := m) (n := n) hm hn
  refine Ct.intro Tryz.func124 rfl Tryz.ntmps124 rfl ?_
  intro w F
  refine C_seq ?_
  refine C_reg ?_
  refine RE (d_alloc (k := 8) (n := 2) (agg := true) zr48.1 zr48.2 rfl) trivial trivial ⟨rfl, trivial⟩ ?_
  refine R1 d_assign rfl ?_
  refine R_nil (by kernel_rfl) ?_
  refine K_then ?_
  refine C_seq ?_
  refine C_seq ?_
  refine C_reg ?_
  refine R1 d_move rfl ?_
  refine R1 d_move rfl ?_
  refine R2 (d_eqlB Tryz.underlying4) rfl rfl ?_
  refine R_nil (by kernel_rfl) ?_
  refine K_then ?_
  refine C_cond rfl (fun h97 => ?_) (fun h97 => ?_)
  ·
    have hpq : p = q := by simpa using h97
    subst hpq
    refine C_seq ?_
    refine C_reg ?_
    refine R1 d_move rfl ?_
    refine R1 d_move rfl ?_
    refine R1 d_move rfl ?_
    refine R2 (d_call (c_plus m n (by omega) (by omega)) fi182 rfl) rfl rfl ?_
    refine R2 (d_call (c_result p (m + n) (by omega)) fi125 rfl) rfl rfl ?_
    refine R1 (d_extract rfl) rfl ?_
    refine R1 (d_extract rfl) rfl ?_
    refine RE (d_store (es := 2) (agg := true) (0) ti48 rfl rfl rfl) ⟨rfl, rfl, trivial⟩ ⟨rfl, trivial⟩ trivial ?_
    refine R1 d_assign rfl ?_
    refine R_nil (by kernel_rfl) ?_
    refine K_then ?_
    refine C_ret ?_
    refine K_retT ?_
    exact E_retN Plain.mk' (rs := [.cell 8 48, .tmp 9]) rfl rfl ⟨⟨_, _, _, _, _, rfl, rfl, ti48, (Le.of (by rw [sgn_add]))⟩, ⟨_, rfl, (Le.int (by rw [sgn_add]))⟩, trivial⟩
  ·
    have hpq : q = !p := by cases p <;> cases q <;> simp_all
    subst hpq
    refine C_skip ?_
    refine K_then ?_
    refine C_seq ?_
    refine C_seq ?_
    refine C_reg ?_
    refine R1 d_move rfl ?_
    refine R1 d_move rfl ?_
    refine R2 (d_call (c_compare m n) fi92 rfl) rfl rfl ?_
    refine R2 d_geq rfl rfl ?_
    refine R_nil (by kernel_rfl) ?_
    refine K_then ?_
    refine C_if rfl (fun h100 => ?_) (fun h100 => ?_)
    ·
      have hle : n ≤ m := by
        have := mt cmpN_neg.2 (by omega : ¬ cmpN m n < 0)
        omega
      refine C_seq ?_
      refine C_reg ?_
      refine R1 d_move rfl ?_
      refine R1 d_move rfl ?_
      refine R1 d_move rfl ?_
      refine R2 (d_call (c_minus m n (by omega) (by omega)) fi183 rfl) rfl rfl ?_
      refine R2 (d_call (c_result p (m - n) (by have := dig_len_mono two_le_W (Nat.sub_le m n); omega)) fi125 rfl) rfl rfl ?_
      refine R1 (d_extract rfl) rfl ?_
      refine R1 (d_extract rfl) rfl ?_
      refine RE (d_store (es := 2) (agg := true) (0) ti48 rfl rfl rfl) ⟨rfl, rfl, trivial⟩ ⟨rfl, trivial⟩ trivial ?_
      refine R1 d_assign rfl ?_
      refine R_nil (by kernel_rfl) ?_
      refine K_then ?_
      refine C_ret ?_
      refine K_retT ?_
      exact E_retN Plain.mk' (rs := [.cell 8 48, .tmp 9]) rfl rfl ⟨⟨_, _, _, _, _, rfl, rfl, ti48, (Le.of (by rw [sgn_sub hle]))⟩, ⟨_, rfl, (Le.int (by rw [sgn_sub hle]))⟩, trivial⟩
    ·
      have hle : m < n := cmpN_neg.1 (by omega)
      refine C_skip ?_
      refine K_then ?_
      refine C_seq ?_
      refine C_reg ?_
      refine R1 d_move rfl ?_
      refine R1 d_move rfl ?_
      refine R1 d_move rfl ?_
      refine R2 (d_call (c_minus n m (by omega) (by omega)) fi183 rfl) rfl rfl ?_
      refine R2 (d_call (c_result (!p) (n - m) (by have := dig_len_mono two_le_W (Nat.sub_le n m); omega)) fi125 rfl) rfl rfl ?_
      refine R1 (d_extract rfl) rfl ?_
      refine R1 (d_extract rfl) rfl ?_
      refine RE (d_store (es := 2) (agg := true) (0) ti48 rfl rfl rfl) ⟨rfl, rfl, trivial⟩ ⟨rfl, trivial⟩ trivial ?_
      refine R1 d_assign rfl ?_
      refine R_nil (by kernel_rfl) ?_
      refine K_then ?_
      refine C_ret ?_
      exact E_retN Plain.mk' (rs := [.cell 8 48, .tmp 9]) rfl rfl ⟨⟨_, _, _, _, _, rfl, rfl, ti48, (Le.of (by rw [sgn_sub' (Nat.le_of_lt hle)]))⟩, ⟨_, rfl, (Le.int (by rw [sgn_sub' (Nat.le_of_lt hle)]))⟩, trivial⟩
theorem c_Add (x y : Int) (hx : len16 x ≤ 1024) (hy : len16 y ≤ 1024) :
    Ct Tryz.prog 87 [tWh (wh x), tWh (wh y)] (tT [tWh (resW (x + y)), tI (resE (x + y))]) := by
  have hx32 := len32_le hx
  have hy32 := len32_le hy
  refine Ct.intro Tryz.func87 rfl Tryz.ntmps87 rfl ?_
  intro w F
  refine C_seq ?_
  refine C_reg ?_
  refine RE (d_box (k := 2) ti48 rfl) ⟨rfl, trivial⟩ trivial ⟨rfl, trivial⟩ ?_
  refine RE (d_box (k := 3) ti48 rfl) ⟨rfl, trivial⟩ trivial ⟨rfl, trivial⟩ ?_
  refine RE (d_alloc (k := 4) (n := 2) (agg := true) zr48.1 zr48.2 rfl) trivial trivial ⟨rfl, trivial⟩ ?_
  refine R1 d_assign rfl ?_
  refine R_nil (by kernel_rfl) ?_
  refine K_then ?_
  refine C_seq ?_
  refine C_seq ?_
  refine C_reg ?_
  refine RE (d_load (0) ti48 rfl rfl) ⟨rfl, trivial⟩ ⟨rfl, trivial⟩ trivial ?_
  refine RE (d_load (0) ti48 rfl rfl) ⟨rfl, trivial⟩ ⟨rfl, trivial⟩ trivial ?_
  refine R2 (d_vals (n := 2) (f := tWh) [wh x, wh y] Tryz.underlying185 el48 zf48 rfl (fun _ => inferInstance) rfl rfl rfl) rfl rfl ?_
  refine R1 (d_call (c_WallValid2 x y hx hy) fi91 rfl) rfl ?_
  refine R1 d_not rfl ?_
  refine R_nil (by kernel_rfl) ?_
  refine K_then ?_
  refine C_bF rfl rfl ?_
  refine C_skip ?_
  refine K_then ?_
  refine C_seq ?_
  refine C_draw mixed ?_
  refine R1 (d_fieldO fo48_0 rfl) rfl ?_
  refine R_loadF (0) ti4 rfl rfl rfl (At.g 0 rfl rfl) rfl ?_
  refine R1 (d_fieldO fo48_1 rfl) rfl ?_
  refine R_loadF (0) ti46 rfl rfl rfl (At.g 1 rfl rfl) rfl ?_
  refine R1 (d_call (c_packN (Int.natAbs x) (by show len16 x ≤ 1000000; omega)) fi93 rfl) rfl ?_
  refine R1 (d_fieldO fo48_0 rfl) rfl ?_
  refine R_loadF (0) ti4 rfl rfl rfl (At.g 0 rfl rfl) rfl ?_
  refine R1 (d_fieldO fo48_1 rfl) rfl ?_
  refine R_loadF (0) ti46 rfl rfl rfl (At.g 1 rfl rfl) rfl ?_
  refine R1 (d_call (c_packN (Int.natAbs y) (by show len16 y ≤ 1000000; omega)) fi93 rfl) rfl ?_
  refine RE (d_call (c_sum (wh x).neg x.natAbs (wh y).neg y.natAbs (by omega) (by omega)) fi124 rfl) ⟨rfl, rfl, rfl, rfl, trivial⟩ trivial trivial ?_
  refine R1 (d_extract rfl) rfl ?_
  refine R1 (d_extract rfl) rfl ?_
  refine RE (d_store (es := 2) (agg := true) (0) ti48 rfl rfl rfl) ⟨rfl, rfl, trivial⟩ ⟨rfl, trivial⟩ trivial ?_
  refine R1 d_assign rfl ?_
  refine R_end (by kernel_rfl) ?_
  refine K_then ?_
  refine C_ret ?_
  exact E_retN Plain.mk' (rs := [.cell 4 48, .tmp 5]) rfl rfl ⟨⟨_, _, _, _, _, rfl, rfl, ti48, (Le.of (by rw [sgn_wh, sgn_wh]))⟩, ⟨_, rfl, (Le.int (by rw [sgn_wh, sgn_wh]))⟩, trivial⟩
theorem c_Mul (x y : Int) (hx : len16 x ≤ 1024) (hy : len16 y ≤ 1024) :
    Ct Tryz.prog 88 [tWh (wh x), tWh (wh y)] (tT [tWh (resW (x * y)), tI (resE (x * y))]) := by
  have hx32 := len32_le hx
  have hy32 := len32_le hy
  have hmul := len_mul (k := 1024) (m := x.natAbs) (n := y.natAbs) (by omega) (by omega)
  refine Ct.intro Tryz.func88 rfl Tryz.ntmps88 rfl ?_
  intro w F
  refine C_seq ?_
  refine C_reg ?_
  refine RE (d_box (k := 2) ti48 rfl) ⟨rfl, trivial⟩ trivial ⟨rfl, trivial⟩ ?_
  refine RE (d_box (k := 3) ti48 rfl) ⟨rfl, trivial⟩ trivial ⟨rfl, trivial⟩ ?_
  refine RE (d_alloc (k := 4) (n := 2) (agg := true) zr48.1 zr48.2 rfl) trivial trivial ⟨rfl, trivial⟩ ?_
  refine R1 d_assign rfl ?_
  refine R_nil (by kernel_rfl) ?_
  refine K_then ?_
  refine C_seq ?_
  refine C_seq ?_
  refine C_reg ?_
  refine RE (d_load (0) ti48 rfl rfl) ⟨rfl, trivial⟩ ⟨rfl, trivial⟩ trivial ?_
  refine RE (d_load (0) ti48 rfl rfl) ⟨rfl, trivial⟩ ⟨rfl, trivial⟩ trivial ?_
  refine R2 (d_vals (n := 2) (f := tWh) [wh x, wh y] Tryz.underlying185 el48 zf48 rfl (fun _ => inferInstance) rfl rfl rfl) rfl rfl ?_
  refine R1 (d_call (c_WallValid2 x y hx hy) fi91 rfl) rfl ?_
  refine R1 d_not rfl ?_
  refine R_nil (by kernel_rfl) ?_
  refine K_then ?_
  refine C_bF rfl rfl ?_
  refine C_skip ?_
  refine K_then ?_
  refine C_seq ?_
  refine C_draw mixed ?_
  refine R1 (d_fieldO fo48_0 rfl) rfl ?_
  refine R_loadF (0) ti4 rfl rfl rfl (At.g 0 rfl rfl) rfl ?_
  refine R1 (d_fieldO fo48_0 rfl) rfl ?_
  refine R_loadF (0) ti4 rfl rfl rfl (At.g 0 rfl rfl) rfl ?_
  refine R2 (d_neqB Tryz.underlying4) rfl rfl ?_
  refine R1 (d_fieldO fo48_1 rfl) rfl ?_
  refine R_loadF (0) ti46 rfl rfl rfl (At.g 1 rfl rfl) rfl ?_
  refine R1 (d_call (c_packN (Int.natAbs x) (by show len16 x ≤ 1000000; omega)) fi93 rfl) rfl ?_
  refine R1 (d_fieldO fo48_1 rfl) rfl ?_
  refine R_loadF (0) ti46 rfl rfl rfl (At.g 1 rfl rfl) rfl ?_
  refine R1 (d_call (c_packN (Int.natAbs y) (by show len16 y ≤ 1000000; omega)) fi93 rfl) rfl ?_
  refine R2 (d_call (c_times x.natAbs y.natAbs (by omega) (by omega)) fi126 rfl) rfl rfl ?_
  refine R2 (d_call (c_result (!((wh x).neg == (wh y).neg)) (x.natAbs * y.natAbs) (by omega)) fi125 rfl) rfl rfl ?_
  refine R1 (d_extract rfl) rfl ?_
  refine R1 (d_extract rfl) rfl ?_
  refine RE (d_store (es := 2) (agg := true) (0) ti48 rfl rfl rfl) ⟨rfl, rfl, trivial⟩ ⟨rfl, trivial⟩ trivial ?_
  refine R1 d_assign rfl ?_
  refine R_end (by kernel_rfl) ?_
  refine K_then ?_
  refine C_ret ?_
  exact E_retN Plain.mk' (rs := [.cell 4 48, .tmp 5]) rfl rfl ⟨⟨_, _, _, _, _, rfl, rfl, ti48, (Le.of (by rw [sgn_mul]))⟩, ⟨_, rfl, (Le.int (by rw [sgn_mul]))⟩, trivial⟩
theorem c_Gcd (x y : Int) (hx : len16 x ≤ 1024) (hy : len16 y ≤ 1024) :
    Ct Tryz.prog 122 [tWh (wh x), tWh (wh y)] (tT [tWh (wh ((Int.gcd x y : Nat) : Int)), tI 0]) := by
  have hx32 := len32_le hx
  have hy32 := len32_le hy
  have hg := len_gcd (k := 1024) (m := x.natAbs) (n := y.natAbs) (by omega) (by omega)
  refine Ct.intro Tryz.func122 rfl Tryz.ntmps122 rfl ?_
  intro w F
  refine C_seq ?_
  refine C_reg ?_
  refine RE (d_box (k := 2) ti48 rfl) ⟨rfl, trivial⟩ trivial ⟨rfl, trivial⟩ ?_
  refine RE (d_box (k := 3) ti48 rfl) ⟨rfl, trivial⟩ trivial ⟨rfl, trivial⟩ ?_
  refine RE (d_alloc (k := 4) (n := 2) (agg := true) zr48.1 zr48.2 rfl) trivial trivial ⟨rfl, trivial⟩ ?_
  refine R1 d_assign rfl ?_
  refine R_nil (by kernel_rfl) ?_
  refine K_then ?_
  refine C_seq ?_
  refine C_seq ?_
  refine C_reg ?_
  refine RE (d_load (0) ti48 rfl rfl) ⟨rfl, trivial⟩ ⟨rfl, trivial⟩ trivial ?_
  refine RE (d_load (0) ti48 rfl rfl) ⟨rfl, trivial⟩ ⟨rfl, trivial⟩ trivial ?_
  refine R2 (d_vals (n := 2) (f := tWh) [wh x, wh y] Tryz.underlying185 el48 zf48 rfl (fun _ => inferInstance) rfl rfl rfl) rfl rfl ?_
  refine R1 (d_call (c_WallValid2 x y hx hy) fi91 rfl) rfl ?_
  refine R1 d_not rfl ?_
  refine R_nil (by kernel_rfl) ?_
  refine K_then ?_
  refine C_bF rfl rfl ?_
  refine C_skip ?_
  refine K_then ?_
  refine C_seq ?_
  refine C_draw mixed ?_
  refine R1 (d_fieldO fo48_1 rfl) rfl ?_
  refine R_loadF (0) ti46 rfl rfl rfl (At.g 1 rfl rfl) rfl ?_
  refine R1 (d_call (c_packN (Int.natAbs x) (by show len16 x ≤ 1000000; omega)) fi93 rfl) rfl ?_
  refine R1 (d_fieldO fo48_1 rfl) rfl ?_
  refine R_loadF (0) ti46 rfl rfl rfl (At.g 1 rfl rfl) rfl ?_
  refine R1 (d_call (c_packN (Int.natAbs y) (by show len16 y ≤ 1000000; omega)) fi93 rfl) rfl ?_
  refine R2 (d_call (c_commonDivisor x.natAbs y.natAbs (by omega) (by omega)) fi180 rfl) rfl rfl ?_
  refine R2 (d_call (c_unpack false (Nat.gcd x.natAbs y.natAbs) (by omega)) fi179 rfl) rfl rfl ?_
  refine RE (d_store (es := 2) (agg := true) (0) ti48 rfl rfl rfl) ⟨rfl, rfl, trivial⟩ ⟨rfl, trivial⟩ trivial ?_
  refine R1 d_assign rfl ?_
  refine R_end (by kernel_rfl) ?_
  refine K_then ?_
  refine C_ret ?_
  exact E_retN Plain.mk' (rs := [.cell 4 48, .tmp 5]) rfl rfl ⟨⟨_, _, _, _, _, rfl, rfl, ti48, Le.refl⟩, ⟨_, rfl, Le.refl⟩, trivial⟩
theorem c_Cmp (x y : Int) (hx : len16 x ≤ 1024) (hy : len16 y ≤ 1024) :
    Ct Tryz.prog 59 [tWh (wh x), tWh (wh y)] (tI (cmpZ x y)) := by
  have hx32 := len32_le hx
  have hy32 := len32_le hy
  refine Ct.intro Tryz.func59 rfl Tryz.ntmps59 rfl ?_
  intro w F
  refine C_seq ?_
  refine C_reg ?_
  refine RE (d_box (k := 2) ti48 rfl) ⟨rfl, trivial⟩ trivial ⟨rfl, trivial⟩ ?_
  refine RE (d_box (k := 3) ti48 rfl) ⟨rfl, trivial⟩ trivial ⟨rfl, trivial⟩ ?_
  refine R1 d_assign rfl ?_
  refine R_nil (by kernel_rfl) ?_
  refine K_then ?_
  refine C_seq ?_
  refine C_seq ?_
  refine C_reg ?_
  refine RE (d_load (0) ti48 rfl rfl) ⟨rfl, trivial⟩ ⟨rfl, trivial⟩ trivial ?_
  refine RE (d_load (0) ti48 rfl rfl) ⟨rfl, trivial⟩ ⟨rfl, trivial⟩ trivial ?_
  refine R2 (d_vals (n := 2) (f := tWh) [wh x, wh y] Tryz.underlying185 el48 zf48 rfl (fun _ => inferInstance) rfl rfl rfl) rfl rfl ?_
  refine R1 (d_call (c_WallValid2 x y hx hy) fi91 rfl) rfl ?_
  refine R1 d_not rfl ?_
  refine R_nil (by kernel_rfl) ?_
  refine K_then ?_
  refine C_bF rfl rfl ?_
  refine C_skip ?_
  refine K_then ?_
  refine C_seq ?_
  refine C_seq ?_
  refine C_reg ?_
  refine R1 (d_fieldO fo48_0 rfl) rfl ?_
  refine R_loadF (0) ti4 rfl rfl rfl (At.g 0 rfl rfl) rfl ?_
  refine R1 (d_fieldO fo48_0 rfl) rfl ?_
  refine R_loadF (0) ti4 rfl rfl rfl (At.g 0 rfl rfl) rfl ?_
  refine R2 (d_neqB Tryz.underlying4) rfl rfl ?_
  refine R_nil (by kernel_rfl) ?_
  refine K_then ?_
  refine C_cond rfl (fun h160 => ?_) (fun h160 => ?_)
  ·
    have hs : (decide (x < 0) == decide (y < 0)) = false := by have h := h160; rw [Bool.not_eq_true'] at h; exact h
    refine C_seq ?_
    refine C_seq ?_
    refine C_reg ?_
    refine R1 (d_fieldO fo48_0 rfl) rfl ?_
    refine R_loadF (0) ti4 rfl rfl rfl (At.g 0 rfl rfl) rfl ?_
    refine R_nil (by kernel_rfl) ?_
    refine K_then ?_
    refine C_cond rfl (fun h161 => ?_) (fun h161 => ?_)
    ·
      have hx0 : x < 0 := of_decide_eq_true h161
      refine C_seq ?_
      refine C_reg ?_
      refine R1 d_assign rfl ?_
      refine R_nil (by kernel_rfl) ?_
      refine K_then ?_
      refine C_ret ?_
      refine K_retT ?_
      refine K_retT ?_
      exact E_ret1 Plain.mk' rfl rfl (Le.int (cmpZ_a hs hx0).symm)
    ·
      have hx0 : ¬ x < 0 := of_decide_eq_false h161
      refine C_skip ?_
      refine K_then ?_
      refine C_seq ?_
      refine C_reg ?_
      refine R1 d_assign rfl ?_
      refine R_nil (by kernel_rfl) ?_
      refine K_then ?_
      refine C_ret ?_
      refine K_retT ?_
      exact E_ret1 Plain.mk' rfl rfl (Le.int (cmpZ_b hs hx0).symm)
  ·
    have hs : decide (x < 0) = decide (y < 0) := eq_of_beq (by have h := h160; rw [Bool.not_eq_false'] at h; exact h)
    refine C_skip ?_
    refine K_then ?_
    refine C_seq ?_
    refine C_draw mixed ?_
    refine R1 (d_fieldO fo48_1 rfl) rfl ?_
    refine R_loadF (0) ti46 rfl rfl rfl (At.g 1 rfl rfl) rfl ?_
    refine R1 (d_call (c_packN (Int.natAbs x) (by show len16 x ≤ 1000000; omega)) fi93 rfl) rfl ?_
    refine R1 (d_fieldO fo48_1 rfl) rfl ?_
    refine R_loadF (0) ti46 rfl rfl rfl (At.g 1 rfl rfl) rfl ?_
    refine R1 (d_call (c_packN (Int.natAbs y) (by show len16 y ≤ 1000000; omega)) fi93 rfl) rfl ?_
    refine R2 (d_call (c_compare x.natAbs y.natAbs) fi92 rfl) rfl rfl ?_
    refine R1 d_assign rfl ?_
    refine R_end (by kernel_rfl) ?_
    refine K_then ?_
    refine C_seq ?_
    refine C_seq ?_
    refine C_reg ?_
    refine R1 (d_fieldO fo48_0 rfl) rfl ?_
    refine R_loadF (0) ti4 rfl rfl rfl (At.g 0 rfl rfl) rfl ?_
    refine R_nil (by kernel_rfl) ?_
    refine K_then ?_
    refine C_cond rfl (fun h167 => ?_) (fun h167 => ?_)
    ·
      have hx0 : x < 0 := of_decide_eq_true h167
      refine C_seq ?_
      refine C_reg ?_
      refine R1 d_move rfl ?_
      refine R1 (d_neg (wr64 (by have := cmpN_bd x.natAbs y.natAbs; omega) (by have := cmpN_bd x.natAbs y.natAbs; omega))) rfl ?_
      refine R1 d_assign rfl ?_
      refine R_nil (by kernel_rfl) ?_
      refine K_then ?_
      refine C_ret ?_
      refine K_retT ?_
      exact E_ret1 Plain.mk' rfl rfl (Le.int (by rw [cmpZ_c hs hx0]; omega))
    ·
      have hx0 : ¬ x < 0 := of_decide_eq_false h167
      refine C_skip ?_
      refine K_then ?_
      refine C_seq ?_
      refine C_reg ?_
      refine R1 d_move rfl ?_
      refine R1 d_assign rfl ?_
      refine R_nil (by kernel_rfl) ?_
      refine K_then ?_
      refine C_ret ?_
      exact E_ret1 Plain.mk' rfl rfl (Le.int (cmpZ_d hs hx0).symm)
end An.S

/- Whole numbers: quotients, numbers of 64 bits. -/
namespace An
open Go
/-! Rounding down. -/
theorem div_neg {m y : Nat} (hy : 0 < y) : (-(m : Int)) / (y : Int) = (if m % y = 0 then -((m / y : Nat) : Int) else -((m / y + 1 : Nat) : Int)) ∧ (-(m : Int)) % (y : Int) = (if m % y = 0 then 0 else ((y - m % y : Nat) : Int)) := by
  have h1 := Nat.div_add_mod m y
  have h2 := Nat.mod_lt m hy
  have hm : (m : Int) = y * ((m / y : Nat) : Int) + ((m % y : Nat) : Int) := by
    rw [← Int.natCast_mul, ← Int.natCast_add, h1]
  generalize m / y = q at *
  generalize m % y = r at *
  have hu := @Int.ediv_emod_unique (-(m : Int)) (y : Int)
  split
  · rename_i h0
    refine (hu (by omega)).2 ⟨?_, by omega, by omega⟩
    rw [hm, h0]; grind
  · refine (hu (by omega)).2 ⟨?_, by omega, by omega⟩
    rw [hm, Int.natCast_sub (Nat.le_of_lt h2), Int.natCast_add]; grind
theorem dm_quo {x y : Int} (hy : 0 < y) {Q R : Nat} (h : (decide (x < 0) = true ∧ x.natAbs % y.natAbs ≠ 0 → Q = x.natAbs / y.natAbs + 1 ∧ R = y.natAbs - x.natAbs % y.natAbs) ∧ (¬ (decide (x < 0) = true ∧ x.natAbs % y.natAbs ≠ 0) → Q = x.natAbs / y.natAbs ∧ R = x.natAbs % y.natAbs)) :
    sgn (!((wh x).neg == (wh y).neg)) Q = x / y ∧ sgn (wh y).neg R = x % y := by
  have ey : (wh y).neg = false := decide_eq_false (by omega)
  have ex : (wh x).neg = decide (x < 0) := rfl
  rw [ey, ex]
  obtain ⟨n, rfl⟩ := Int.eq_ofNat_of_zero_le (Int.le_of_lt hy)
  have hn : 0 < n := by omega
  simp only [Int.natAbs_natCast] at h
  by_cases hx : x < 0
  · obtain ⟨m, hm⟩ := Int.eq_ofNat_of_zero_le (show 0 ≤ -x by omega)
    have hxm : x = -(m : Int) := by omega
    subst hxm
    obtain ⟨d1, d2⟩ := div_neg (m := m) hn
    simp only [Int.natAbs_neg, Int.natAbs_natCast] at h
    rw [d1, d2, decide_eq_true hx]
    by_cases h0 : m % n = 0
    · obtain ⟨e1, e2⟩ := h.2 (by simp [h0])
      rw [e1, e2, if_pos h0, if_pos h0, h0]
      simp [sgn]
    · obtain ⟨e1, e2⟩ := h.1 ⟨decide_eq_true hx, h0⟩
      rw [e1, e2, if_neg h0, if_neg h0]
      simp [sgn]
  · obtain ⟨m, rfl⟩ := Int.eq_ofNat_of_zero_le (show 0 ≤ x by omega)
    simp only [Int.natAbs_natCast] at h
    obtain ⟨e1, e2⟩ := h.2 fun h' => hx (of_decide_eq_true h'.1)
    rw [e1, e2, decide_eq_false hx]
    simp [sgn]
theorem len_one : (dig 4294967296 1).length ≤ 1 := (len_le_iff two_le_W 1 1).2 (by decide)
/-! Numbers of 64 bits. -/
theorem wh_len (v : Nat) (h : v < 18446744073709551616) : (dig 65536 v).length ≤ 4 := (len_le_iff two_le_L v 4).2 (by simpa using h)
theorem count_step {v i c : Nat} (h : c = (dig 65536 (v % 65536 ^ i)).length) : (v / 65536 ^ i % 65536 ≠ 0 → i + 1 = (dig 65536 (v % 65536 ^ (i + 1))).length) ∧ (v / 65536 ^ i % 65536 = 0 → c = (dig 65536 (v % 65536 ^ (i + 1))).length) := by
  have e := mod_step 65536 v i
  refine ⟨fun h0 => ?_, fun h0 => by rw [e, h0, Nat.mul_zero, Nat.add_zero]; exact h⟩
  have hp : 0 < 65536 ^ i := Nat.pow_pos (by decide)
  have h1 : (dig 65536 (v % 65536 ^ (i + 1))).length ≤ i + 1 := (len_le_iff two_le_L _ _).2 (Nat.mod_lt _ (Nat.pow_pos (by decide)))
  have h2 : ¬ (dig 65536 (v % 65536 ^ (i + 1))).length ≤ i := fun h' => by
    have h3 := (len_le_iff two_le_L _ _).1 h'
    rw [e] at h3
    have h4 : 65536 ^ i * 1 ≤ 65536 ^ i * (v / 65536 ^ i % 65536) := Nat.mul_le_mul_left _ (by omega)
    omega
  omega
theorem shr16i (v i : Nat) : v / 2 ^ (16 * i) = v / 65536 ^ i := by rw [Nat.pow_mul]
theorem toU64 {n : Int} : IntKind.u64.wrap n = (((n % 18446744073709551616).toNat : Nat) : Int) := by
  rw [mu64]; omega
theorem negU64 {v : Nat} (hv : v < 18446744073709551616) : IntKind.u64.wrap (0 - (v : Int)) = (((18446744073709551616 - v) % 18446744073709551616 : Nat) : Int) := by
  rw [mu64]; omega
theorem toI64 {v : Nat} (hv : v < 18446744073709551616) : IntKind.i64.wrap (v : Int) = if v < 9223372036854775808 then (v : Int) else (v : Int) - 18446744073709551616 := by
  split
  · exact wr64 (by omega) (by omega)
  · simp only [IntKind.wrap]; simp [IntKind.bits, IntKind.signed]; omega
/-- What fits into 64 bits. -/
def fits (z : Int) : Bool := decide (-9223372036854775808 ≤ z) && decide (z ≤ 9223372036854775807)
theorem fits_len {z : Int} (h : 4 < len16 z) : fits z = false := by
  have h1 : ¬ z.natAbs < 18446744073709551616 := fun h' => by have := wh_len _ h'; exact absurd this (by show ¬ len16 z ≤ 4; omega)
  simp only [fits, Bool.and_eq_false_iff, decide_eq_false_iff_not]; omega
theorem len_fits {z : Int} (h : len16 z ≤ 4) : z.natAbs < 18446744073709551616 := by
  have := (len_le_iff two_le_L z.natAbs 4).1 h
  simpa using this
end An

/- Package whole: quotients, numbers of 64 bits. -/
namespace An.S
open Go Go.Proofs An
set_option maxHeartbeats 1000000
theorem fi82 : FnI Tryz.prog 82 := ⟨_, Tryz.func82, by kernel_rfl, rfl⟩
theorem fi90 : FnI Tryz.prog 90 := ⟨_, Tryz.func90, by kernel_rfl, rfl⟩
theorem fi178 : FnI Tryz.prog 178 := ⟨_, Tryz.func178, by kernel_rfl, rfl⟩
theorem fi226 : FnI Tryz.prog 226 := ⟨_, Tryz.func226, by kernel_rfl, rfl⟩
theorem ar123 : ArI Tryz.prog 123 122 4 1 false := ⟨by kernel_rfl, ti122⟩
theorem c_plusOne (a : Nat) (ha : (dig 4294967296 a).length ≤ 10000) : Ct Tryz.prog 182 [tN a, tWs [1]] (tN (a + 1)) := by
  have e : dig 4294967296 1 = [1] := by rw [dig_pos two_le_W (by decide), show (1 : Nat) / 4294967296 = 0 by decide, dig_zero]
  have := c_plus a 1 (by omega) (by rw [e]; decide)
  rw [tN, tN, e] at this; exact this
theorem c_DivMod (x y : Int) (hx : len16 x ≤ 1024) (hy : len16 y ≤ 1024) (hy0 : 0 < y) :
    Ct Tryz.prog 123 [tWh (wh x), tWh (wh y)] (tT [tWh (wh (x / y)), tWh (wh (x % y)), tI 0]) := by
  have hx32 := len32_le hx
  have hy32 := len32_le hy
  have hq32 : (dig 4294967296 (x.natAbs / y.natAbs)).length ≤ 1024 := Nat.le_trans (dig_len_mono two_le_W (Nat.div_le_self _ _)) hx32
  have hrl : x.natAbs % y.natAbs < y.natAbs := Nat.mod_lt _ (by omega)
  have hr32 : (dig 4294967296 (x.natAbs % y.natAbs)).length ≤ 1024 := Nat.le_trans (dig_len_mono two_le_W (Nat.le_of_lt hrl)) hy32
  have hs32 : (dig 4294967296 (y.natAbs - x.natAbs % y.natAbs)).length ≤ 1024 := Nat.le_trans (dig_len_mono two_le_W (Nat.sub_le _ _)) hy32
  have hq1 := len_add (k := 1024) (m := x.natAbs / y.natAbs) (n := 1) hq32 (Nat.le_trans len_one (by decide))
  have ey : (wh y).neg = false := decide_eq_false (by omega)
  have ex : (wh x).neg = decide (x < 0) := rfl
  refine Ct.intro Tryz.func123 rfl Tryz.ntmps123 rfl ?_
  intro w F
  refine C_seq ?_
  refine C_reg ?_
  refine RE (d_box (k := 2) ti48 rfl) ⟨rfl, trivial⟩ trivial ⟨rfl, trivial⟩ ?_
  refine RE (d_box (k := 3) ti48 rfl) ⟨rfl, trivial⟩ trivial ⟨rfl, trivial⟩ ?_
  refine RE (d_alloc (k := 4) (n := 2) (agg := true) zr48.1 zr48.2 rfl) trivial trivial ⟨rfl, trivial⟩ ?_
  refine RE (d_alloc (k := 5) (n := 2) (agg := true) zr48.1 zr48.2 rfl) trivial trivial ⟨rfl, trivial⟩ ?_
  refine R1 d_assign rfl ?_
  refine R_nil (by kernel_rfl) ?_
  refine K_then ?_
  refine C_seq ?_
  refine C_seq ?_
  refine C_reg ?_
  refine RE (d_load (0) ti48 rfl rfl) ⟨rfl, trivial⟩ ⟨rfl, trivial⟩ trivial ?_
  refine RE (d_load (0) ti48 rfl rfl) ⟨rfl, trivial⟩ ⟨rfl, trivial⟩ trivial ?_
  refine R2 (d_vals (n := 2) (f := tWh) [wh x, wh y] Tryz.underlying185 el48 zf48 rfl (fun _ => inferInstance) rfl rfl rfl) rfl rfl ?_
  refine R1 (d_call (c_WallValid2 x y hx hy) fi91 rfl) rfl ?_
  refine R1 d_not rfl ?_
  refine R_nil (by kernel_rfl) ?_
  refine K_then ?_
  refine C_bF rfl rfl ?_
  refine C_skip ?_
  refine K_then ?_
  refine C_seq ?_
  refine C_seq ?_
  refine C_reg ?_
  refine R1 (d_fieldO fo48_1 rfl) rfl ?_
  refine R_loadF (0) ti46 rfl rfl rfl (At.g 1 rfl rfl) rfl ?_
  refine R1 (d_len Tryz.underlying46) rfl ?_
  refine R2 d_eql rfl rfl ?_
  refine R_nil (by kernel_rfl) ?_
  refine K_then ?_
  refine C_bF rfl (decide_eq_false (by (intro h; have h2 : (wh y).l.length = 0 := (by omega); have h3 : y.natAbs = 0 := (dig_eq_nil two_le_L).1 (List.length_eq_zero_iff.1 h2); omega))) ?_
  refine C_skip ?_
  refine K_then ?_
  refine C_seq ?_
  refine C_reg ?_
  refine R1 (d_fieldO fo48_1 rfl) rfl ?_
  refine R_loadF (0) ti46 rfl rfl rfl (At.g 1 rfl rfl) rfl ?_
  refine R1 (d_call (c_packN (Int.natAbs y) (by show len16 y ≤ 1000000; omega)) fi93 rfl) rfl ?_
  refine R1 d_assign rfl ?_
  refine R_nil (by kernel_rfl) ?_
  refine K_then ?_
  refine C_seq ?_
  refine C_reg ?_
  refine R1 (d_fieldO fo48_1 rfl) rfl ?_
  refine R_loadF (0) ti46 rfl rfl rfl (At.g 1 rfl rfl) rfl ?_
  refine R1 (d_call (c_packN (Int.natAbs x) (by show len16 x ≤ 1000000; omega)) fi93 rfl) rfl ?_
  refine R1 d_move rfl ?_
  refine R2 (d_call (c_divide x.natAbs y.natAbs (by omega) (by omega) (by omega)) fi181 rfl) rfl rfl ?_
  refine R1 d_move rfl ?_
  refine R1 (d_extract rfl) rfl ?_
  refine R1 (d_extract rfl) rfl ?_
  refine R1 d_assign rfl ?_
  refine R1 d_assign rfl ?_
  refine R_nil (by kernel_rfl) ?_
  refine K_then ?_
  refine C_join (fun (fm : (Nat) × (Nat)) => (fun (Q : Nat) (R : Nat) => (sgn (!((wh x).neg == (wh y).neg)) Q = x / y ∧ sgn (wh y).neg R = x % y) ∧ (dig 4294967296 Q).length ≤ 1025 ∧ (dig 4294967296 R).length ≤ 1024) fm.1 fm.2) (fun (fm : (Nat) × (Nat)) => (fun (Q : Nat) (R : Nat) => upd (upd (upd (upd (upd (upd (fun _ => none) 2 (some (.own (.ptr 2 0)))) 3 (some (.own (.ptr 3 0)))) 4 (some (.own (.ptr 4 0)))) 5 (some (.own (.ptr 5 0)))) 8 (some (.val (tN Q)))) 9 (some (.val (tN R)))) fm.1 fm.2) (fun (fm : (Nat) × (Nat)) => (fun (Q : Nat) (R : Nat) => upd (upd (upd (upd (fun _ => none) 2 (some (⟨48, 2, true, [.val (tWh (wh x))]⟩))) 3 (some (⟨48, 2, true, [.val (tWh (wh y))]⟩))) 4 (some (⟨48, 2, true, [.val (tWh ⟨false, []⟩)]⟩))) 5 (some (⟨48, 2, true, [.val (tWh ⟨false, []⟩)]⟩))) fm.1 fm.2) (nm [2, 3, 4, 5]) ?_ ?_
  ·
    refine C_seq ?_
    refine C_reg ?_
    refine R1 (d_fieldO fo48_0 rfl) rfl ?_
    refine R_loadF (0) ti4 rfl rfl rfl (At.g 0 rfl rfl) rfl ?_
    refine R1 (d_fieldO fo48_0 rfl) rfl ?_
    refine R_loadF (0) ti4 rfl rfl rfl (At.g 0 rfl rfl) rfl ?_
    refine R2 (d_neqB Tryz.underlying4) rfl rfl ?_
    refine R1 d_move rfl ?_
    refine RGcase (t := 39) rfl (fun h140 => ?_) (fun h140 => ?_)
    ·
      have hxn : decide (x < 0) = true := by have h := h140; rw [ey, ex] at h; simpa using h
      refine RGon h140 rfl d_move rfl ⟨rfl, trivial⟩ trivial trivial ?_
      refine RGon h140 rfl (d_len Tryz.underlying133) rfl ⟨rfl, trivial⟩ trivial trivial ?_
      refine RGon h140 rfl d_gtr rfl ⟨rfl, rfl, trivial⟩ trivial trivial ?_
      refine R2 (d_pickT h140) rfl rfl ?_
      refine R_nil (by kernel_rfl) ?_
      refine K_then ?_
      refine C_if rfl (fun h140_2 => ?_) (fun h140_2 => ?_)
      ·
        have hr0 : x.natAbs % y.natAbs ≠ 0 := fun h => by rw [h, dig_zero] at h140_2; simp at h140_2
        refine C_seq ?_
        refine C_reg ?_
        refine R1 d_move rfl ?_
        refine R1 (d_nums (n := 1) [1] Tryz.underlying133 el186 zf186 rfl rfl rfl) rfl ?_
        refine R2 (d_call (c_plusOne _ (by omega)) fi182 rfl) rfl rfl ?_
        refine R1 d_assign rfl ?_
        refine R_nil (by kernel_rfl) ?_
        refine K_then ?_
        refine C_reg ?_
        refine R1 d_move rfl ?_
        refine R1 d_move rfl ?_
        refine R2 (d_call (c_minus y.natAbs (x.natAbs % y.natAbs) (by omega) (by omega)) fi183 rfl) rfl rfl ?_
        refine R1 d_assign rfl ?_
        refine R_nil (by kernel_rfl) ?_
        exact K_fam ((x.natAbs / y.natAbs + 1, y.natAbs - x.natAbs % y.natAbs)) (by dsimp only; exact ⟨dm_quo hy0 ⟨fun _ => ⟨rfl, rfl⟩, fun h => (h ⟨hxn, hr0⟩).elim⟩, hq1, hs32⟩) (Sub.cons rfl (Sub.cons rfl (Sub.cons rfl (Sub.cons rfl (Sub.cons rfl (Sub.cons rfl Sub.nil)))))) ((SubK.consI rfl ImpK.refl) ((SubK.consI rfl ImpK.refl) (SubK.cons rfl (SubK.cons rfl SubK.nil)))) (SupG.val (SupG.val (SupG.own rfl (SupG.own rfl (SupG.own rfl (SupG.own rfl SupG.nil)))))) (SupH.cons rfl (supJL rfl) (SupH.cons rfl (supJL rfl) (SupH.cons rfl (supJL rfl) (SupH.cons rfl (supJL rfl) SupH.nil)))) (lkOk rfl)
      ·
        have hr0 : x.natAbs % y.natAbs = 0 := (dig_eq_nil two_le_W).1 (List.length_eq_zero_iff.1 (by omega))
        refine C_skip ?_
        exact K_fam ((x.natAbs / y.natAbs, x.natAbs % y.natAbs)) (by dsimp only; exact ⟨dm_quo hy0 ⟨fun h => (h.2 hr0).elim, fun _ => ⟨rfl, rfl⟩⟩, by omega, hr32⟩) (Sub.cons rfl (Sub.cons rfl (Sub.cons rfl (Sub.cons rfl (Sub.cons rfl (Sub.cons rfl Sub.nil)))))) ((SubK.consI rfl ImpK.refl) ((SubK.consI rfl ImpK.refl) (SubK.cons rfl (SubK.cons rfl SubK.nil)))) (SupG.val (SupG.val (SupG.own rfl (SupG.own rfl (SupG.own rfl (SupG.own rfl SupG.nil)))))) (SupH.cons rfl (supJL rfl) (SupH.cons rfl (supJL rfl) (SupH.cons rfl (supJL rfl) (SupH.cons rfl (supJL rfl) SupH.nil)))) (lkOk rfl)
    ·
      have hxn : ¬ decide (x < 0) = true := by have h := h140; rw [ey, ex] at h; simpa using h
      refine RGoff h140 rfl rfl ?_
      refine RGoff h140 rfl rfl ?_
      refine RGoff h140 rfl rfl ?_
      refine R2 (d_pickF h140) rfl rfl ?_
      refine R_nil (by kernel_rfl) ?_
      refine K_then ?_
      refine C_bF rfl rfl ?_
      refine C_skip ?_
      exact K_fam ((x.natAbs / y.natAbs, x.natAbs % y.natAbs)) (by dsimp only; exact ⟨dm_quo hy0 ⟨fun h => (hxn h.1).elim, fun _ => ⟨rfl, rfl⟩⟩, by omega, hr32⟩) (Sub.cons rfl (Sub.cons rfl (Sub.cons rfl (Sub.cons rfl (Sub.cons rfl (Sub.cons rfl Sub.nil)))))) ((SubK.consI rfl ImpK.refl) ((SubK.consI rfl ImpK.refl) (SubK.cons rfl (SubK.cons rfl SubK.nil)))) (SupG.val (SupG.val (SupG.own rfl (SupG.own rfl (SupG.own rfl (SupG.own rfl SupG.nil)))))) (SupH.cons rfl (supJL rfl) (SupH.cons rfl (supJL rfl) (SupH.cons rfl (supJL rfl) (SupH.cons rfl (supJL rfl) SupH.nil)))) (lkOk rfl)
  ·
    intro fm hj
    obtain ⟨Q, R⟩ := fm
    replace hj : (sgn (!((wh x).neg == (wh y).neg)) Q = x / y ∧ sgn (wh y).neg R = x % y) ∧ (dig 4294967296 Q).length ≤ 1025 ∧ (dig 4294967296 R).length ≤ 1024 := hj
    show wc _ _ _ _ (upd (upd (upd (upd (upd (upd (fun _ => none) 2 (some (.own (.ptr 2 0)))) 3 (some (.own (.ptr 3 0)))) 4 (some (.own (.ptr 4 0)))) 5 (some (.own (.ptr 5 0)))) 8 (some (.val (tN Q)))) 9 (some (.val (tN R)))) (upd (upd (upd (upd (fun _ => none) 2 (some (⟨48, 2, true, [.val (tWh (wh x))]⟩))) 3 (some (⟨48, 2, true, [.val (tWh (wh y))]⟩))) 4 (some (⟨48, 2, true, [.val (tWh ⟨false, []⟩)]⟩))) 5 (some (⟨48, 2, true, [.val (tWh ⟨false, []⟩)]⟩))) _
    obtain ⟨⟨hQ, hR⟩, hQl, hRl⟩ := hj
    refine C_seq ?_
    refine C_draw mixed ?_
    refine R1 (d_fieldO fo48_0 rfl) rfl ?_
    refine R_loadF (0) ti4 rfl rfl rfl (At.g 0 rfl rfl) rfl ?_
    refine R1 (d_fieldO fo48_0 rfl) rfl ?_
    refine R_loadF (0) ti4 rfl rfl rfl (At.g 0 rfl rfl) rfl ?_
    refine R2 (d_neqB Tryz.underlying4) rfl rfl ?_
    refine R1 d_move rfl ?_
    refine R2 (d_call (c_unpack (!((wh x).neg == (wh y).neg)) Q (by omega)) fi179 rfl) rfl rfl ?_
    refine R1 (d_fieldO fo48_0 rfl) rfl ?_
    refine R_loadF (0) ti4 rfl rfl rfl (At.g 0 rfl rfl) rfl ?_
    refine R1 d_move rfl ?_
    refine R2 (d_call (c_unpack (wh y).neg R (by omega)) fi179 rfl) rfl rfl ?_
    refine RE (d_store (es := 2) (agg := true) (0) ti48 rfl rfl rfl) ⟨rfl, rfl, trivial⟩ ⟨rfl, trivial⟩ trivial ?_
    refine RE (d_store (es := 2) (agg := true) (0) ti48 rfl rfl rfl) ⟨rfl, rfl, trivial⟩ ⟨rfl, trivial⟩ trivial ?_
    refine R1 d_assign rfl ?_
    refine R_end (by kernel_rfl) ?_
    refine K_then ?_
    refine C_ret ?_
    exact E_retN Plain.mk' (rs := [.cell 4 48, .cell 5 48, .tmp 6]) rfl rfl ⟨⟨_, _, _, _, _, rfl, rfl, ti48, (Le.of (by rw [hQ]))⟩, ⟨_, _, _, _, _, rfl, rfl, ti48, (Le.of (by rw [hR]))⟩, ⟨_, rfl, Le.refl⟩, trivial⟩
theorem rW_take0 {k : IntKind} {xs : List Nat} {n : Nat} : (rW k xs).take n = (xs.take n).map fun x : Nat => .val (tE (.int k (x : Int))) := by
  rw [rW, List.map_take]
theorem c_FromInt (n : Int) (h1 : -9223372036854775808 ≤ n) (h2 : n ≤ 9223372036854775807) :
    Ct Tryz.prog 51 [tI n] (tWh (wh n)) := by
  refine Ct.intro Tryz.func51 rfl Tryz.ntmps51 rfl ?_
  intro w F
  refine C_seq ?_
  refine C_reg ?_
  refine RE (d_alloc (k := 2) (n := 2) (agg := true) zr48.1 zr48.2 rfl) trivial trivial ⟨rfl, trivial⟩ ?_
  refine R_nil (by kernel_rfl) ?_
  refine K_then ?_
  refine C_seq ?_
  refine C_reg ?_
  refine R1 d_move rfl ?_
  refine R1 (d_convert Tryz.underlying121 (isS Tryz.underlying3) toU64) rfl ?_
  refine R1 d_assign rfl ?_
  refine R_nil (by kernel_rfl) ?_
  refine K_then ?_
  refine C_join (fun (v : Nat) => v = n.natAbs) (fun (v : Nat) => upd (upd (upd (fun _ => none) 0 (some (.val (tI n)))) 2 (some (.own (.ptr 2 0)))) 3 (some (.val (tE (.int .u64 ((v : Nat) : Int)))))) (fun (v : Nat) => upd (fun _ => none) 2 (some (⟨48, 2, true, [.val (tWh ⟨false, []⟩)]⟩))) (nm [2]) ?_ ?_
  ·
    refine C_seq ?_
    refine C_reg ?_
    refine R1 d_move rfl ?_
    refine R2 d_lss rfl rfl ?_
    refine R_nil (by kernel_rfl) ?_
    refine K_then ?_
    refine C_if rfl (fun h48 => ?_) (fun h48 => ?_)
    ·
      refine C_reg ?_
      refine R1 d_move rfl ?_
      refine R1 (d_neg (negU64 (by omega))) rfl ?_
      refine R1 d_assign rfl ?_
      refine R_nil (by kernel_rfl) ?_
      exact K_fam ((18446744073709551616 - (n % 18446744073709551616).toNat) % 18446744073709551616) (by omega) (Sub.int rfl (by first | omega | rfl | (dsimp only; omega)) (Sub.cons rfl (Sub.int rfl (by first | omega | rfl | (dsimp only; omega)) Sub.nil))) ((SubK.consI rfl ImpK.refl) SubK.nil) (SupG.val (SupG.own rfl (SupG.val SupG.nil))) (SupH.cons rfl (supJL rfl) SupH.nil) (lkOk rfl)
    ·
      refine C_skip ?_
      exact K_fam ((n % 18446744073709551616).toNat) (by omega) (Sub.int rfl (by first | omega | rfl | (dsimp only; omega)) (Sub.cons rfl (Sub.int rfl (by first | omega | rfl | (dsimp only; omega)) Sub.nil))) ((SubK.consI rfl ImpK.refl) SubK.nil) (SupG.val (SupG.own rfl (SupG.val SupG.nil))) (SupH.cons rfl (supJL rfl) SupH.nil) (lkOk rfl)
  ·
    intro v hv
    refine C_seq ?_
    refine C_reg ?_
    refine RE (d_allocA (k := 4) (len := 4) (u := .int .u16 0) Tryz.underlying123 (z := .agg #[.int .u16 0, .int .u16 0, .int .u16 0, .int .u16 0]) (by kernel_rfl) rfl rfl) trivial trivial ⟨rfl, trivial⟩ ?_
    refine R_nil (by kernel_rfl) ?_
    refine K_then ?_
    refine C_seq ?_
    refine C_reg ?_
    refine R1 d_assign rfl ?_
    refine R_nil (by kernel_rfl) ?_
    refine K_then ?_
    refine C_seq ?_
    refine C_seq ?_
    refine C_reg ?_
    refine R1 d_move rfl ?_
    refine R_nil (by kernel_rfl) ?_
    refine K_then ?_
    refine C_block ?_
    refine C_loop (fun (fm : (Nat) × (List Nat) × (Nat)) => (fun (i : Nat) (ls : List Nat) (c : Nat) => i ≤ 4 ∧ ls.length = 4 ∧ ls.take i = dgs 65536 i v ∧ c = (dig 65536 (v % 65536 ^ i)).length) fm.1 fm.2.1 fm.2.2) (fun (fm : (Nat) × (List Nat) × (Nat)) => (fun (i : Nat) (ls : List Nat) (c : Nat) => upd (upd (upd (upd (upd (upd (fun _ => none) 0 (some (.val (tI n)))) 2 (some (.own (.ptr 2 0)))) 3 (some (.val (tE (.int .u64 ((v : Nat) : Int)))))) 4 (some (.own (.ptr 4 0)))) 5 (some (.val (tI c)))) 13 (some (.val (tI i)))) fm.1 fm.2.1 fm.2.2) (fun (fm : (Nat) × (List Nat) × (Nat)) => (fun (i : Nat) (ls : List Nat) (c : Nat) => upd (upd (fun _ => none) 2 (some (⟨48, 2, true, [.val (tWh ⟨false, []⟩)]⟩))) 4 (some (⟨123, 1, false, rW .u16 ls⟩))) fm.1 fm.2.1 fm.2.2) (nm [2, 4]) (fun (fm : (Nat) × (List Nat) × (Nat)) => (fun (i : Nat) (ls : List Nat) (c : Nat) => 4 - i) fm.1 fm.2.1 fm.2.2) ((0, [0, 0, 0, 0], 0)) (by dsimp only; exact ⟨by omega, rfl, rfl, by rw [Nat.pow_zero, Nat.mod_one, dig_zero]; rfl⟩) (Sub.int rfl (by first | omega | rfl | (dsimp only; omega)) (Sub.int rfl (by first | omega | rfl | (dsimp only; omega)) (Sub.cons rfl (Sub.int rfl (by first | omega | rfl | (dsimp only; omega)) (Sub.cons rfl (Sub.int rfl (by first | omega | rfl | (dsimp only; omega)) Sub.nil)))))) ((SubK.consI rfl ImpK.refl) ((SubK.consI rfl ImpK.refl) SubK.nil)) (SupG.val (SupG.val (SupG.own rfl (SupG.val (SupG.own rfl (SupG.val SupG.nil)))))) (SupH.cons rfl (supJ sup_rW) (SupH.cons rfl (supJL rfl) SupH.nil)) (lkOk rfl) ?_
    intro fm hI
    obtain ⟨i, ls, c⟩ := fm
    replace hI : i ≤ 4 ∧ ls.length = 4 ∧ ls.take i = dgs 65536 i v ∧ c = (dig 65536 (v % 65536 ^ i)).length := hI
    show wc _ _ _ _ (upd (upd (upd (upd (upd (upd (fun _ => none) 0 (some (.val (tI n)))) 2 (some (.own (.ptr 2 0)))) 3 (some (.val (tE (.int .u64 ((v : Nat) : Int)))))) 4 (some (.own (.ptr 4 0)))) 5 (some (.val (tI c)))) 13 (some (.val (tI i)))) (upd (upd (fun _ => none) 2 (some (⟨48, 2, true, [.val (tWh ⟨false, []⟩)]⟩))) 4 (some (⟨123, 1, false, rW .u16 ls⟩))) _
    obtain ⟨hi, hl, ht, hc⟩ := hI
    obtain ⟨k1, k2⟩ := count_step hc
    have hcl : c ≤ i := by rw [hc]; exact (len_le_iff two_le_L _ _).2 (Nat.mod_lt _ (Nat.pow_pos (by decide)))
    refine C_seq ?_
    refine C_reg ?_
    refine R2 d_lss rfl rfl ?_
    refine R_nil (by kernel_rfl) ?_
    refine K_then ?_
    refine C_seq ?_
    refine C_if rfl (fun h53 => ?_) (fun h53 => ?_)
    ·
      refine C_skip ?_
      refine K_then ?_
      refine C_seq ?_
      refine C_block ?_
      refine C_seq ?_
      refine C_reg ?_
      refine R1 d_move rfl ?_
      refine R1 d_assign rfl ?_
      refine R_nil (by kernel_rfl) ?_
      refine K_then ?_
      refine C_seq ?_
      refine C_reg ?_
      refine R1 d_move rfl ?_
      refine R1 d_move rfl ?_
      refine R1 d_move rfl ?_
      refine R2 (d_mul (by first | exact wr64 (by omega) (by omega))) rfl rfl ?_
      refine R2 (d_shr (by omega) (shrN (s := 16 * i) (by omega) (by show 16 * i ≤ 64; omega))) rfl rfl ?_
      refine R1 (d_convert Tryz.underlying122 (isS Tryz.underlying121) cut16) rfl ?_
      refine R2 (d_indexA ar123 (by omega) (by omega) rfl) rfl rfl ?_
      refine RE (d_store (i) ti122 (rW_lt (by omega)) (by omega) (rW_set (m := _) rfl)) ⟨rfl, rfl, trivial⟩ ⟨rfl, trivial⟩ trivial ?_
      refine R_nil (by kernel_rfl) ?_
      refine K_then ?_
      refine C_seq ?_
      refine C_reg ?_
      refine R1 d_move rfl ?_
      refine R2 (d_indexA ar123 (by omega) (by omega) rfl) rfl rfl ?_
      refine RE (d_load (i) ti122 (rW_get (by rw [List.length_set]; omega)) (by omega)) ⟨rfl, trivial⟩ ⟨rfl, trivial⟩ trivial ?_
      refine R2 d_neq rfl rfl ?_
      refine R_nil (by kernel_rfl) ?_
      refine K_then ?_
      refine C_if rfl (fun h55 => ?_) (fun h55 => ?_)
      ·
        have hd : (ls.set i (v / 2 ^ (16 * i) % 65536)).getD i 0 = v / 65536 ^ i % 65536 := by rw [getD_set_self (by omega), shr16i]
        refine C_reg ?_
        refine R1 d_move rfl ?_
        refine R2 (d_add (by first | exact wr64 (by omega) (by omega))) rfl rfl ?_
        refine R1 d_assign rfl ?_
        refine R_nil (by kernel_rfl) ?_
        refine K_norB ?_
        refine K_then ?_
        refine C_reg ?_
        refine R2 (d_add (by first | exact wr64 (by omega) (by omega))) rfl rfl ?_
        refine R1 d_move rfl ?_
        refine R_nil (by kernel_rfl) ?_
        rw [hd] at h55
        exact K_fam ((i + 1, ls.set i (v / 2 ^ (16 * i) % 65536), i + 1)) ⟨(by dsimp only; exact ⟨by omega, by simpa using hl, by rw [take_set_succ (by omega), ht, dgs_succ, shr16i], k1 (by omega)⟩), (by dsimp only; omega)⟩ (Sub.int rfl (by first | omega | rfl | (dsimp only; omega)) (Sub.int rfl (by first | omega | rfl | (dsimp only; omega)) (Sub.cons rfl (Sub.int rfl (by first | omega | rfl | (dsimp only; omega)) (Sub.cons rfl (Sub.int rfl (by first | omega | rfl | (dsimp only; omega)) Sub.nil)))))) ((SubK.consI rfl ImpK.refl) ((SubK.consI rfl ImpK.refl) SubK.nil)) (SupG.val (SupG.val (SupG.own rfl (SupG.val (SupG.own rfl (SupG.val SupG.nil)))))) (SupH.cons rfl (supJ sup_rW) (SupH.cons rfl (supJL rfl) SupH.nil)) (lkOk rfl)
      ·
        have hd : (ls.set i (v / 2 ^ (16 * i) % 65536)).getD i 0 = v / 65536 ^ i % 65536 := by rw [getD_set_self (by omega), shr16i]
        refine C_skip ?_
        refine K_norB ?_
        refine K_then ?_
        refine C_reg ?_
        refine R2 (d_add (by first | exact wr64 (by omega) (by omega))) rfl rfl ?_
        refine R1 d_move rfl ?_
        refine R_nil (by kernel_rfl) ?_
        rw [hd] at h55
        exact K_fam ((i + 1, ls.set i (v / 2 ^ (16 * i) % 65536), c)) ⟨(by dsimp only; exact ⟨by omega, by simpa using hl, by rw [take_set_succ (by omega), ht, dgs_succ, shr16i], k2 (by omega)⟩), (by dsimp only; omega)⟩ (Sub.int rfl (by first | omega | rfl | (dsimp only; omega)) (Sub.int rfl (by first | omega | rfl | (dsimp only; omega)) (Sub.cons rfl (Sub.int rfl (by first | omega | rfl | (dsimp only; omega)) (Sub.cons rfl (Sub.int rfl (by first | omega | rfl | (dsimp only; omega)) Sub.nil)))))) ((SubK.consI rfl ImpK.refl) ((SubK.consI rfl ImpK.refl) SubK.nil)) (SupG.val (SupG.val (SupG.own rfl (SupG.val (SupG.own rfl (SupG.val SupG.nil)))))) (SupH.cons rfl (supJ sup_rW) (SupH.cons rfl (supJL rfl) SupH.nil)) (lkOk rfl)
    ·
      refine C_exit ?_
      refine K_exT ?_
      refine K_exT ?_
      refine K_exB ?_
      refine K_then ?_
      refine C_seq ?_
      refine C_reg ?_
      refine R1 d_move rfl ?_
      refine R2 d_lss rfl rfl ?_
      refine R1 d_move rfl ?_
      refine RE (d_sliceAS (f := fun n : Nat => tE (.int .u16 n)) (ys := ls.take c) (u := c) ar123 (fun _ h => h) (fun h => by cases h) (by omega) rW_take0 (by rw [rW_len]; exact hl) (by rw [List.length_take]; omega) rfl) ⟨rfl, rfl, trivial⟩ ⟨rfl, trivial⟩ trivial ?_
      refine R1 (d_call (c_clone16V (ls.take c) (by rw [List.length_take]; omega)) fi82 rfl) rfl ?_
      refine R2 (d_build (r := tS [⟨1, false, tB (decide (n < 0))⟩, ⟨1, false, tLm (ls.take c)⟩]) (ts := [(0, tB (decide (n < 0))), (1, tLm (ls.take c))]) bu48 zr48.2 ⟨_, rfl⟩ rfl ⟨_, _, _, _, rfl, Up.f (fs := [⟨1, false, (tE (.bool false))⟩, ⟨1, false, (tLm [])⟩]) (f := ⟨1, false, (tE (.bool false))⟩) (fs' := [⟨1, false, tB (decide (n < 0))⟩, ⟨1, false, (tLm [])⟩]) 0 rfl rfl rfl, inferInstance, ⟨_, _, _, _, rfl, Up.f (fs := [⟨1, false, tB (decide (n < 0))⟩, ⟨1, false, (tLm [])⟩]) (f := ⟨1, false, (tLm [])⟩) (fs' := [⟨1, false, tB (decide (n < 0))⟩, ⟨1, false, tLm (ls.take c)⟩]) 1 rfl rfl rfl, inferInstance, Le.refl⟩⟩) rfl rfl ?_
      refine RE (d_store (es := 2) (agg := true) (0) ti48 rfl rfl rfl) ⟨rfl, rfl, trivial⟩ ⟨rfl, trivial⟩ trivial ?_
      refine R_nil (by kernel_rfl) ?_
      refine K_then ?_
      refine C_ret ?_
      have hi4 : i = 4 := by omega
      subst hi4
      have hfin : ls.take c = dig 65536 n.natAbs := by
        rw [← hl, List.take_length, hl] at ht
        rw [ht, take_dgs (by omega), ← hv]
        rw [Nat.mod_eq_of_lt (by show v < 18446744073709551616; omega)] at hc
        rw [hc, dig_eq_dgs two_le_L]
      exact E_retC Plain.mk' rfl ⟨_, _, _, _, _, rfl, rfl, ti48, (Le.of (by rw [hfin]; rfl))⟩
theorem c_Equal16 (xs ys : List Nat) :
    Ct Tryz.prog 90 [tLm xs, tLm ys] (tB (decide (xs = ys))) := by
  refine Ct.intro Tryz.func90 rfl Tryz.ntmps90 rfl ?_
  intro w F
  refine C_len (s := 0) rfl (fun hl0 => ?_)
  refine C_seq ?_
  refine C_reg ?_
  refine R1 d_assign rfl ?_
  refine R_nil (by kernel_rfl) ?_
  refine K_then ?_
  refine C_seq ?_
  refine C_seq ?_
  refine C_reg ?_
  refine R1 d_move rfl ?_
  refine R1 (d_len Tryz.underlying46) rfl ?_
  refine R1 d_move rfl ?_
  refine R1 (d_len Tryz.underlying46) rfl ?_
  refine R2 d_neq rfl rfl ?_
  refine R_nil (by kernel_rfl) ?_
  refine K_then ?_
  refine C_if rfl (fun h21 => ?_) (fun h21 => ?_)
  ·
    refine C_seq ?_
    refine C_reg ?_
    refine R1 d_assign rfl ?_
    refine R_nil (by kernel_rfl) ?_
    refine K_then ?_
    refine C_ret ?_
    refine K_retT ?_
    exact E_ret1 Plain.mk' rfl rfl (Le.bool (decide_eq_false (fun h => by rw [h] at h21; omega)).symm)
  ·
    have hll : xs.length = ys.length := by omega
    refine C_skip ?_
    refine K_then ?_
    refine C_seq ?_
    refine C_seq ?_
    refine C_reg ?_
    refine R1 d_move rfl ?_
    refine R1 (d_len Tryz.underlying46) rfl ?_
    refine R1 d_move rfl ?_
    refine R_nil (by kernel_rfl) ?_
    refine K_then ?_
    refine C_block ?_
    refine C_loop (fun (i : Nat) => i ≤ xs.length ∧ xs.take i = ys.take i) (fun (i : Nat) => upd (upd (upd (upd (fun _ => none) 0 (some (.val (tLm xs)))) 1 (some (.val (tLm ys)))) 12 (some (.val (tI xs.length)))) 13 (some (.val (tI i)))) (fun (i : Nat) => fun _ => none) (nm []) (fun (i : Nat) => xs.length - i) (0) ⟨Nat.zero_le _, rfl⟩ (Sub.int rfl (by first | omega | rfl | (dsimp only; omega)) (Sub.int rfl (by first | omega | rfl | (dsimp only; omega)) (Sub.cons rfl (Sub.cons rfl Sub.nil)))) SubK.nil (SupG.val (SupG.val (SupG.val (SupG.val SupG.nil)))) SupH.nil (lkOk rfl) ?_
    intro i hI
    obtain ⟨hi, ht⟩ := hI
    refine C_seq ?_
    refine C_reg ?_
    refine R2 d_lss rfl rfl ?_
    refine R_nil (by kernel_rfl) ?_
    refine K_then ?_
    refine C_seq ?_
    refine C_if rfl (fun h24 => ?_) (fun h24 => ?_)
    ·
      refine C_skip ?_
      refine K_then ?_
      refine C_seq ?_
      refine C_block ?_
      refine C_seq ?_
      refine C_reg ?_
      refine R1 d_move rfl ?_
      refine R1 d_assign rfl ?_
      refine R_nil (by kernel_rfl) ?_
      refine K_then ?_
      refine C_seq ?_
      refine C_draw mixed ?_
      refine R1 d_move rfl ?_
      refine R1 d_move rfl ?_
      refine R2 (d_indexP sl46 (i) (by omega) (gN (by omega))) rfl rfl ?_
      refine R1 (d_loadP ti122) rfl ?_
      refine R1 d_move rfl ?_
      refine R1 d_move rfl ?_
      refine R2 (d_indexP sl46 (i) (by omega) (gN (by omega))) rfl rfl ?_
      refine R1 (d_loadP ti122) rfl ?_
      refine R2 d_neq rfl rfl ?_
      refine R_end (by kernel_rfl) ?_
      refine K_then ?_
      refine C_if rfl (fun h25 => ?_) (fun h25 => ?_)
      ·
        refine C_seq ?_
        refine C_reg ?_
        refine R1 d_assign rfl ?_
        refine R_nil (by kernel_rfl) ?_
        refine K_then ?_
        refine C_ret ?_
        refine K_retB ?_
        refine K_retT ?_
        refine K_retT ?_
        refine K_retB ?_
        refine K_retT ?_
        exact E_ret1 Plain.mk' rfl rfl (Le.bool (decide_eq_false (fun h => by rw [h] at h25; omega)).symm)
      ·
        refine C_skip ?_
        refine K_norB ?_
        refine K_then ?_
        refine C_reg ?_
        refine R2 (d_add (by first | exact wr64 (by omega) (by omega))) rfl rfl ?_
        refine R1 d_move rfl ?_
        refine R_nil (by kernel_rfl) ?_
        exact K_fam (i + 1) ⟨⟨by omega, by rw [take_succ_getD xs i (by omega), take_succ_getD ys i (by omega), ht, show xs.getD i 0 = ys.getD i 0 by omega]⟩, (by omega)⟩ (Sub.int rfl (by first | omega | rfl | (dsimp only; omega)) (Sub.int rfl (by first | omega | rfl | (dsimp only; omega)) (Sub.cons rfl (Sub.cons rfl Sub.nil)))) SubK.nil (SupG.val (SupG.val (SupG.val (SupG.val SupG.nil)))) SupH.nil (lkOk rfl)
    ·
      refine C_exit ?_
      refine K_exT ?_
      refine K_exT ?_
      refine K_exB ?_
      refine K_then ?_
      refine C_seq ?_
      refine C_reg ?_
      refine R1 d_assign rfl ?_
      refine R_nil (by kernel_rfl) ?_
      refine K_then ?_
      refine C_ret ?_
      exact E_ret1 Plain.mk' rfl rfl (Le.bool (decide_eq_true (by rw [show i = xs.length by omega, List.take_length, hll, List.take_length] at ht; exact ht)).symm)
theorem c_WSame (x y : Wh) :
    Ct Tryz.prog 57 [tWh x, tWh y] (tB (decide (x = y))) := by
  refine Ct.intro Tryz.func57 rfl Tryz.ntmps57 rfl ?_
  intro w F
  refine C_seq ?_
  refine C_reg ?_
  refine RE (d_box (k := 2) ti48 rfl) ⟨rfl, trivial⟩ trivial ⟨rfl, trivial⟩ ?_
  refine RE (d_box (k := 3) ti48 rfl) ⟨rfl, trivial⟩ trivial ⟨rfl, trivial⟩ ?_
  refine R1 d_assign rfl ?_
  refine R_nil (by kernel_rfl) ?_
  refine K_then ?_
  refine C_seq ?_
  refine C_reg ?_
  refine R1 (d_fieldO fo48_0 rfl) rfl ?_
  refine R_loadF (0) ti4 rfl rfl rfl (At.g 0 rfl rfl) rfl ?_
  refine R1 (d_fieldO fo48_0 rfl) rfl ?_
  refine R_loadF (0) ti4 rfl rfl rfl (At.g 0 rfl rfl) rfl ?_
  refine R2 (d_eqlB Tryz.underlying4) rfl rfl ?_
  refine R1 d_move rfl ?_
  refine RGcase (t := 10) rfl (fun h42 => ?_) (fun h42 => ?_)
  ·
    have hn : x.neg = y.neg := eq_of_beq h42
    refine RGon h42 rfl (d_fieldO fo48_1 rfl) rfl ⟨rfl, trivial⟩ trivial trivial ?_
    refine RG_loadF h42 rfl rfl (0) ti46 rfl rfl rfl (At.g 1 rfl rfl) rfl ?_
    refine RGon h42 rfl (d_fieldO fo48_1 rfl) rfl ⟨rfl, trivial⟩ trivial trivial ?_
    refine RG_loadF h42 rfl rfl (0) ti46 rfl rfl rfl (At.g 1 rfl rfl) rfl ?_
    refine RGon h42 rfl (d_call (c_Equal16 _ _) fi90 rfl) rfl ⟨rfl, rfl, trivial⟩ trivial trivial ?_
    refine R2 (d_pickT h42) rfl rfl ?_
    refine R1 d_assign rfl ?_
    refine R_nil (by kernel_rfl) ?_
    refine K_then ?_
    refine C_ret ?_
    exact E_ret1 Plain.mk' rfl rfl (Le.bool (by obtain ⟨a, b⟩ := x; obtain ⟨c, d⟩ := y; simp only at hn; subst hn; simp))
  ·
    have hn : x.neg ≠ y.neg := fun h => by rw [h] at h42; simp at h42
    refine RGoff h42 rfl rfl ?_
    refine RGoff h42 rfl rfl ?_
    refine RGoff h42 rfl rfl ?_
    refine RGoff h42 rfl rfl ?_
    refine RGoff h42 rfl rfl ?_
    refine R2 (d_pickF h42) rfl rfl ?_
    refine R1 d_assign rfl ?_
    refine R_nil (by kernel_rfl) ?_
    refine K_then ?_
    refine C_ret ?_
    exact E_ret1 Plain.mk' rfl rfl (Le.bool (decide_eq_false (fun h => hn (by rw [h]))).symm)
theorem c_WInt (z : Int) (hz : len16 z ≤ 1024) :
    Ct Tryz.prog 118 [tWh (wh z)] (tT [tI (if fits z then z else 0), tI (if fits z then 0 else 3)]) := by
  have hzl : (wh z).l.length ≤ 1024 := hz
  have hD : Dig 65536 (wh z).l := dig_Dig two_le_L _
  refine Ct.intro Tryz.func118 rfl Tryz.ntmps118 rfl ?_
  intro w F
  refine C_seq ?_
  refine C_reg ?_
  refine RE (d_box (k := 1) ti48 rfl) ⟨rfl, trivial⟩ trivial ⟨rfl, trivial⟩ ?_
  refine R1 d_assign rfl ?_
  refine R1 d_assign rfl ?_
  refine R_nil (by kernel_rfl) ?_
  refine K_then ?_
  refine C_seq ?_
  refine C_seq ?_
  refine C_reg ?_
  refine RE (d_load (0) ti48 rfl rfl) ⟨rfl, trivial⟩ ⟨rfl, trivial⟩ trivial ?_
  refine R1 (d_call (c_WValid _) fi119 rfl) rfl ?_
  refine R1 d_not rfl ?_
  refine R_nil (by kernel_rfl) ?_
  refine K_then ?_
  refine C_bF rfl (by (rw [valid_wh hz]; rfl)) ?_
  refine C_skip ?_
  refine K_then ?_
  refine C_seq ?_
  refine C_seq ?_
  refine C_reg ?_
  refine R1 (d_fieldO fo48_1 rfl) rfl ?_
  refine R_loadF (0) ti46 rfl rfl rfl (At.g 1 rfl rfl) rfl ?_
  refine R1 (d_len Tryz.underlying46) rfl ?_
  refine R2 d_gtr rfl rfl ?_
  refine R_nil (by kernel_rfl) ?_
  refine K_then ?_
  refine C_if rfl (fun h67 => ?_) (fun h67 => ?_)
  ·
    have hf : fits z = false := fits_len (by show 4 < (wh z).l.length; omega)
    refine C_seq ?_
    refine C_reg ?_
    refine R1 d_assign rfl ?_
    refine R1 d_assign rfl ?_
    refine R_nil (by kernel_rfl) ?_
    refine K_then ?_
    refine C_ret ?_
    refine K_retT ?_
    exact E_ret2 Plain.mk' rfl rfl rfl (Le.int (by rw [hf]; rfl)) (Le.int (by rw [hf]; rfl))
  ·
    have hlt : z.natAbs < 18446744073709551616 := len_fits (by show (wh z).l.length ≤ 4; omega)
    have hval : val 65536 ((wh z).l.drop ((wh z).l.length - (wh z).l.length)) = z.natAbs := by rw [Nat.sub_self, List.drop_zero]; exact val_dig two_le_L _
    refine C_skip ?_
    refine K_then ?_
    refine C_seq ?_
    refine C_reg ?_
    refine RE (d_alloc (k := 4) (n := 1) (agg := false) zr121.1 zr121.2 rfl) trivial trivial ⟨rfl, trivial⟩ ?_
    refine RE (d_store (es := 1) (agg := false) (0) ti121 rfl rfl rfl) ⟨rfl, rfl, trivial⟩ ⟨rfl, trivial⟩ trivial ?_
    refine R_nil (by kernel_rfl) ?_
    refine K_then ?_
    refine C_seq ?_
    refine C_seq ?_
    refine C_reg ?_
    refine R1 (d_fieldO fo48_1 rfl) rfl ?_
    refine R_loadF (0) ti46 rfl rfl rfl (At.g 1 rfl rfl) rfl ?_
    refine RE (d_callGX (fun _ => 15) (c_down16 _) fi178 rfl (krN (ρ := fun _ => 15)) (krC (ρ := fun _ => 15) (k := 1) rfl (krN (ρ := fun _ => 15))) ⟨⟨rfl, (SupX.lit rfl)⟩, trivial⟩ rfl) ⟨rfl, trivial⟩ trivial ⟨rfl, trivial⟩ ?_
    refine R_nil (by kernel_rfl) ?_
    refine K_then ?_
    refine C_block ?_
    refine C_range (caps := [.ptr 1 0]) (κ := Empty) (fun j => cond (Nat.beq j 1) 15 (j)) rfl (fun _ h => h) trivial (i_down16 (wh z).l (by omega)) fi226 rfl ⟨rfl, trivial⟩ rfl rfl (fun _ _ => rfl) (upd (upd (fun _ => none) 1 (some (.own (.ptr 1 0)))) 4 (some (.own (.ptr 4 0)))) [1, 4] [1, 4] (Sub.cons rfl (Sub.cons rfl Sub.nil)) (SupG.own rfl (SupG.own rfl SupG.nil)) rfl (lkOk rfl) (fun (k : Nat) (_ : Unit) => True) (fun (k : Nat) (_ : Unit) => upd (upd (fun _ => none) 1 (some (⟨48, 2, true, [.val (tWh (wh z))]⟩))) 4 (some (⟨121, 1, false, [.val (tE (.int .u64 ((val 65536 ((wh z).l.drop ((wh z).l.length - k)) : Nat) : Int)))]⟩))) (fun k x => (SupH.cons rfl (supJL rfl) (SupH.cons rfl (supJL rfl) SupH.nil))) (fun k x y hy => by simp at hy; subst hy; rfl) (fun _ _ => False) (fun i => i.elim) (fun _ _ h => h.elim) (()) trivial ((SubK.consI rfl (ImpK.one (Imp.int (by rw [Nat.sub_zero, List.drop_length]; rfl)))) (SubK.cons rfl SubK.nil)) ?_ ?_ ?_
    ·
      intro D lp o1 o2 O W lη lb V0 k x hk hI
      have hv := val_lt (hD.drop ((wh z).l.length - k))
      rw [List.length_drop, show (wh z).l.length - ((wh z).l.length - k) = k by omega] at hv
      have hk1 : 65536 ^ k ≤ 65536 ^ 3 := Nat.pow_le_pow_right (by decide) (by omega)
      have hw := hD.getD (by decide) ((wh z).l.length - 1 - k)
      have hst := val_drop_succ 65536 (wh z).l ((wh z).l.length - 1 - k) (by omega)
      rw [show (wh z).l.length - 1 - k + 1 = (wh z).l.length - k by omega, Nat.mul_comm] at hst
      have hv48 : val 65536 ((wh z).l.drop ((wh z).l.length - k)) < 281474976710656 := by omega
      apply rnd_mk
      ·
        refine C_reg ?_
        refine R1 d_assign rfl ?_
        refine R_nil (by kernel_rfl) ?_
        exact K_thenF fun _ _ h => h
      ·
        refine C_block ?_
        refine C_reg ?_
        refine RE (d_load (0) ti121 rfl rfl) ⟨rfl, trivial⟩ ⟨rfl, trivial⟩ trivial ?_
        refine R2 (d_shl (by decide) (shlN64 (s := 16) rfl (by decide) (by omega))) rfl rfl ?_
        refine R1 d_move rfl ?_
        refine R1 (d_convert Tryz.underlying121 (isS Tryz.underlying122) (by first | exact wu64 (by omega) (by omega) | exact mu64)) rfl ?_
        refine R2 (d_or (or_sum' _ _ 16 rfl rfl hw (wu64 (by omega) (by omega)) (by show _ < 18446744073709551616; omega))) rfl rfl ?_
        refine RE (d_store (es := 1) (agg := false) (0) ti121 rfl rfl rfl) ⟨rfl, rfl, trivial⟩ ⟨rfl, trivial⟩ trivial ?_
        refine R_nil (by kernel_rfl) ?_
        refine K_norB ?_
        exact K_rnd (()) trivial ((SubK.consI rfl (ImpK.one (Imp.int (by rw [show (wh z).l.length - (k + 1) = (wh z).l.length - 1 - k by omega, hst])))) (SubK.cons rfl SubK.nil)) (SupH.cons rfl (supJL rfl) (SupH.cons rfl (supJL rfl) SupH.nil)) (lkOk rfl)
    ·
      intro D hD x hI
      refine K_norB ?_
      refine K_then ?_
      refine C_seq ?_
      refine C_seq ?_
      refine C_key (k := 4) (e' := ⟨121, 1, false, [.val (tE (.int .u64 ((z.natAbs : Nat) : Int)))]⟩) rfl (by rw [hval]) ?_
      refine C_reg ?_
      refine R1 (d_fieldO fo48_0 rfl) rfl ?_
      refine R_loadF (0) ti4 rfl rfl rfl (At.g 0 rfl rfl) rfl ?_
      refine R_nil (by kernel_rfl) ?_
      refine K_then ?_
      refine C_cond rfl (fun h74 => ?_) (fun h74 => ?_)
      ·
        have hz0 : z < 0 := of_decide_eq_true h74
        refine C_seq ?_
        refine C_seq ?_
        refine C_reg ?_
        refine RE (d_load (0) ti121 rfl rfl) ⟨rfl, trivial⟩ ⟨rfl, trivial⟩ trivial ?_
        refine R2 d_gtr rfl rfl ?_
        refine R_nil (by kernel_rfl) ?_
        refine K_then ?_
        refine C_if rfl (fun h75 => ?_) (fun h75 => ?_)
        ·
          have hf : fits z = false := by simp only [fits, Bool.and_eq_false_iff, decide_eq_false_iff_not]; omega
          refine C_seq ?_
          refine C_reg ?_
          refine R1 d_assign rfl ?_
          refine R1 d_assign rfl ?_
          refine R_nil (by kernel_rfl) ?_
          refine K_then ?_
          refine C_ret ?_
          refine K_retT ?_
          refine K_retT ?_
          exact E_ret2 (Plain.loop Plain.mk' hD) rfl rfl rfl (Le.int (by rw [hf]; rfl)) (Le.int (by rw [hf]; rfl))
        ·
          have hf : fits z = true := by simp only [fits, Bool.and_eq_true, decide_eq_true_eq]; omega
          refine C_skip ?_
          refine K_then ?_
          refine C_seq ?_
          refine C_reg ?_
          refine RE (d_load (0) ti121 rfl rfl) ⟨rfl, trivial⟩ ⟨rfl, trivial⟩ trivial ?_
          refine R1 (d_neg (negU64 (by omega))) rfl ?_
          refine R1 (d_convert Tryz.underlying3 (isS Tryz.underlying121) (toI64 (Nat.mod_lt _ (by decide)))) rfl ?_
          refine R1 d_assign rfl ?_
          refine R1 d_assign rfl ?_
          refine R_nil (by kernel_rfl) ?_
          refine K_then ?_
          refine C_ret ?_
          refine K_retT ?_
          exact E_ret2 (Plain.loop Plain.mk' hD) rfl rfl rfl (Le.int (by rw [hf]; simp only [↓reduceIte]; split <;> omega)) (Le.int (by rw [hf]; rfl))
      ·
        have hz0 : ¬ z < 0 := of_decide_eq_false h74
        refine C_skip ?_
        refine K_then ?_
        refine C_seq ?_
        refine C_seq ?_
        refine C_reg ?_
        refine RE (d_load (0) ti121 rfl rfl) ⟨rfl, trivial⟩ ⟨rfl, trivial⟩ trivial ?_
        refine R2 d_geq rfl rfl ?_
        refine R_nil (by kernel_rfl) ?_
        refine K_then ?_
        refine C_if rfl (fun h80 => ?_) (fun h80 => ?_)
        ·
          have hf : fits z = false := by simp only [fits, Bool.and_eq_false_iff, decide_eq_false_iff_not]; omega
          refine C_seq ?_
          refine C_reg ?_
          refine R1 d_assign rfl ?_
          refine R1 d_assign rfl ?_
          refine R_nil (by kernel_rfl) ?_
          refine K_then ?_
          refine C_ret ?_
          refine K_retT ?_
          exact E_ret2 (Plain.loop Plain.mk' hD) rfl rfl rfl (Le.int (by rw [hf]; rfl)) (Le.int (by rw [hf]; rfl))
        ·
          have hf : fits z = true := by simp only [fits, Bool.and_eq_true, decide_eq_true_eq]; omega
          refine C_skip ?_
          refine K_then ?_
          refine C_seq ?_
          refine C_reg ?_
          refine RE (d_load (0) ti121 rfl rfl) ⟨rfl, trivial⟩ ⟨rfl, trivial⟩ trivial ?_
          refine R1 (d_convert Tryz.underlying3 (isS Tryz.underlying121) (toI64 (by omega))) rfl ?_
          refine R1 d_assign rfl ?_
          refine R1 d_assign rfl ?_
          refine R_nil (by kernel_rfl) ?_
          refine K_then ?_
          refine C_ret ?_
          exact E_ret2 (Plain.loop Plain.mk' hD) rfl rfl rfl (Le.int (by rw [hf]; simp only [↓reduceIte]; split <;> omega)) (Le.int (by rw [hf]; rfl))
    ·
      intro D hD e i; exact i.elim
end An.S

/- Fractions. -/
namespace An
open Go
structure Fr where
  n : Wh
  d : Wh
deriving DecidableEq
abbrev tFr (f : Fr) : Ty := tS [⟨2, true, tWh f.n⟩, ⟨2, true, tWh f.d⟩]
abbrev tTm (f : Fr) : Ty := tS [⟨4, true, tFr f⟩]
def fr (q : Rat) : Fr := ⟨wh q.num, wh q.den⟩
def fr0 : Fr := ⟨⟨false, []⟩, ⟨false, []⟩⟩
/-- Neither part is too long. -/
def Fr.sh (f : Fr) : Bool := decide (f.n.l.length ≤ 256) && decide (f.d.l.length ≤ 256)
def short (q : Rat) : Prop := len16 q.num ≤ 256 ∧ len16 q.den ≤ 256
instance (q : Rat) : Decidable (short q) := inferInstanceAs (Decidable (_ ∧ _))
def resF (q : Rat) : Fr := if short q then fr q else fr0
def resFE (q : Rat) : Int := if short q then 0 else 3
theorem sh_fr (q : Rat) : (fr q).sh = decide (short q) := by
  show (decide (len16 q.num ≤ 256) && decide (len16 q.den ≤ 256)) = _
  exact (Bool.decide_and _ _).symm
/-- The number of signs and limbs. -/
def Wh.int (x : Wh) : Int := sgn x.neg (val 65536 x.l)
theorem int_wh (z : Int) : (wh z).int = z := by
  show sgn (wh z).neg (val 65536 (dig 65536 z.natAbs)) = z
  rw [val_dig two_le_L]; exact sgn_wh z
def Fr.valid (f : Fr) : Bool := f.sh && f.n.valid && f.d.valid && decide (0 < f.d.int) && decide (Int.gcd f.n.int f.d.int = 1)
theorem Fr.of_valid {f : Fr} (hn : Dig 65536 f.n.l) (hd : Dig 65536 f.d.l) (h : f.valid = true) : ∃ q : Rat, f = fr q ∧ short q := by
  obtain ⟨n, d⟩ := f
  simp only [Fr.valid, Bool.and_eq_true, decide_eq_true_eq] at h
  obtain ⟨⟨⟨⟨h1, h2⟩, h3⟩, h4⟩, h5⟩ := h
  obtain ⟨x, hx, hxl⟩ := Wh.of_valid hn h2
  obtain ⟨y, hy, hyl⟩ := Wh.of_valid hd h3
  simp only at hx hy
  subst hx; subst hy
  rw [int_wh] at h4; rw [int_wh, int_wh] at h5
  obtain ⟨m, rfl⟩ := Int.eq_ofNat_of_zero_le (Int.le_of_lt h4)
  have hm : m ≠ 0 := by omega
  have hq : ∃ q : Rat, q.num = x ∧ q.den = m := ⟨⟨x, m, hm, by simpa [Int.gcd] using h5⟩, rfl, rfl⟩
  obtain ⟨q, q1, q2⟩ := hq
  have e : (⟨wh x, wh m⟩ : Fr) = fr q := by rw [fr, q1, q2]
  refine ⟨q, e, ?_⟩
  rw [e, sh_fr] at h1
  exact of_decide_eq_true h1
theorem valid_fr {q : Rat} (h : short q) : (fr q).valid = true := by
  have h1 : (wh q.num).valid = true := valid_wh (Nat.le_trans h.1 (by decide))
  have h2 : (wh (q.den : Int)).valid = true := valid_wh (Nat.le_trans h.2 (by decide))
  have hd := q.den_nz
  have hg : Int.gcd q.num (q.den : Int) = 1 := by simpa [Int.gcd] using q.reduced
  have e1 : (fr q).n.int = q.num := int_wh _
  have e2 : (fr q).d.int = (q.den : Int) := int_wh _
  simp only [Fr.valid, Bool.and_eq_true, decide_eq_true_eq]
  rw [e1, e2]
  exact ⟨⟨⟨⟨by rw [sh_fr]; exact decide_eq_true h, h1⟩, h2⟩, by omega⟩, hg⟩
theorem wh_one : wh 1 = ⟨false, [1]⟩ := by
  have e : dig 65536 1 = [1] := by rw [dig_pos two_le_L (by decide), show (1 : Nat) / 65536 = 0 by decide, dig_zero]
  show (⟨decide ((1 : Int) < 0), dig 65536 1⟩ : Wh) = _
  rw [e]; rfl
theorem wh_zero : wh 0 = ⟨false, []⟩ := by
  show (⟨decide ((0 : Int) < 0), dig 65536 0⟩ : Wh) = _
  rw [dig_zero]; rfl
/-! Bounds. -/
theorem len16_mul {x y : Int} {k l : Nat} (hx : len16 x ≤ k) (hy : len16 y ≤ l) : len16 (x * y) ≤ k + l := by
  have h1 := (len_le_iff two_le_L x.natAbs k).1 hx
  have h2 := (len_le_iff two_le_L y.natAbs l).1 hy
  refine (len_le_iff two_le_L _ _).2 ?_
  rw [Int.natAbs_mul, Nat.pow_add]
  exact Nat.mul_lt_mul'' h1 h2
theorem len16_add {x y : Int} {k : Nat} (hx : len16 x ≤ k) (hy : len16 y ≤ k) : len16 (x + y) ≤ k + 1 := by
  have h1 := (len_le_iff two_le_L x.natAbs k).1 hx
  have h2 := (len_le_iff two_le_L y.natAbs k).1 hy
  refine (len_le_iff two_le_L _ _).2 ?_
  rw [Nat.pow_succ]
  generalize 65536 ^ k = P at *
  omega
theorem len16_neg (x : Int) : len16 (-x) = len16 x := by rw [len16, len16, Int.natAbs_neg]
theorem len16_le {x y : Int} (h : x.natAbs ≤ y.natAbs) : len16 x ≤ len16 y := dig_len_mono two_le_L h
theorem len16_div {x y : Int} {k : Nat} (hx : len16 x ≤ k) : len16 (x / y) ≤ k := by
  refine Nat.le_trans (len16_le ?_) hx
  exact Int.natAbs_ediv_le_natAbs x y
/-! The lowest terms. -/
theorem lowest_eq {n d : Int} (hd : 0 < d) : fr (Rat.divInt n d) = ⟨wh (n / (Int.gcd n d : Int)), wh (d / (Int.gcd n d : Int))⟩ := by
  obtain ⟨m, rfl⟩ := Int.eq_ofNat_of_zero_le (Int.le_of_lt hd)
  have hm : m ≠ 0 := by omega
  rw [Rat.divInt_ofNat, ← Rat.normalize_eq_mkRat hm, Rat.normalize_eq]
  simp only [fr]
  have e : Int.gcd n (m : Int) = n.natAbs.gcd m := by simp [Int.gcd]
  rw [e, ← Int.natCast_ediv]
/-- -1, 0, 1. -/
def cmpQ (a b : Rat) : Int := if a < b then -1 else if a = b then 0 else 1
theorem cmpQ_eq (a b : Rat) : cmpZ (a.num * b.den) (b.num * a.den) = cmpQ a b := by
  simp only [cmpZ, cmpQ, Rat.lt_iff]
  split
  · rfl
  · rename_i h
    by_cases hab : a = b
    · subst hab; rw [if_pos rfl, if_pos rfl]
    · rw [if_neg hab, if_neg]
      intro he
      apply hab
      have h1 : a ≤ b := (Rat.le_iff a b).2 (by omega)
      have h2 : b ≤ a := (Rat.le_iff b a).2 (by omega)
      exact Rat.le_antisymm h1 h2
end An

/- Package frac. -/
namespace An.S
open Go Go.Proofs An
set_option maxHeartbeats 1000000
theorem ti50 : TyI Tryz.prog 50 4 true := ⟨by kernel_rfl, by kernel_rfl⟩
theorem ti92 : TyI Tryz.prog 92 4 true := ⟨by kernel_rfl, by kernel_rfl⟩
theorem fo50_0 : fieldO Tryz.prog 50 0 = some 0 := by kernel_rfl
theorem fo50_1 : fieldO Tryz.prog 50 1 = some 2 := by kernel_rfl
theorem fo92_0 : fieldO Tryz.prog 92 0 = some 0 := by kernel_rfl
theorem fi58 : FnI Tryz.prog 58 := ⟨_, Tryz.func58, by kernel_rfl, rfl⟩
theorem fi85 : FnI Tryz.prog 85 := ⟨_, Tryz.func85, by kernel_rfl, rfl⟩
theorem fi86 : FnI Tryz.prog 86 := ⟨_, Tryz.func86, by kernel_rfl, rfl⟩
theorem fi87 : FnI Tryz.prog 87 := ⟨_, Tryz.func87, by kernel_rfl, rfl⟩
theorem fi88 : FnI Tryz.prog 88 := ⟨_, Tryz.func88, by kernel_rfl, rfl⟩
theorem fi89 : FnI Tryz.prog 89 := ⟨_, Tryz.func89, by kernel_rfl, rfl⟩
theorem fi120 : FnI Tryz.prog 120 := ⟨_, Tryz.func120, by kernel_rfl, rfl⟩
theorem fi122 : FnI Tryz.prog 122 := ⟨_, Tryz.func122, by kernel_rfl, rfl⟩
theorem fi123 : FnI Tryz.prog 123 := ⟨_, Tryz.func123, by kernel_rfl, rfl⟩
theorem zr50 : (Tryz.prog.info? 50).bind (·.zero) = some (.agg #[.bool false, .slice none 0 0, .bool false, .slice none 0 0]) ∧ ∀ F w, (tS [⟨2, true, (tS [⟨1, false, (tE (.bool false))⟩, ⟨1, false, (tLm [])⟩])⟩, ⟨2, true, (tS [⟨1, false, (tE (.bool false))⟩, ⟨1, false, (tLm [])⟩])⟩]).p F w (.agg #[.bool false, .slice none 0 0, .bool false, .slice none 0 0]) := ⟨by kernel_rfl, fun _ _ => ⟨_, rfl, rfl, ⟨fun h => Bool.noConfusion h, ⟨_, rfl, rfl, ⟨fun _ => rfl, rfl⟩, ⟨fun _ => rfl, ⟨none, 0, rfl, Nat.le_refl _, by decide, .inl rfl⟩⟩, trivial⟩⟩, ⟨fun h => Bool.noConfusion h, ⟨_, rfl, rfl, ⟨fun _ => rfl, rfl⟩, ⟨fun _ => rfl, ⟨none, 0, rfl, Nat.le_refl _, by decide, .inl rfl⟩⟩, trivial⟩⟩, trivial⟩⟩
theorem zr92 : (Tryz.prog.info? 92).bind (·.zero) = some (.agg #[.bool false, .slice none 0 0, .bool false, .slice none 0 0]) ∧ ∀ F w, (tS [⟨4, true, (tS [⟨2, true, (tS [⟨1, false, (tE (.bool false))⟩, ⟨1, false, (tLm [])⟩])⟩, ⟨2, true, (tS [⟨1, false, (tE (.bool false))⟩, ⟨1, false, (tLm [])⟩])⟩])⟩]).p F w (.agg #[.bool false, .slice none 0 0, .bool false, .slice none 0 0]) := ⟨by kernel_rfl, fun _ _ => ⟨_, rfl, rfl, ⟨fun h => Bool.noConfusion h, ⟨_, rfl, rfl, ⟨fun h => Bool.noConfusion h, ⟨_, rfl, rfl, ⟨fun _ => rfl, rfl⟩, ⟨fun _ => rfl, ⟨none, 0, rfl, Nat.le_refl _, by decide, .inl rfl⟩⟩, trivial⟩⟩, ⟨fun h => Bool.noConfusion h, ⟨_, rfl, rfl, ⟨fun _ => rfl, rfl⟩, ⟨fun _ => rfl, ⟨none, 0, rfl, Nat.le_refl _, by decide, .inl rfl⟩⟩, trivial⟩⟩, trivial⟩⟩, trivial⟩⟩
theorem bu50 : BuI Tryz.prog 50 (fun i => [(0, 2), (2, 2)][i]?) (.agg #[.bool false, .slice none 0 0, .bool false, .slice none 0 0]) := BuI.struct Tryz.underlying50 (by kernel_rfl) (by kernel_rfl)
theorem bu92 : BuI Tryz.prog 92 (fun i => [(0, 4)][i]?) (.agg #[.bool false, .slice none 0 0, .bool false, .slice none 0 0]) := BuI.struct Tryz.underlying92 (by kernel_rfl) (by kernel_rfl)
theorem isOne_iff {x : Wh} (hn : x.neg = false) (hl : x.l.length = 1) : decide (((x.l.getD 0 0 : Nat) : Int) = 1) = decide (x = ⟨false, [1]⟩) := by
  obtain ⟨n, l⟩ := x
  simp only at hn hl
  subst hn
  obtain ⟨a, rfl⟩ := List.length_eq_one_iff.1 hl
  simp
  omega
theorem neg_wh (z : Int) : wh (-z) = ⟨!(wh z).neg && decide (0 < (wh z).l.length), (wh z).l⟩ := by
  have h : (wh z).l.length = 0 ↔ z = 0 := by
    show (dig 65536 z.natAbs).length = 0 ↔ z = 0
    rw [List.length_eq_zero_iff, dig_eq_nil two_le_L]; omega
  have e1 : (wh (-z)).l = (wh z).l := by show dig 65536 (-z).natAbs = dig 65536 z.natAbs; rw [Int.natAbs_neg]
  have e2 : (wh (-z)).neg = (!(wh z).neg && decide (0 < (wh z).l.length)) := by
    show decide (-z < 0) = (!decide (z < 0) && decide (0 < (wh z).l.length))
    by_cases h0 : z = 0
    · subst h0; simp [wh_zero]
    · have : 0 < (wh z).l.length := by omega
      rw [decide_eq_true this, Bool.and_true, ← decide_not]
      exact decide_eq_decide.2 (by omega)
  have e3 : ∀ a : Wh, a = ⟨a.neg, a.l⟩ := fun _ => rfl
  rw [e3 (wh (-z)), e1, e2]
theorem c_isOne (x : Wh) :
    Ct Tryz.prog 120 [tWh x] (tB (decide (x = ⟨false, [1]⟩))) := by
  refine Ct.intro Tryz.func120 rfl Tryz.ntmps120 rfl ?_
  intro w F
  refine C_seq ?_
  refine C_reg ?_
  refine RE (d_box (k := 1) ti48 rfl) ⟨rfl, trivial⟩ trivial ⟨rfl, trivial⟩ ?_
  refine R1 d_assign rfl ?_
  refine R_nil (by kernel_rfl) ?_
  refine K_then ?_
  refine C_seq ?_
  refine C_reg ?_
  refine R1 (d_fieldO fo48_0 rfl) rfl ?_
  refine R_loadF (0) ti4 rfl rfl rfl (At.g 0 rfl rfl) rfl ?_
  refine R1 d_not rfl ?_
  refine R1 d_move rfl ?_
  refine RGcase (t := 6) rfl (fun h54 => ?_) (fun h54 => ?_)
  ·
    refine RGon h54 rfl (d_fieldO fo48_1 rfl) rfl ⟨rfl, trivial⟩ trivial trivial ?_
    refine RG_loadF h54 rfl rfl (0) ti46 rfl rfl rfl (At.g 1 rfl rfl) rfl ?_
    refine RGon h54 rfl (d_len Tryz.underlying46) rfl ⟨rfl, trivial⟩ trivial trivial ?_
    refine RGon h54 rfl d_eql rfl ⟨rfl, rfl, trivial⟩ trivial trivial ?_
    refine R2 (d_pickT h54) rfl rfl ?_
    refine R1 d_move rfl ?_
    refine RGcaseD (t := 12) rfl (fun h54_2 => ?_) (fun h54_2 => ?_)
    ·
      refine RGon (decide_eq_true h54_2) rfl (d_fieldO fo48_1 rfl) rfl ⟨rfl, trivial⟩ trivial trivial ?_
      refine RG_loadF (decide_eq_true h54_2) rfl rfl (0) ti46 rfl rfl rfl (At.g 1 rfl rfl) rfl ?_
      refine RGon (decide_eq_true h54_2) rfl (d_indexP sl46 (0) (by omega) (gN (by omega))) rfl ⟨rfl, rfl, trivial⟩ trivial trivial ?_
      refine RGon (decide_eq_true h54_2) rfl (d_loadP ti122) rfl ⟨rfl, trivial⟩ trivial trivial ?_
      refine RGon (decide_eq_true h54_2) rfl d_eql rfl ⟨rfl, rfl, trivial⟩ trivial trivial ?_
      refine R2 (d_pickT (decide_eq_true h54_2)) rfl rfl ?_
      refine R1 d_assign rfl ?_
      refine R_nil (by kernel_rfl) ?_
      refine K_then ?_
      refine C_ret ?_
      exact E_ret1 Plain.mk' rfl rfl (Le.bool (isOne_iff (by simpa using h54) (by omega)))
    ·
      refine RGoff (decide_eq_false h54_2) rfl rfl ?_
      refine RGoff (decide_eq_false h54_2) rfl rfl ?_
      refine RGoff (decide_eq_false h54_2) rfl rfl ?_
      refine RGoff (decide_eq_false h54_2) rfl rfl ?_
      refine RGoff (decide_eq_false h54_2) rfl rfl ?_
      refine R2 (d_pickF (decide_eq_false h54_2)) rfl rfl ?_
      refine R1 d_assign rfl ?_
      refine R_nil (by kernel_rfl) ?_
      refine K_then ?_
      refine C_ret ?_
      exact E_ret1 Plain.mk' rfl rfl (Le.bool (decide_eq_false (fun h => h54_2 (by rw [h]; rfl))).symm)
  ·
    refine RGoff h54 rfl rfl ?_
    refine RGoff h54 rfl rfl ?_
    refine RGoff h54 rfl rfl ?_
    refine RGoff h54 rfl rfl ?_
    refine R2 (d_pickF h54) rfl rfl ?_
    refine R1 d_move rfl ?_
    refine RGoff0 rfl rfl ?_
    refine RGoff0 rfl rfl ?_
    refine RGoff0 rfl rfl ?_
    refine RGoff0 rfl rfl ?_
    refine RGoff0 rfl rfl ?_
    refine R2 (d_pickF rfl) rfl rfl ?_
    refine R1 d_assign rfl ?_
    refine R_nil (by kernel_rfl) ?_
    refine K_then ?_
    refine C_ret ?_
    exact E_ret1 Plain.mk' rfl rfl (Le.bool (decide_eq_false (fun h => by rw [h] at h54; simp at h54)).symm)
theorem c_Tlong (f : Fr) :
    Ct Tryz.prog 89 [tTm f] (tB (!f.sh)) := by
  refine Ct.intro Tryz.func89 rfl Tryz.ntmps89 rfl ?_
  intro w F
  refine C_seq ?_
  refine C_reg ?_
  refine RE (d_box (k := 1) ti92 rfl) ⟨rfl, trivial⟩ trivial ⟨rfl, trivial⟩ ?_
  refine R1 d_assign rfl ?_
  refine R_nil (by kernel_rfl) ?_
  refine K_then ?_
  refine C_seq ?_
  refine C_reg ?_
  refine R1 (d_fieldO fo92_0 rfl) rfl ?_
  refine R1 (d_fieldO fo50_0 rfl) rfl ?_
  refine R1 (d_fieldO fo48_1 rfl) rfl ?_
  refine R_loadF (0) ti46 rfl rfl rfl (At.t (At.g 0 rfl rfl) (At.t (At.g 0 rfl rfl) (At.g 1 rfl rfl))) rfl ?_
  refine R1 (d_len Tryz.underlying46) rfl ?_
  refine R2 d_gtr rfl rfl ?_
  refine R1 d_move rfl ?_
  refine RGcaseD (t := 9) rfl (fun h33 => ?_) (fun h33 => ?_)
  ·
    refine RGoff (decide_eq_true h33) rfl rfl ?_
    refine RGoff (decide_eq_true h33) rfl rfl ?_
    refine RGoff (decide_eq_true h33) rfl rfl ?_
    refine RGoff (decide_eq_true h33) rfl rfl ?_
    refine RGoff (decide_eq_true h33) rfl rfl ?_
    refine RGoff (decide_eq_true h33) rfl rfl ?_
    refine R2 (d_pickT (decide_eq_true h33)) rfl rfl ?_
    refine R1 d_assign rfl ?_
    refine R_nil (by kernel_rfl) ?_
    refine K_then ?_
    refine C_ret ?_
    exact E_ret1 Plain.mk' rfl rfl (Le.bool (by rw [Fr.sh, decide_eq_false (show ¬ f.n.l.length ≤ 256 by omega)]; rfl))
  ·
    refine RGon (decide_eq_false h33) rfl (d_fieldO fo92_0 rfl) rfl ⟨rfl, trivial⟩ trivial trivial ?_
    refine RGon (decide_eq_false h33) rfl (d_fieldO fo50_1 rfl) rfl ⟨rfl, trivial⟩ trivial trivial ?_
    refine RGon (decide_eq_false h33) rfl (d_fieldO fo48_1 rfl) rfl ⟨rfl, trivial⟩ trivial trivial ?_
    refine RG_loadF (decide_eq_false h33) rfl rfl (0) ti46 rfl rfl rfl (At.t (At.g 0 rfl rfl) (At.t (At.g 1 rfl rfl) (At.g 1 rfl rfl))) rfl ?_
    refine RGon (decide_eq_false h33) rfl (d_len Tryz.underlying46) rfl ⟨rfl, trivial⟩ trivial trivial ?_
    refine RGon (decide_eq_false h33) rfl d_gtr rfl ⟨rfl, rfl, trivial⟩ trivial trivial ?_
    refine R2 (d_pickF (decide_eq_false h33)) rfl rfl ?_
    refine R1 d_assign rfl ?_
    refine R_nil (by kernel_rfl) ?_
    refine K_then ?_
    refine C_ret ?_
    exact E_ret1 Plain.mk' rfl rfl (Le.bool (by rw [Fr.sh, decide_eq_true (show f.n.l.length ≤ 256 by omega), Bool.true_and, ← decide_not]; exact decide_eq_decide.2 (by omega)))
theorem c_Tresult (f : Fr) :
    Ct Tryz.prog 56 [tTm f] (tT [tFr (if f.sh then f else fr0), tI (if f.sh then 0 else 3)]) := by
  refine Ct.intro Tryz.func56 rfl Tryz.ntmps56 rfl ?_
  intro w F
  refine C_seq ?_
  refine C_reg ?_
  refine RE (d_box (k := 1) ti92 rfl) ⟨rfl, trivial⟩ trivial ⟨rfl, trivial⟩ ?_
  refine RE (d_alloc (k := 2) (n := 4) (agg := true) zr50.1 zr50.2 rfl) trivial trivial ⟨rfl, trivial⟩ ?_
  refine R1 d_assign rfl ?_
  refine R_nil (by kernel_rfl) ?_
  refine K_then ?_
  refine C_seq ?_
  refine C_seq ?_
  refine C_reg ?_
  refine RE (d_load (0) ti92 rfl rfl) ⟨rfl, trivial⟩ ⟨rfl, trivial⟩ trivial ?_
  refine R1 (d_call (c_Tlong f) fi89 rfl) rfl ?_
  refine R_nil (by kernel_rfl) ?_
  refine K_then ?_
  refine C_cond rfl (fun h46 => ?_) (fun h46 => ?_)
  ·
    have hs : f.sh = false := by simpa using h46
    refine C_seq ?_
    refine C_reg ?_
    refine R0 (d_build (r := tS [⟨2, true, (tS [⟨1, false, (tE (.bool false))⟩, ⟨1, false, (tLm [])⟩])⟩, ⟨2, true, (tS [⟨1, false, (tE (.bool false))⟩, ⟨1, false, (tLm [])⟩])⟩]) (ts := []) bu50 zr50.2 ⟨_, rfl⟩ rfl Le.refl)  ?_
    refine RE (d_store (es := 4) (agg := true) (0) ti50 rfl rfl rfl) ⟨rfl, rfl, trivial⟩ ⟨rfl, trivial⟩ trivial ?_
    refine R1 d_assign rfl ?_
    refine R_nil (by kernel_rfl) ?_
    refine K_then ?_
    refine C_ret ?_
    refine K_retT ?_
    exact E_retN Plain.mk' (rs := [.cell 2 50, .tmp 3]) rfl rfl ⟨⟨_, _, _, _, _, rfl, rfl, ti50, (Le.of (by rw [hs]; rfl))⟩, ⟨_, rfl, (Le.int (by rw [hs]; rfl))⟩, trivial⟩
  ·
    have hs : f.sh = true := by simpa using h46
    refine C_skip ?_
    refine K_then ?_
    refine C_seq ?_
    refine C_reg ?_
    refine R1 (d_fieldO fo92_0 rfl) rfl ?_
    refine R_loadF (0) ti50 rfl rfl rfl (At.g 0 rfl rfl) rfl ?_
    refine RE (d_store (es := 4) (agg := true) (0) ti50 rfl rfl rfl) ⟨rfl, rfl, trivial⟩ ⟨rfl, trivial⟩ trivial ?_
    refine R1 d_assign rfl ?_
    refine R_nil (by kernel_rfl) ?_
    refine K_then ?_
    refine C_ret ?_
    exact E_retN Plain.mk' (rs := [.cell 2 50, .tmp 3]) rfl rfl ⟨⟨_, _, _, _, _, rfl, rfl, ti50, (Le.of (by rw [hs]; rfl))⟩, ⟨_, rfl, (Le.int (by rw [hs]; rfl))⟩, trivial⟩
theorem c_Tintegral (f : Fr) :
    Ct Tryz.prog 117 [tTm f] (tB (decide (f.d = ⟨false, [1]⟩))) := by
  refine Ct.intro Tryz.func117 rfl Tryz.ntmps117 rfl ?_
  intro w F
  refine C_seq ?_
  refine C_reg ?_
  refine RE (d_box (k := 1) ti92 rfl) ⟨rfl, trivial⟩ trivial ⟨rfl, trivial⟩ ?_
  refine R1 d_assign rfl ?_
  refine R_nil (by kernel_rfl) ?_
  refine K_then ?_
  refine C_seq ?_
  refine C_reg ?_
  refine R1 (d_fieldO fo92_0 rfl) rfl ?_
  refine R1 (d_fieldO fo50_1 rfl) rfl ?_
  refine R_loadF (0) ti48 rfl rfl rfl (At.t (At.g 0 rfl rfl) (At.g 1 rfl rfl)) rfl ?_
  refine R1 (d_call (c_isOne _) fi120 rfl) rfl ?_
  refine R1 d_assign rfl ?_
  refine R_nil (by kernel_rfl) ?_
  refine K_then ?_
  refine C_ret ?_
  exact E_ret1 Plain.mk' rfl rfl Le.refl
theorem c_Tzero (f : Fr) :
    Ct Tryz.prog 114 [tTm f] (tB (decide (f.n.l.length = 0))) := by
  refine Ct.intro Tryz.func114 rfl Tryz.ntmps114 rfl ?_
  intro w F
  refine C_seq ?_
  refine C_reg ?_
  refine RE (d_box (k := 1) ti92 rfl) ⟨rfl, trivial⟩ trivial ⟨rfl, trivial⟩ ?_
  refine R1 d_assign rfl ?_
  refine R_nil (by kernel_rfl) ?_
  refine K_then ?_
  refine C_seq ?_
  refine C_reg ?_
  refine R1 (d_fieldO fo92_0 rfl) rfl ?_
  refine R1 (d_fieldO fo50_0 rfl) rfl ?_
  refine R1 (d_fieldO fo48_1 rfl) rfl ?_
  refine R_loadF (0) ti46 rfl rfl rfl (At.t (At.g 0 rfl rfl) (At.t (At.g 0 rfl rfl) (At.g 1 rfl rfl))) rfl ?_
  refine R1 (d_len Tryz.underlying46) rfl ?_
  refine R2 d_eql rfl rfl ?_
  refine R1 d_assign rfl ?_
  refine R_nil (by kernel_rfl) ?_
  refine K_then ?_
  refine C_ret ?_
  exact E_ret1 Plain.mk' rfl rfl (Le.bool (decide_eq_decide.2 (by omega)))
theorem c_Tnegative (f : Fr) :
    Ct Tryz.prog 115 [tTm f] (tB f.n.neg) := by
  refine Ct.intro Tryz.func115 rfl Tryz.ntmps115 rfl ?_
  intro w F
  refine C_seq ?_
  refine C_reg ?_
  refine RE (d_box (k := 1) ti92 rfl) ⟨rfl, trivial⟩ trivial ⟨rfl, trivial⟩ ?_
  refine R1 d_assign rfl ?_
  refine R_nil (by kernel_rfl) ?_
  refine K_then ?_
  refine C_seq ?_
  refine C_reg ?_
  refine R1 (d_fieldO fo92_0 rfl) rfl ?_
  refine R1 (d_fieldO fo50_0 rfl) rfl ?_
  refine R1 (d_fieldO fo48_0 rfl) rfl ?_
  refine R_loadF (0) ti4 rfl rfl rfl (At.t (At.g 0 rfl rfl) (At.t (At.g 0 rfl rfl) (At.g 0 rfl rfl))) rfl ?_
  refine R1 d_assign rfl ?_
  refine R_nil (by kernel_rfl) ?_
  refine K_then ?_
  refine C_ret ?_
  exact E_ret1 Plain.mk' rfl rfl Le.refl
theorem c_divisor (x y : Int) (hx : len16 x ≤ 1024) (hy : len16 y ≤ 1024) :
    Ct Tryz.prog 85 [tWh (wh x), tWh (wh y)] (tWh (wh ((Int.gcd x y : Nat) : Int))) := by
  refine Ct.intro Tryz.func85 rfl Tryz.ntmps85 rfl ?_
  intro w F
  refine C_seq ?_
  refine C_reg ?_
  refine RE (d_box (k := 2) ti48 rfl) ⟨rfl, trivial⟩ trivial ⟨rfl, trivial⟩ ?_
  refine RE (d_box (k := 3) ti48 rfl) ⟨rfl, trivial⟩ trivial ⟨rfl, trivial⟩ ?_
  refine RE (d_alloc (k := 4) (n := 2) (agg := true) zr48.1 zr48.2 rfl) trivial trivial ⟨rfl, trivial⟩ ?_
  refine R_nil (by kernel_rfl) ?_
  refine K_then ?_
  refine C_seq ?_
  refine C_reg ?_
  refine RE (d_load (0) ti48 rfl rfl) ⟨rfl, trivial⟩ ⟨rfl, trivial⟩ trivial ?_
  refine RE (d_load (0) ti48 rfl rfl) ⟨rfl, trivial⟩ ⟨rfl, trivial⟩ trivial ?_
  refine R2 (d_call (c_Gcd x y hx hy) fi122 rfl) rfl rfl ?_
  refine R1 d_move rfl ?_
  refine R1 (d_extract rfl) rfl ?_
  refine R1 (d_extract rfl) rfl ?_
  refine RE (d_alloc (k := 5) (n := 2) (agg := true) zr48.1 zr48.2 rfl) trivial trivial ⟨rfl, trivial⟩ ?_
  refine RE (d_store (es := 2) (agg := true) (0) ti48 rfl rfl rfl) ⟨rfl, rfl, trivial⟩ ⟨rfl, trivial⟩ trivial ?_
  refine R1 d_assign rfl ?_
  refine R_nil (by kernel_rfl) ?_
  refine K_then ?_
  refine C_seq ?_
  refine C_reg ?_
  refine RE (d_load (0) ti48 rfl rfl) ⟨rfl, trivial⟩ ⟨rfl, trivial⟩ trivial ?_
  refine RE (d_store (es := 2) (agg := true) (0) ti48 rfl rfl rfl) ⟨rfl, rfl, trivial⟩ ⟨rfl, trivial⟩ trivial ?_
  refine R_nil (by kernel_rfl) ?_
  refine K_then ?_
  refine C_ret ?_
  exact E_retC Plain.mk' rfl ⟨_, _, _, _, _, rfl, rfl, ti48, Le.refl⟩
theorem c_fplus (x y : Int) (hx : len16 x ≤ 1024) (hy : len16 y ≤ 1024) (hz : len16 (x + y) ≤ 1024) :
    Ct Tryz.prog 54 [tWh (wh x), tWh (wh y)] (tWh (wh (x + y))) := by
  refine Ct.intro Tryz.func54 rfl Tryz.ntmps54 rfl ?_
  intro w F
  refine C_seq ?_
  refine C_reg ?_
  refine RE (d_box (k := 2) ti48 rfl) ⟨rfl, trivial⟩ trivial ⟨rfl, trivial⟩ ?_
  refine RE (d_box (k := 3) ti48 rfl) ⟨rfl, trivial⟩ trivial ⟨rfl, trivial⟩ ?_
  refine RE (d_alloc (k := 4) (n := 2) (agg := true) zr48.1 zr48.2 rfl) trivial trivial ⟨rfl, trivial⟩ ?_
  refine R_nil (by kernel_rfl) ?_
  refine K_then ?_
  refine C_seq ?_
  refine C_reg ?_
  refine RE (d_load (0) ti48 rfl rfl) ⟨rfl, trivial⟩ ⟨rfl, trivial⟩ trivial ?_
  refine RE (d_load (0) ti48 rfl rfl) ⟨rfl, trivial⟩ ⟨rfl, trivial⟩ trivial ?_
  refine R2 (d_call (c_Add x y hx hy) fi87 rfl) rfl rfl ?_
  refine R1 d_move rfl ?_
  refine R1 (d_extract rfl) rfl ?_
  refine R1 (d_extract rfl) rfl ?_
  refine RE (d_alloc (k := 5) (n := 2) (agg := true) zr48.1 zr48.2 rfl) trivial trivial ⟨rfl, trivial⟩ ?_
  refine RE (d_store (es := 2) (agg := true) (0) ti48 rfl rfl rfl) ⟨rfl, rfl, trivial⟩ ⟨rfl, trivial⟩ trivial ?_
  refine R1 d_assign rfl ?_
  refine R_nil (by kernel_rfl) ?_
  refine K_then ?_
  refine C_seq ?_
  refine C_reg ?_
  refine RE (d_load (0) ti48 rfl rfl) ⟨rfl, trivial⟩ ⟨rfl, trivial⟩ trivial ?_
  refine RE (d_store (es := 2) (agg := true) (0) ti48 rfl rfl rfl) ⟨rfl, rfl, trivial⟩ ⟨rfl, trivial⟩ trivial ?_
  refine R_nil (by kernel_rfl) ?_
  refine K_then ?_
  refine C_ret ?_
  exact E_retC Plain.mk' rfl ⟨_, _, _, _, _, rfl, rfl, ti48, (Le.of (by rw [resW, if_pos hz]))⟩
theorem c_ftimes (x y : Int) (hx : len16 x ≤ 1024) (hy : len16 y ≤ 1024) (hz : len16 (x * y) ≤ 1024) :
    Ct Tryz.prog 55 [tWh (wh x), tWh (wh y)] (tWh (wh (x * y))) := by
  refine Ct.intro Tryz.func55 rfl Tryz.ntmps55 rfl ?_
  intro w F
  refine C_seq ?_
  refine C_reg ?_
  refine RE (d_box (k := 2) ti48 rfl) ⟨rfl, trivial⟩ trivial ⟨rfl, trivial⟩ ?_
  refine RE (d_box (k := 3) ti48 rfl) ⟨rfl, trivial⟩ trivial ⟨rfl, trivial⟩ ?_
  refine RE (d_alloc (k := 4) (n := 2) (agg := true) zr48.1 zr48.2 rfl) trivial trivial ⟨rfl, trivial⟩ ?_
  refine R_nil (by kernel_rfl) ?_
  refine K_then ?_
  refine C_seq ?_
  refine C_reg ?_
  refine RE (d_load (0) ti48 rfl rfl) ⟨rfl, trivial⟩ ⟨rfl, trivial⟩ trivial ?_
  refine RE (d_load (0) ti48 rfl rfl) ⟨rfl, trivial⟩ ⟨rfl, trivial⟩ trivial ?_
  refine R2 (d_call (c_Mul x y hx hy) fi88 rfl) rfl rfl ?_
  refine R1 d_move rfl ?_
  refine R1 (d_extract rfl) rfl ?_
  refine R1 (d_extract rfl) rfl ?_
  refine RE (d_alloc (k := 5) (n := 2) (agg := true) zr48.1 zr48.2 rfl) trivial trivial ⟨rfl, trivial⟩ ?_
  refine RE (d_store (es := 2) (agg := true) (0) ti48 rfl rfl rfl) ⟨rfl, rfl, trivial⟩ ⟨rfl, trivial⟩ trivial ?_
  refine R1 d_assign rfl ?_
  refine R_nil (by kernel_rfl) ?_
  refine K_then ?_
  refine C_seq ?_
  refine C_reg ?_
  refine RE (d_load (0) ti48 rfl rfl) ⟨rfl, trivial⟩ ⟨rfl, trivial⟩ trivial ?_
  refine RE (d_store (es := 2) (agg := true) (0) ti48 rfl rfl rfl) ⟨rfl, rfl, trivial⟩ ⟨rfl, trivial⟩ trivial ?_
  refine R_nil (by kernel_rfl) ?_
  refine K_then ?_
  refine C_ret ?_
  exact E_retC Plain.mk' rfl ⟨_, _, _, _, _, rfl, rfl, ti48, (Le.of (by rw [resW, if_pos hz]))⟩
theorem c_fdivide (x y : Int) (hx : len16 x ≤ 1024) (hy : len16 y ≤ 1024) (hy0 : 0 < y) :
    Ct Tryz.prog 86 [tWh (wh x), tWh (wh y)] (tT [tWh (wh (x / y)), tWh (wh (x % y))]) := by
  refine Ct.intro Tryz.func86 rfl Tryz.ntmps86 rfl ?_
  intro w F
  refine C_seq ?_
  refine C_reg ?_
  refine RE (d_box (k := 2) ti48 rfl) ⟨rfl, trivial⟩ trivial ⟨rfl, trivial⟩ ?_
  refine RE (d_box (k := 3) ti48 rfl) ⟨rfl, trivial⟩ trivial ⟨rfl, trivial⟩ ?_
  refine RE (d_alloc (k := 4) (n := 2) (agg := true) zr48.1 zr48.2 rfl) trivial trivial ⟨rfl, trivial⟩ ?_
  refine RE (d_alloc (k := 5) (n := 2) (agg := true) zr48.1 zr48.2 rfl) trivial trivial ⟨rfl, trivial⟩ ?_
  refine R_nil (by kernel_rfl) ?_
  refine K_then ?_
  refine C_seq ?_
  refine C_reg ?_
  refine RE (d_load (0) ti48 rfl rfl) ⟨rfl, trivial⟩ ⟨rfl, trivial⟩ trivial ?_
  refine RE (d_load (0) ti48 rfl rfl) ⟨rfl, trivial⟩ ⟨rfl, trivial⟩ trivial ?_
  refine R2 (d_call (c_DivMod x y hx hy hy0) fi123 rfl) rfl rfl ?_
  refine R1 d_move rfl ?_
  refine R1 (d_extract rfl) rfl ?_
  refine R1 (d_extract rfl) rfl ?_
  refine R1 (d_extract rfl) rfl ?_
  refine RE (d_store (es := 2) (agg := true) (0) ti48 rfl rfl rfl) ⟨rfl, rfl, trivial⟩ ⟨rfl, trivial⟩ trivial ?_
  refine RE (d_store (es := 2) (agg := true) (0) ti48 rfl rfl rfl) ⟨rfl, rfl, trivial⟩ ⟨rfl, trivial⟩ trivial ?_
  refine R_nil (by kernel_rfl) ?_
  refine K_then ?_
  refine C_seq ?_
  refine C_draw mixed ?_
  refine RE (d_load (0) ti48 rfl rfl) ⟨rfl, trivial⟩ ⟨rfl, trivial⟩ trivial ?_
  refine RE (d_load (0) ti48 rfl rfl) ⟨rfl, trivial⟩ ⟨rfl, trivial⟩ trivial ?_
  refine RE (d_store (es := 2) (agg := true) (0) ti48 rfl rfl rfl) ⟨rfl, rfl, trivial⟩ ⟨rfl, trivial⟩ trivial ?_
  refine RE (d_store (es := 2) (agg := true) (0) ti48 rfl rfl rfl) ⟨rfl, rfl, trivial⟩ ⟨rfl, trivial⟩ trivial ?_
  refine R_end (by kernel_rfl) ?_
  refine K_then ?_
  refine C_ret ?_
  exact E_retN Plain.mk' (rs := [.cell 4 48, .cell 5 48]) rfl rfl ⟨⟨_, _, _, _, _, rfl, rfl, ti48, Le.refl⟩, ⟨_, _, _, _, _, rfl, rfl, ti48, Le.refl⟩, trivial⟩
theorem c_opposite (z : Int) (hz : len16 z ≤ 10000) :
    Ct Tryz.prog 58 [tWh (wh z)] (tWh (wh (-z))) := by
  have hzl : (wh z).l.length ≤ 10000 := hz
  refine Ct.intro Tryz.func58 rfl Tryz.ntmps58 rfl ?_
  intro w F
  refine C_seq ?_
  refine C_reg ?_
  refine RE (d_box (k := 1) ti48 rfl) ⟨rfl, trivial⟩ trivial ⟨rfl, trivial⟩ ?_
  refine RE (d_alloc (k := 2) (n := 2) (agg := true) zr48.1 zr48.2 rfl) trivial trivial ⟨rfl, trivial⟩ ?_
  refine R_nil (by kernel_rfl) ?_
  refine K_then ?_
  refine C_seq ?_
  refine C_draw mixed ?_
  refine R1 (d_fieldO fo48_0 rfl) rfl ?_
  refine R_loadF (0) ti4 rfl rfl rfl (At.g 0 rfl rfl) rfl ?_
  refine R1 d_not rfl ?_
  refine R1 d_move rfl ?_
  refine RGcase (t := 6) rfl (fun h81 => ?_) (fun h81 => ?_)
  ·
    refine RGon h81 rfl (d_fieldO fo48_1 rfl) rfl ⟨rfl, trivial⟩ trivial trivial ?_
    refine RG_loadF h81 rfl rfl (0) ti46 rfl rfl rfl (At.g 1 rfl rfl) rfl ?_
    refine RGon h81 rfl (d_len Tryz.underlying46) rfl ⟨rfl, trivial⟩ trivial trivial ?_
    refine RGon h81 rfl d_gtr rfl ⟨rfl, rfl, trivial⟩ trivial trivial ?_
    refine R2 (d_pickT h81) rfl rfl ?_
    refine R1 (d_fieldO fo48_1 rfl) rfl ?_
    refine R_loadF (0) ti46 rfl rfl rfl (At.g 1 rfl rfl) rfl ?_
    refine R1 (d_call (c_clone16V _ (by omega)) fi82 rfl) rfl ?_
    refine R2 (d_build (r := tS [⟨1, false, tB (decide ((0 : Int) < ((wh z).l.length : Nat)))⟩, ⟨1, false, tLm (wh z).l⟩]) (ts := [(0, tB (decide ((0 : Int) < ((wh z).l.length : Nat)))), (1, tLm (wh z).l)]) bu48 zr48.2 ⟨_, rfl⟩ rfl ⟨_, _, _, _, rfl, Up.f (fs := [⟨1, false, (tE (.bool false))⟩, ⟨1, false, (tLm [])⟩]) (f := ⟨1, false, (tE (.bool false))⟩) (fs' := [⟨1, false, tB (decide ((0 : Int) < ((wh z).l.length : Nat)))⟩, ⟨1, false, (tLm [])⟩]) 0 rfl rfl rfl, inferInstance, ⟨_, _, _, _, rfl, Up.f (fs := [⟨1, false, tB (decide ((0 : Int) < ((wh z).l.length : Nat)))⟩, ⟨1, false, (tLm [])⟩]) (f := ⟨1, false, (tLm [])⟩) (fs' := [⟨1, false, tB (decide ((0 : Int) < ((wh z).l.length : Nat)))⟩, ⟨1, false, tLm (wh z).l⟩]) 1 rfl rfl rfl, inferInstance, Le.refl⟩⟩) rfl rfl ?_
    refine RE (d_store (es := 2) (agg := true) (0) ti48 rfl rfl rfl) ⟨rfl, rfl, trivial⟩ ⟨rfl, trivial⟩ trivial ?_
    refine R_end (by kernel_rfl) ?_
    refine K_then ?_
    refine C_ret ?_
    exact E_retC Plain.mk' rfl ⟨_, _, _, _, _, rfl, rfl, ti48, (Le.of (by rw [neg_wh, h81, Bool.true_and, decide_eq_decide.2 (show (0 : Int) < ((wh z).l.length : Nat) ↔ 0 < (wh z).l.length by omega)]))⟩
  ·
    refine RGoff h81 rfl rfl ?_
    refine RGoff h81 rfl rfl ?_
    refine RGoff h81 rfl rfl ?_
    refine RGoff h81 rfl rfl ?_
    refine R2 (d_pickF h81) rfl rfl ?_
    refine R1 (d_fieldO fo48_1 rfl) rfl ?_
    refine R_loadF (0) ti46 rfl rfl rfl (At.g 1 rfl rfl) rfl ?_
    refine R1 (d_call (c_clone16V _ (by omega)) fi82 rfl) rfl ?_
    refine R2 (d_build (r := tS [⟨1, false, tB false⟩, ⟨1, false, tLm (wh z).l⟩]) (ts := [(0, tB false), (1, tLm (wh z).l)]) bu48 zr48.2 ⟨_, rfl⟩ rfl ⟨_, _, _, _, rfl, Up.f (fs := [⟨1, false, (tE (.bool false))⟩, ⟨1, false, (tLm [])⟩]) (f := ⟨1, false, (tE (.bool false))⟩) (fs' := [⟨1, false, tB false⟩, ⟨1, false, (tLm [])⟩]) 0 rfl rfl rfl, inferInstance, ⟨_, _, _, _, rfl, Up.f (fs := [⟨1, false, tB false⟩, ⟨1, false, (tLm [])⟩]) (f := ⟨1, false, (tLm [])⟩) (fs' := [⟨1, false, tB false⟩, ⟨1, false, tLm (wh z).l⟩]) 1 rfl rfl rfl, inferInstance, Le.refl⟩⟩) rfl rfl ?_
    refine RE (d_store (es := 2) (agg := true) (0) ti48 rfl rfl rfl) ⟨rfl, rfl, trivial⟩ ⟨rfl, trivial⟩ trivial ?_
    refine R_end (by kernel_rfl) ?_
    refine K_then ?_
    refine C_ret ?_
    exact E_retC Plain.mk' rfl ⟨_, _, _, _, _, rfl, rfl, ti48, (Le.of (by rw [neg_wh, h81, Bool.false_and]))⟩
theorem c_lowest (n d : Int) (hn : len16 n ≤ 1024) (hd : len16 d ≤ 1024) (hd0 : d ≠ 0) :
    Ct Tryz.prog 53 [tWh (wh n), tWh (wh d)] (tTm (fr (Rat.divInt n d))) := by
  refine Ct.intro Tryz.func53 rfl Tryz.ntmps53 rfl ?_
  intro w F
  refine C_seq ?_
  refine C_reg ?_
  refine RE (d_box (k := 2) ti48 rfl) ⟨rfl, trivial⟩ trivial ⟨rfl, trivial⟩ ?_
  refine RE (d_box (k := 3) ti48 rfl) ⟨rfl, trivial⟩ trivial ⟨rfl, trivial⟩ ?_
  refine RE (d_alloc (k := 4) (n := 4) (agg := true) zr92.1 zr92.2 rfl) trivial trivial ⟨rfl, trivial⟩ ?_
  refine R_nil (by kernel_rfl) ?_
  refine K_then ?_
  refine C_join (fun (fm : (Int) × (Int)) => (fun (m : Int) (e : Int) => (0 < e ∧ Rat.divInt m e = Rat.divInt n d) ∧ len16 m ≤ 1024 ∧ len16 e ≤ 1024) fm.1 fm.2) (fun (fm : (Int) × (Int)) => (fun (m : Int) (e : Int) => upd (upd (upd (fun _ => none) 2 (some (.own (.ptr 2 0)))) 3 (some (.own (.ptr 3 0)))) 4 (some (.own (.ptr 4 0)))) fm.1 fm.2) (fun (fm : (Int) × (Int)) => (fun (m : Int) (e : Int) => upd (upd (upd (fun _ => none) 2 (some (⟨48, 2, true, [.val (tWh (wh m))]⟩))) 3 (some (⟨48, 2, true, [.val (tWh (wh e))]⟩))) 4 (some (⟨92, 4, true, [.val (tTm fr0)]⟩))) fm.1 fm.2) (nm [2, 3, 4]) ?_ ?_
  ·
    refine C_seq ?_
    refine C_reg ?_
    refine R1 (d_fieldO fo48_0 rfl) rfl ?_
    refine R_loadF (0) ti4 rfl rfl rfl (At.g 0 rfl rfl) rfl ?_
    refine R_nil (by kernel_rfl) ?_
    refine K_then ?_
    refine C_cond rfl (fun h86 => ?_) (fun h86 => ?_)
    ·
      refine C_draw mixed ?_
      refine RE (d_load (0) ti48 rfl rfl) ⟨rfl, trivial⟩ ⟨rfl, trivial⟩ trivial ?_
      refine R1 (d_call (c_opposite n (by omega)) fi58 rfl) rfl ?_
      refine RE (d_load (0) ti48 rfl rfl) ⟨rfl, trivial⟩ ⟨rfl, trivial⟩ trivial ?_
      refine R1 (d_call (c_opposite d (by omega)) fi58 rfl) rfl ?_
      refine RE (d_store (es := 2) (agg := true) (0) ti48 rfl rfl rfl) ⟨rfl, rfl, trivial⟩ ⟨rfl, trivial⟩ trivial ?_
      refine RE (d_store (es := 2) (agg := true) (0) ti48 rfl rfl rfl) ⟨rfl, rfl, trivial⟩ ⟨rfl, trivial⟩ trivial ?_
      refine R_end (by kernel_rfl) ?_
      exact K_fam ((-n, -d)) (by dsimp only; exact ⟨⟨by have := of_decide_eq_true h86; omega, Rat.neg_divInt_neg _ _⟩, by rw [len16_neg]; exact hn, by rw [len16_neg]; exact hd⟩) (Sub.cons rfl (Sub.cons rfl (Sub.cons rfl Sub.nil))) ((SubK.consI rfl ImpK.refl) ((SubK.consI rfl ImpK.refl) ((SubK.consI rfl ImpK.refl) SubK.nil))) (SupG.own rfl (SupG.own rfl (SupG.own rfl SupG.nil))) (SupH.cons rfl (supJL rfl) (SupH.cons rfl (supJL rfl) (SupH.cons rfl (supJL rfl) SupH.nil))) (lkOk rfl)
    ·
      refine C_skip ?_
      exact K_fam ((n, d)) (by dsimp only; exact ⟨⟨by have := of_decide_eq_false h86; omega, rfl⟩, hn, hd⟩) (Sub.cons rfl (Sub.cons rfl (Sub.cons rfl Sub.nil))) ((SubK.consI rfl ImpK.refl) ((SubK.consI rfl ImpK.refl) ((SubK.consI rfl ImpK.refl) SubK.nil))) (SupG.own rfl (SupG.own rfl (SupG.own rfl SupG.nil))) (SupH.cons rfl (supJL rfl) (SupH.cons rfl (supJL rfl) (SupH.cons rfl (supJL rfl) SupH.nil))) (lkOk rfl)
  ·
    intro fm hj
    obtain ⟨m, e⟩ := fm
    replace hj : (0 < e ∧ Rat.divInt m e = Rat.divInt n d) ∧ len16 m ≤ 1024 ∧ len16 e ≤ 1024 := hj
    show wc _ _ _ _ (upd (upd (upd (fun _ => none) 2 (some (.own (.ptr 2 0)))) 3 (some (.own (.ptr 3 0)))) 4 (some (.own (.ptr 4 0)))) (upd (upd (upd (fun _ => none) 2 (some (⟨48, 2, true, [.val (tWh (wh m))]⟩))) 3 (some (⟨48, 2, true, [.val (tWh (wh e))]⟩))) 4 (some (⟨92, 4, true, [.val (tTm fr0)]⟩))) _
    obtain ⟨⟨he, hq⟩, hm, hel⟩ := hj
    have hg0 : 0 < Int.gcd m e := Int.gcd_pos_of_ne_zero_right m (by omega)
    have hgl : len16 ((Int.gcd m e : Nat) : Int) ≤ 1024 := Nat.le_trans (len16_le (by simpa using Nat.le_of_dvd (by omega) (Int.gcd_dvd_natAbs_right m e))) hel
    refine C_seq ?_
    refine C_reg ?_
    refine RE (d_load (0) ti48 rfl rfl) ⟨rfl, trivial⟩ ⟨rfl, trivial⟩ trivial ?_
    refine RE (d_load (0) ti48 rfl rfl) ⟨rfl, trivial⟩ ⟨rfl, trivial⟩ trivial ?_
    refine R2 (d_call (c_divisor m e hm hel) fi85 rfl) rfl rfl ?_
    refine RE (d_alloc (k := 5) (n := 2) (agg := true) zr48.1 zr48.2 rfl) trivial trivial ⟨rfl, trivial⟩ ?_
    refine RE (d_store (es := 2) (agg := true) (0) ti48 rfl rfl rfl) ⟨rfl, rfl, trivial⟩ ⟨rfl, trivial⟩ trivial ?_
    refine R_nil (by kernel_rfl) ?_
    refine K_then ?_
    refine C_seq ?_
    refine C_reg ?_
    refine RE (d_load (0) ti48 rfl rfl) ⟨rfl, trivial⟩ ⟨rfl, trivial⟩ trivial ?_
    refine RE (d_load (0) ti48 rfl rfl) ⟨rfl, trivial⟩ ⟨rfl, trivial⟩ trivial ?_
    refine R2 (d_call (c_fdivide m _ hm hgl (by omega)) fi86 rfl) rfl rfl ?_
    refine R1 d_move rfl ?_
    refine R1 (d_extract rfl) rfl ?_
    refine R1 (d_extract rfl) rfl ?_
    refine RE (d_store (es := 2) (agg := true) (0) ti48 rfl rfl rfl) ⟨rfl, rfl, trivial⟩ ⟨rfl, trivial⟩ trivial ?_
    refine R_nil (by kernel_rfl) ?_
    refine K_then ?_
    refine C_seq ?_
    refine C_reg ?_
    refine RE (d_load (0) ti48 rfl rfl) ⟨rfl, trivial⟩ ⟨rfl, trivial⟩ trivial ?_
    refine RE (d_load (0) ti48 rfl rfl) ⟨rfl, trivial⟩ ⟨rfl, trivial⟩ trivial ?_
    refine R2 (d_call (c_fdivide e _ hel hgl (by omega)) fi86 rfl) rfl rfl ?_
    refine R1 d_move rfl ?_
    refine R1 (d_extract rfl) rfl ?_
    refine R1 (d_extract rfl) rfl ?_
    refine RE (d_store (es := 2) (agg := true) (0) ti48 rfl rfl rfl) ⟨rfl, rfl, trivial⟩ ⟨rfl, trivial⟩ trivial ?_
    refine R_nil (by kernel_rfl) ?_
    refine K_then ?_
    refine C_seq ?_
    refine C_reg ?_
    refine RE (d_load (0) ti48 rfl rfl) ⟨rfl, trivial⟩ ⟨rfl, trivial⟩ trivial ?_
    refine RE (d_load (0) ti48 rfl rfl) ⟨rfl, trivial⟩ ⟨rfl, trivial⟩ trivial ?_
    refine R2 (d_build (r := tS [⟨2, true, tWh (wh (m / ((Int.gcd m e : Nat) : Int)))⟩, ⟨2, true, tWh (wh (e / ((Int.gcd m e : Nat) : Int)))⟩]) (ts := [(0, tWh (wh (m / ((Int.gcd m e : Nat) : Int)))), (1, tWh (wh (e / ((Int.gcd m e : Nat) : Int))))]) bu50 zr50.2 ⟨_, rfl⟩ rfl ⟨_, _, _, _, rfl, Up.f (fs := [⟨2, true, (tS [⟨1, false, (tE (.bool false))⟩, ⟨1, false, (tLm [])⟩])⟩, ⟨2, true, (tS [⟨1, false, (tE (.bool false))⟩, ⟨1, false, (tLm [])⟩])⟩]) (f := ⟨2, true, (tS [⟨1, false, (tE (.bool false))⟩, ⟨1, false, (tLm [])⟩])⟩) (fs' := [⟨2, true, tWh (wh (m / ((Int.gcd m e : Nat) : Int)))⟩, ⟨2, true, (tS [⟨1, false, (tE (.bool false))⟩, ⟨1, false, (tLm [])⟩])⟩]) 0 rfl rfl rfl, inferInstance, ⟨_, _, _, _, rfl, Up.f (fs := [⟨2, true, tWh (wh (m / ((Int.gcd m e : Nat) : Int)))⟩, ⟨2, true, (tS [⟨1, false, (tE (.bool false))⟩, ⟨1, false, (tLm [])⟩])⟩]) (f := ⟨2, true, (tS [⟨1, false, (tE (.bool false))⟩, ⟨1, false, (tLm [])⟩])⟩) (fs' := [⟨2, true, tWh (wh (m / ((Int.gcd m e : Nat) : Int)))⟩, ⟨2, true, tWh (wh (e / ((Int.gcd m e : Nat) : Int)))⟩]) 1 rfl rfl rfl, inferInstance, Le.refl⟩⟩) rfl rfl ?_
    refine R1 (d_build (r := tS [⟨4, true, tFr ⟨wh (m / ((Int.gcd m e : Nat) : Int)), wh (e / ((Int.gcd m e : Nat) : Int))⟩⟩]) (ts := [(0, tFr ⟨wh (m / ((Int.gcd m e : Nat) : Int)), wh (e / ((Int.gcd m e : Nat) : Int))⟩)]) bu92 zr92.2 ⟨_, rfl⟩ rfl ⟨_, _, _, _, rfl, Up.f (fs := [⟨4, true, (tS [⟨2, true, (tS [⟨1, false, (tE (.bool false))⟩, ⟨1, false, (tLm [])⟩])⟩, ⟨2, true, (tS [⟨1, false, (tE (.bool false))⟩, ⟨1, false, (tLm [])⟩])⟩])⟩]) (f := ⟨4, true, (tS [⟨2, true, (tS [⟨1, false, (tE (.bool false))⟩, ⟨1, false, (tLm [])⟩])⟩, ⟨2, true, (tS [⟨1, false, (tE (.bool false))⟩, ⟨1, false, (tLm [])⟩])⟩])⟩) (fs' := [⟨4, true, tFr ⟨wh (m / ((Int.gcd m e : Nat) : Int)), wh (e / ((Int.gcd m e : Nat) : Int))⟩⟩]) 0 rfl rfl rfl, inferInstance, Le.refl⟩) rfl ?_
    refine RE (d_store (es := 4) (agg := true) (0) ti92 rfl rfl rfl) ⟨rfl, rfl, trivial⟩ ⟨rfl, trivial⟩ trivial ?_
    refine R_nil (by kernel_rfl) ?_
    refine K_then ?_
    refine C_ret ?_
    exact E_retC Plain.mk' rfl ⟨_, _, _, _, _, rfl, rfl, ti92, (Le.of (by rw [← hq, lowest_eq he]))⟩
end An.S

/- Package frac: validity, arithmetic. -/
namespace An.S
open Go Go.Proofs An
set_option maxHeartbeats 2000000
theorem sl43 : SlI Tryz.prog 43 50 4 true := ⟨Tryz.underlying43, ti50⟩
theorem fi49 : FnI Tryz.prog 49 := ⟨_, Tryz.func49, by kernel_rfl, rfl⟩
theorem fi51 : FnI Tryz.prog 51 := ⟨_, Tryz.func51, by kernel_rfl, rfl⟩
theorem fi52 : FnI Tryz.prog 52 := ⟨_, Tryz.func52, by kernel_rfl, rfl⟩
theorem fi53 : FnI Tryz.prog 53 := ⟨_, Tryz.func53, by kernel_rfl, rfl⟩
theorem fi54 : FnI Tryz.prog 54 := ⟨_, Tryz.func54, by kernel_rfl, rfl⟩
theorem fi55 : FnI Tryz.prog 55 := ⟨_, Tryz.func55, by kernel_rfl, rfl⟩
theorem fi56 : FnI Tryz.prog 56 := ⟨_, Tryz.func56, by kernel_rfl, rfl⟩
theorem fi57 : FnI Tryz.prog 57 := ⟨_, Tryz.func57, by kernel_rfl, rfl⟩
theorem fi59 : FnI Tryz.prog 59 := ⟨_, Tryz.func59, by kernel_rfl, rfl⟩
theorem fi80 : FnI Tryz.prog 80 := ⟨_, Tryz.func80, by kernel_rfl, rfl⟩
theorem fi83 : FnI Tryz.prog 83 := ⟨_, Tryz.func83, by kernel_rfl, rfl⟩
theorem fi84 : FnI Tryz.prog 84 := ⟨_, Tryz.func84, by kernel_rfl, rfl⟩
theorem fi117 : FnI Tryz.prog 117 := ⟨_, Tryz.func117, by kernel_rfl, rfl⟩
theorem fi118 : FnI Tryz.prog 118 := ⟨_, Tryz.func118, by kernel_rfl, rfl⟩
theorem fi121 : FnI Tryz.prog 121 := ⟨_, Tryz.func121, by kernel_rfl, rfl⟩
theorem el50 : ElI Tryz.prog 50 4 64 true (.agg #[.bool false, .slice none 0 0, .bool false, .slice none 0 0]) := ⟨ti50, by kernel_rfl, by kernel_rfl⟩
theorem zf50 : Flat 4 true (.agg #[.bool false, .slice none 0 0, .bool false, .slice none 0 0]) := flat_agg (by intro u hu; simp at hu; rcases hu with rfl | rfl | rfl | rfl <;> rfl)
theorem gcd_one_dec {x y : Int} : decide (wh ((Int.gcd x y : Nat) : Int) = ⟨false, [1]⟩) = decide (Int.gcd x y = 1) := by
  rw [← wh_one]
  refine decide_eq_decide.2 ⟨fun h' => ?_, fun h' => by rw [h']; rfl⟩
  have := wh_inj h'; omega
theorem pos_of_wh {y : Int} (h1 : (wh y).neg = false) (h2 : ¬ (wh y).l.length = 0) : 0 < y := by
  have h3 : ¬ y < 0 := of_decide_eq_false h1
  have h4 : y ≠ 0 := fun h => h2 (by rw [h, wh_zero]; rfl)
  omega
theorem c_Tvalid (f : Fr) (hn : Dig 65536 f.n.l) (hd : Dig 65536 f.d.l) :
    Ct Tryz.prog 80 [tTm f] (tB f.valid) := by
  obtain ⟨n, d⟩ := f
  replace hn : Dig 65536 n.l := hn
  replace hd : Dig 65536 d.l := hd
  refine Ct.intro Tryz.func80 rfl Tryz.ntmps80 rfl ?_
  intro w F
  refine C_seq ?_
  refine C_reg ?_
  refine RE (d_box (k := 1) ti92 rfl) ⟨rfl, trivial⟩ trivial ⟨rfl, trivial⟩ ?_
  refine R1 d_assign rfl ?_
  refine R_nil (by kernel_rfl) ?_
  refine K_then ?_
  refine C_seq ?_
  refine C_seq ?_
  refine C_reg ?_
  refine RE (d_load (0) ti92 rfl rfl) ⟨rfl, trivial⟩ ⟨rfl, trivial⟩ trivial ?_
  refine R1 (d_call (c_Tlong _) fi89 rfl) rfl ?_
  refine R1 d_move rfl ?_
  refine RGcase (t := 5) rfl (fun h38 => ?_) (fun h38 => ?_)
  ·
    have hs : (⟨n, d⟩ : Fr).sh = false := by simpa using h38
    refine RGoff h38 rfl rfl ?_
    refine RGoff h38 rfl rfl ?_
    refine RGoff h38 rfl rfl ?_
    refine RGoff h38 rfl rfl ?_
    refine RGoff h38 rfl rfl ?_
    refine R2 (d_pickT h38) rfl rfl ?_
    refine R1 d_move rfl ?_
    refine RGoff1 rfl rfl ?_
    refine RGoff1 rfl rfl ?_
    refine RGoff1 rfl rfl ?_
    refine RGoff1 rfl rfl ?_
    refine RGoff1 rfl rfl ?_
    refine R2 (d_pickT rfl) rfl rfl ?_
    refine R1 d_move rfl ?_
    refine RGoff1 rfl rfl ?_
    refine RGoff1 rfl rfl ?_
    refine RGoff1 rfl rfl ?_
    refine RGoff1 rfl rfl ?_
    refine R2 (d_pickT rfl) rfl rfl ?_
    refine R1 d_move rfl ?_
    refine RGoff1 rfl rfl ?_
    refine RGoff1 rfl rfl ?_
    refine RGoff1 rfl rfl ?_
    refine RGoff1 rfl rfl ?_
    refine RGoff1 rfl rfl ?_
    refine RGoff1 rfl rfl ?_
    refine R2 (d_pickT rfl) rfl rfl ?_
    refine R_nil (by kernel_rfl) ?_
    refine K_then ?_
    refine C_bT rfl rfl ?_
    refine C_seq ?_
    refine C_reg ?_
    refine R1 d_assign rfl ?_
    refine R_nil (by kernel_rfl) ?_
    refine K_then ?_
    refine C_ret ?_
    refine K_retT ?_
    exact E_ret1 Plain.mk' rfl rfl (Le.bool (by simp only [Fr.valid, hs, Bool.false_and]))
  ·
    have hs : (⟨n, d⟩ : Fr).sh = true := by simpa using h38
    refine RGon h38 rfl (d_fieldO fo92_0 rfl) rfl ⟨rfl, trivial⟩ trivial trivial ?_
    refine RGon h38 rfl (d_fieldO fo50_0 rfl) rfl ⟨rfl, trivial⟩ trivial trivial ?_
    refine RG_loadF h38 rfl rfl (0) ti48 rfl rfl rfl (At.t (At.g 0 rfl rfl) (At.g 0 rfl rfl)) rfl ?_
    refine RGon h38 rfl (d_call (c_WValid n) fi119 rfl) rfl ⟨rfl, trivial⟩ trivial trivial ?_
    refine RGon h38 rfl d_not rfl ⟨rfl, trivial⟩ trivial trivial ?_
    refine R2 (d_pickF h38) rfl rfl ?_
    refine R1 d_move rfl ?_
    refine RGcase (t := 12) rfl (fun h38_2 => ?_) (fun h38_2 => ?_)
    ·
      have hv1 : n.valid = false := by simpa using h38_2
      refine RGoff h38_2 rfl rfl ?_
      refine RGoff h38_2 rfl rfl ?_
      refine RGoff h38_2 rfl rfl ?_
      refine RGoff h38_2 rfl rfl ?_
      refine RGoff h38_2 rfl rfl ?_
      refine R2 (d_pickT h38_2) rfl rfl ?_
      refine R1 d_move rfl ?_
      refine RGoff1 rfl rfl ?_
      refine RGoff1 rfl rfl ?_
      refine RGoff1 rfl rfl ?_
      refine RGoff1 rfl rfl ?_
      refine R2 (d_pickT rfl) rfl rfl ?_
      refine R1 d_move rfl ?_
      refine RGoff1 rfl rfl ?_
      refine RGoff1 rfl rfl ?_
      refine RGoff1 rfl rfl ?_
      refine RGoff1 rfl rfl ?_
      refine RGoff1 rfl rfl ?_
      refine RGoff1 rfl rfl ?_
      refine R2 (d_pickT rfl) rfl rfl ?_
      refine R_nil (by kernel_rfl) ?_
      refine K_then ?_
      refine C_bT rfl rfl ?_
      refine C_seq ?_
      refine C_reg ?_
      refine R1 d_assign rfl ?_
      refine R_nil (by kernel_rfl) ?_
      refine K_then ?_
      refine C_ret ?_
      refine K_retT ?_
      exact E_ret1 Plain.mk' rfl rfl (Le.bool (by simp only [Fr.valid, hv1, Bool.and_false, Bool.false_and]))
    ·
      have hv1 : n.valid = true := by simpa using h38_2
      refine RGon h38_2 rfl (d_fieldO fo92_0 rfl) rfl ⟨rfl, trivial⟩ trivial trivial ?_
      refine RGon h38_2 rfl (d_fieldO fo50_1 rfl) rfl ⟨rfl, trivial⟩ trivial trivial ?_
      refine RG_loadF h38_2 rfl rfl (0) ti48 rfl rfl rfl (At.t (At.g 0 rfl rfl) (At.g 1 rfl rfl)) rfl ?_
      refine RGon h38_2 rfl (d_call (c_WValid d) fi119 rfl) rfl ⟨rfl, trivial⟩ trivial trivial ?_
      refine RGon h38_2 rfl d_not rfl ⟨rfl, trivial⟩ trivial trivial ?_
      refine R2 (d_pickF h38_2) rfl rfl ?_
      refine R1 d_move rfl ?_
      refine RGcase (t := 19) rfl (fun h38_3 => ?_) (fun h38_3 => ?_)
      ·
        have hv2 : d.valid = false := by simpa using h38_3
        refine RGoff h38_3 rfl rfl ?_
        refine RGoff h38_3 rfl rfl ?_
        refine RGoff h38_3 rfl rfl ?_
        refine RGoff h38_3 rfl rfl ?_
        refine R2 (d_pickT h38_3) rfl rfl ?_
        refine R1 d_move rfl ?_
        refine RGoff1 rfl rfl ?_
        refine RGoff1 rfl rfl ?_
        refine RGoff1 rfl rfl ?_
        refine RGoff1 rfl rfl ?_
        refine RGoff1 rfl rfl ?_
        refine RGoff1 rfl rfl ?_
        refine R2 (d_pickT rfl) rfl rfl ?_
        refine R_nil (by kernel_rfl) ?_
        refine K_then ?_
        refine C_bT rfl rfl ?_
        refine C_seq ?_
        refine C_reg ?_
        refine R1 d_assign rfl ?_
        refine R_nil (by kernel_rfl) ?_
        refine K_then ?_
        refine C_ret ?_
        refine K_retT ?_
        exact E_ret1 Plain.mk' rfl rfl (Le.bool (by simp only [Fr.valid, hv2, Bool.and_false, Bool.false_and]))
      ·
        have hv2 : d.valid = true := by simpa using h38_3
        obtain ⟨x, rfl, hxl⟩ := Wh.of_valid hn hv1
        obtain ⟨y, rfl, hyl⟩ := Wh.of_valid hd hv2
        have ix := int_wh x
        have iy := int_wh y
        refine RGon h38_3 rfl (d_fieldO fo92_0 rfl) rfl ⟨rfl, trivial⟩ trivial trivial ?_
        refine RGon h38_3 rfl (d_fieldO fo50_1 rfl) rfl ⟨rfl, trivial⟩ trivial trivial ?_
        refine RGon h38_3 rfl (d_fieldO fo48_0 rfl) rfl ⟨rfl, trivial⟩ trivial trivial ?_
        refine RG_loadF h38_3 rfl rfl (0) ti4 rfl rfl rfl (At.t (At.g 0 rfl rfl) (At.t (At.g 1 rfl rfl) (At.g 0 rfl rfl))) rfl ?_
        refine R2 (d_pickF h38_3) rfl rfl ?_
        refine R1 d_move rfl ?_
        refine RGcase (t := 25) rfl (fun h38_4 => ?_) (fun h38_4 => ?_)
        ·
          have hy0 : ¬ 0 < y := by have : y < 0 := of_decide_eq_true h38_4; omega
          refine RGoff h38_4 rfl rfl ?_
          refine RGoff h38_4 rfl rfl ?_
          refine RGoff h38_4 rfl rfl ?_
          refine RGoff h38_4 rfl rfl ?_
          refine RGoff h38_4 rfl rfl ?_
          refine RGoff h38_4 rfl rfl ?_
          refine R2 (d_pickT h38_4) rfl rfl ?_
          refine R_nil (by kernel_rfl) ?_
          refine K_then ?_
          refine C_bT rfl rfl ?_
          refine C_seq ?_
          refine C_reg ?_
          refine R1 d_assign rfl ?_
          refine R_nil (by kernel_rfl) ?_
          refine K_then ?_
          refine C_ret ?_
          refine K_retT ?_
          exact E_ret1 Plain.mk' rfl rfl (Le.bool (by simp only [Fr.valid, ix, iy, decide_eq_false hy0, Bool.and_false, Bool.false_and]))
        ·
          refine RGon h38_4 rfl (d_fieldO fo92_0 rfl) rfl ⟨rfl, trivial⟩ trivial trivial ?_
          refine RGon h38_4 rfl (d_fieldO fo50_1 rfl) rfl ⟨rfl, trivial⟩ trivial trivial ?_
          refine RGon h38_4 rfl (d_fieldO fo48_1 rfl) rfl ⟨rfl, trivial⟩ trivial trivial ?_
          refine RG_loadF h38_4 rfl rfl (0) ti46 rfl rfl rfl (At.t (At.g 0 rfl rfl) (At.t (At.g 1 rfl rfl) (At.g 1 rfl rfl))) rfl ?_
          refine RGon h38_4 rfl (d_len Tryz.underlying46) rfl ⟨rfl, trivial⟩ trivial trivial ?_
          refine RGon h38_4 rfl d_eql rfl ⟨rfl, rfl, trivial⟩ trivial trivial ?_
          refine R2 (d_pickF h38_4) rfl rfl ?_
          refine R_nil (by kernel_rfl) ?_
          refine K_then ?_
          refine C_if rfl (fun h38_5 => ?_) (fun h38_5 => ?_)
          ·
            have hy0 : ¬ 0 < y := fun h => by
              have h5 : (((wh y).l.length : Nat) : Int) = 0 := h38_5
              have h2 : (wh y).l.length = 0 := by omega
              have h3 : y.natAbs = 0 := (dig_eq_nil two_le_L).1 (List.length_eq_zero_iff.1 h2)
              omega
            refine C_seq ?_
            refine C_reg ?_
            refine R1 d_assign rfl ?_
            refine R_nil (by kernel_rfl) ?_
            refine K_then ?_
            refine C_ret ?_
            refine K_retT ?_
            exact E_ret1 Plain.mk' rfl rfl (Le.bool (by simp only [Fr.valid, ix, iy, decide_eq_false hy0, Bool.and_false, Bool.false_and]))
          ·
            have h5 : ¬ (((wh y).l.length : Nat) : Int) = 0 := h38_5
            have hy0 : 0 < y := pos_of_wh h38_4 (by omega)
            refine C_skip ?_
            refine K_then ?_
            refine C_seq ?_
            refine C_key (k := 1) (e' := ⟨92, 4, true, [.val (tTm ⟨wh x, wh y⟩)]⟩) rfl rfl ?_
            refine C_reg ?_
            refine RE (d_load (0) ti92 rfl rfl) ⟨rfl, trivial⟩ ⟨rfl, trivial⟩ trivial ?_
            refine R1 (d_call (c_Tintegral _) fi117 rfl) rfl ?_
            refine R1 d_move rfl ?_
            refine RGcase (t := 35) rfl (fun h41 => ?_) (fun h41 => ?_)
            ·
              have hy1 : y = 1 := by have h := of_decide_eq_true h41; exact wh_inj (h.trans wh_one.symm)
              refine RGoff h41 rfl rfl ?_
              refine RGoff h41 rfl rfl ?_
              refine RGoff h41 rfl rfl ?_
              refine RGoff h41 rfl rfl ?_
              refine RGoff h41 rfl rfl ?_
              refine RGoff h41 rfl rfl ?_
              refine RGoff h41 rfl rfl ?_
              refine RGoff h41 rfl rfl ?_
              refine R2 (d_pickT h41) rfl rfl ?_
              refine R1 d_assign rfl ?_
              refine R_nil (by kernel_rfl) ?_
              refine K_then ?_
              refine C_ret ?_
              exact E_ret1 Plain.mk' rfl rfl (Le.bool (by simp only [Fr.valid, ix, iy, hs, hv1, hv2, Bool.true_and]; rw [hy1]; simp))
            ·
              have hy1 : ¬ y = 1 := fun h => of_decide_eq_false h41 (by show wh y = _; rw [h, wh_one])
              refine RGon h41 rfl (d_fieldO fo92_0 rfl) rfl ⟨rfl, trivial⟩ trivial trivial ?_
              refine RGon h41 rfl (d_fieldO fo50_0 rfl) rfl ⟨rfl, trivial⟩ trivial trivial ?_
              refine RG_loadF h41 rfl rfl (0) ti48 rfl rfl rfl (At.t (At.g 0 rfl rfl) (At.g 0 rfl rfl)) rfl ?_
              refine RGon h41 rfl (d_fieldO fo92_0 rfl) rfl ⟨rfl, trivial⟩ trivial trivial ?_
              refine RGon h41 rfl (d_fieldO fo50_1 rfl) rfl ⟨rfl, trivial⟩ trivial trivial ?_
              refine RG_loadF h41 rfl rfl (0) ti48 rfl rfl rfl (At.t (At.g 0 rfl rfl) (At.g 1 rfl rfl)) rfl ?_
              refine RGon h41 rfl (d_call (c_divisor x y hxl hyl) fi85 rfl) rfl ⟨rfl, rfl, trivial⟩ trivial trivial ?_
              refine RGon h41 rfl (d_call (c_isOne _) fi120 rfl) rfl ⟨rfl, trivial⟩ trivial trivial ?_
              refine R2 (d_pickF h41) rfl rfl ?_
              refine R1 d_assign rfl ?_
              refine R_nil (by kernel_rfl) ?_
              refine K_then ?_
              refine C_ret ?_
              exact E_ret1 Plain.mk' rfl rfl (Le.bool (by simp only [Fr.valid, ix, iy, hs, hv1, hv2, decide_eq_true hy0, Bool.true_and]; exact gcd_one_dec))
theorem c_FValid (f : Fr) (hn : Dig 65536 f.n.l) (hd : Dig 65536 f.d.l) :
    Ct Tryz.prog 49 [tFr f] (tB f.valid) := by
  refine Ct.intro Tryz.func49 rfl Tryz.ntmps49 rfl ?_
  intro w F
  refine C_seq ?_
  refine C_reg ?_
  refine RE (d_box (k := 1) ti50 rfl) ⟨rfl, trivial⟩ trivial ⟨rfl, trivial⟩ ?_
  refine R1 d_assign rfl ?_
  refine R_nil (by kernel_rfl) ?_
  refine K_then ?_
  refine C_seq ?_
  refine C_reg ?_
  refine RE (d_load (0) ti50 rfl rfl) ⟨rfl, trivial⟩ ⟨rfl, trivial⟩ trivial ?_
  refine R1 (d_build (r := tS [⟨4, true, tFr f⟩]) (ts := [(0, tFr f)]) bu92 zr92.2 ⟨_, rfl⟩ rfl ⟨_, _, _, _, rfl, Up.f (fs := [⟨4, true, (tS [⟨2, true, (tS [⟨1, false, (tE (.bool false))⟩, ⟨1, false, (tLm [])⟩])⟩, ⟨2, true, (tS [⟨1, false, (tE (.bool false))⟩, ⟨1, false, (tLm [])⟩])⟩])⟩]) (f := ⟨4, true, (tS [⟨2, true, (tS [⟨1, false, (tE (.bool false))⟩, ⟨1, false, (tLm [])⟩])⟩, ⟨2, true, (tS [⟨1, false, (tE (.bool false))⟩, ⟨1, false, (tLm [])⟩])⟩])⟩) (fs' := [⟨4, true, tFr f⟩]) 0 rfl rfl rfl, inferInstance, Le.refl⟩) rfl ?_
  refine R1 (d_call (c_Tvalid f hn hd) fi80 rfl) rfl ?_
  refine R1 d_assign rfl ?_
  refine R_nil (by kernel_rfl) ?_
  refine K_then ?_
  refine C_ret ?_
  exact E_ret1 Plain.mk' rfl rfl Le.refl
theorem c_FValidQ (q : Rat) (h : short q) : Ct Tryz.prog 49 [tFr (fr q)] (tB true) := by
  have := c_FValid (fr q) (dig_Dig two_le_L _) (dig_Dig two_le_L _)
  rw [valid_fr h] at this; exact this
theorem c_FallValid1 (q : Rat) (h : short q) :
    Ct Tryz.prog 84 [tFr (fr q)] (tB false) := by
  refine Ct.intro Tryz.func84 rfl Tryz.ntmps84 rfl ?_
  intro w F
  refine C_seq ?_
  refine C_reg ?_
  refine RE (d_box (k := 1) ti50 rfl) ⟨rfl, trivial⟩ trivial ⟨rfl, trivial⟩ ?_
  refine R1 d_assign rfl ?_
  refine R_nil (by kernel_rfl) ?_
  refine K_then ?_
  refine C_seq ?_
  refine C_reg ?_
  refine RE (d_load (0) ti50 rfl rfl) ⟨rfl, trivial⟩ ⟨rfl, trivial⟩ trivial ?_
  refine R1 (d_call (c_FValidQ q h) fi49 rfl) rfl ?_
  refine R1 d_not rfl ?_
  refine R1 d_assign rfl ?_
  refine R_nil (by kernel_rfl) ?_
  refine K_then ?_
  refine C_ret ?_
  exact E_ret1 Plain.mk' rfl rfl Le.refl
theorem getD_mem {α : Type} {l : List α} {i : Nat} {d : α} (h : i < l.length) : l.getD i d ∈ l := by
  rw [List.getD_eq_getElem?_getD, List.getElem?_eq_getElem h]; exact List.getElem_mem h
theorem c_FIndex (qs : List Rat) (h : ∀ q ∈ qs, short q) :
    Ct Tryz.prog 121 [tL 4 true (fun q : Rat => tFr (fr q)) qs, tE (.func (.func 84) #[] #[])] (tI (-1)) := by
  refine Ct.intro Tryz.func121 rfl Tryz.ntmps121 rfl ?_
  intro w F
  refine C_len (s := 0) rfl (fun hl0 => ?_)
  refine C_seq ?_
  refine C_reg ?_
  refine R1 d_assign rfl ?_
  refine R_nil (by kernel_rfl) ?_
  refine K_then ?_
  refine C_seq ?_
  refine C_seq ?_
  refine C_reg ?_
  refine R1 d_move rfl ?_
  refine R1 (d_len Tryz.underlying43) rfl ?_
  refine R1 d_move rfl ?_
  refine R_nil (by kernel_rfl) ?_
  refine K_then ?_
  refine C_block ?_
  refine C_loop (fun (i : Nat) => i ≤ qs.length) (fun (i : Nat) => upd (upd (upd (upd (fun _ => none) 0 (some (.val (tL 4 true (fun q : Rat => tFr (fr q)) qs)))) 1 (some (.val (tE (.func (.func 84) #[] #[]))))) 7 (some (.val (tI qs.length)))) 8 (some (.val (tI i)))) (fun (i : Nat) => fun _ => none) (nm []) (fun (i : Nat) => qs.length - i) (0) (Nat.zero_le _) (Sub.int rfl (by first | omega | rfl | (dsimp only; omega)) (Sub.int rfl (by first | omega | rfl | (dsimp only; omega)) (Sub.cons rfl (Sub.cons rfl Sub.nil)))) SubK.nil (SupG.val (SupG.val (SupG.val (SupG.val SupG.nil)))) SupH.nil (lkOk rfl) ?_
  intro i hI
  refine C_seq ?_
  refine C_reg ?_
  refine R2 d_lss rfl rfl ?_
  refine R_nil (by kernel_rfl) ?_
  refine K_then ?_
  refine C_seq ?_
  refine C_if rfl (fun h108 => ?_) (fun h108 => ?_)
  ·
    refine C_skip ?_
    refine K_then ?_
    refine C_seq ?_
    refine C_block ?_
    refine C_seq ?_
    refine C_reg ?_
    refine R1 d_move rfl ?_
    refine R1 d_assign rfl ?_
    refine R_nil (by kernel_rfl) ?_
    refine K_then ?_
    refine C_seq ?_
    refine C_reg ?_
    refine R1 d_move rfl ?_
    refine R1 d_move rfl ?_
    refine R1 d_move rfl ?_
    refine R2 (d_indexP sl43 i (by omega) (gD (l := qs) (n := i) (d := 0) (by omega))) rfl rfl ?_
    refine R1 (d_loadP ti50) rfl ?_
    refine R2 (d_callF (c_FallValid1 (qs.getD i 0) (h _ (getD_mem (by omega)))) fi84 rfl) rfl rfl ?_
    refine R_nil (by kernel_rfl) ?_
    refine K_then ?_
    refine C_bF rfl rfl ?_
    refine C_skip ?_
    refine K_norB ?_
    refine K_then ?_
    refine C_reg ?_
    refine R2 (d_add (by first | exact wr64 (by omega) (by omega))) rfl rfl ?_
    refine R1 d_move rfl ?_
    refine R_nil (by kernel_rfl) ?_
    exact K_fam (i + 1) ⟨(by omega), (by omega)⟩ (Sub.int rfl (by first | omega | rfl | (dsimp only; omega)) (Sub.int rfl (by first | omega | rfl | (dsimp only; omega)) (Sub.cons rfl (Sub.cons rfl Sub.nil)))) SubK.nil (SupG.val (SupG.val (SupG.val (SupG.val SupG.nil)))) SupH.nil (lkOk rfl)
  ·
    refine C_exit ?_
    refine K_exT ?_
    refine K_exT ?_
    refine K_exB ?_
    refine K_then ?_
    refine C_seq ?_
    refine C_reg ?_
    refine R1 d_assign rfl ?_
    refine R_nil (by kernel_rfl) ?_
    refine K_then ?_
    refine C_ret ?_
    exact E_ret1 Plain.mk' rfl rfl Le.refl
theorem c_FContains (qs : List Rat) (h : ∀ q ∈ qs, short q) :
    Ct Tryz.prog 83 [tL 4 true (fun q : Rat => tFr (fr q)) qs, tE (.func (.func 84) #[] #[])] (tB false) := by
  refine Ct.intro Tryz.func83 rfl Tryz.ntmps83 rfl ?_
  intro w F
  refine C_seq ?_
  refine C_reg ?_
  refine R1 d_assign rfl ?_
  refine R_nil (by kernel_rfl) ?_
  refine K_then ?_
  refine C_seq ?_
  refine C_reg ?_
  refine R1 d_move rfl ?_
  refine R1 d_move rfl ?_
  refine R2 (d_call (c_FIndex qs h) fi121 rfl) rfl rfl ?_
  refine R2 d_geq rfl rfl ?_
  refine R1 d_assign rfl ?_
  refine R_nil (by kernel_rfl) ?_
  refine K_then ?_
  refine C_ret ?_
  exact E_ret1 Plain.mk' rfl rfl (Le.bool rfl)
theorem c_FallValid (qs : List Rat) (h : ∀ q ∈ qs, short q) :
    Ct Tryz.prog 52 [tL 4 true (fun q : Rat => tFr (fr q)) qs] (tB true) := by
  refine Ct.intro Tryz.func52 rfl Tryz.ntmps52 rfl ?_
  intro w F
  refine C_seq ?_
  refine C_reg ?_
  refine R1 d_assign rfl ?_
  refine R_nil (by kernel_rfl) ?_
  refine K_then ?_
  refine C_seq ?_
  refine C_reg ?_
  refine R1 d_move rfl ?_
  refine R2 (d_call (c_FContains qs h) fi83 rfl) rfl rfl ?_
  refine R1 d_not rfl ?_
  refine R1 d_assign rfl ?_
  refine R_nil (by kernel_rfl) ?_
  refine K_then ?_
  refine C_ret ?_
  exact E_ret1 Plain.mk' rfl rfl Le.refl
theorem mul_divInt (a b : Rat) : Rat.divInt (a.num * b.num) ((a.den : Int) * (b.den : Int)) = a * b := by
  rw [Rat.mul_def, ← Int.natCast_mul, Rat.divInt_ofNat, Rat.normalize_eq_mkRat]
theorem add_divInt (a b : Rat) : Rat.divInt (a.num * (b.den : Int) + b.num * (a.den : Int)) ((a.den : Int) * (b.den : Int)) = a + b := by
  rw [Rat.add_def, ← Int.natCast_mul, Rat.divInt_ofNat, Rat.normalize_eq_mkRat]
theorem sub_divInt (a b : Rat) : Rat.divInt (a.num * (b.den : Int) + -(b.num * (a.den : Int))) ((a.den : Int) * (b.den : Int)) = a - b := by
  rw [Rat.sub_def, ← Int.natCast_mul, Rat.divInt_ofNat, Rat.normalize_eq_mkRat, Int.sub_eq_add_neg]
theorem den_mul_ne {a b : Rat} : ((a.den : Int) * (b.den : Int)) ≠ 0 := by
  have h1 := a.den_nz; have h2 := b.den_nz
  exact Int.mul_ne_zero (by omega) (by omega)
theorem c_FMul (a b : Rat) (ha : short a) (hb : short b) :
    Ct Tryz.prog 25 [tFr (fr a), tFr (fr b)] (tT [tFr (resF (a * b)), tI (resFE (a * b))]) := by
  obtain ⟨an, ad⟩ := ha
  obtain ⟨bn, bd⟩ := hb
  have hbd := b.den_nz
  have had := a.den_nz
  have m1 : len16 (a.num * b.num) ≤ 256 + 256 := len16_mul an bn
  have m2 : len16 ((a.den : Int) * (b.den : Int)) ≤ 256 + 256 := len16_mul ad bd
  have ha : short a := ⟨an, ad⟩
  have hb : short b := ⟨bn, bd⟩
  refine Ct.intro Tryz.func25 rfl Tryz.ntmps25 rfl ?_
  intro w F
  refine C_seq ?_
  refine C_reg ?_
  refine RE (d_box (k := 2) ti50 rfl) ⟨rfl, trivial⟩ trivial ⟨rfl, trivial⟩ ?_
  refine RE (d_box (k := 3) ti50 rfl) ⟨rfl, trivial⟩ trivial ⟨rfl, trivial⟩ ?_
  refine RE (d_alloc (k := 4) (n := 4) (agg := true) zr50.1 zr50.2 rfl) trivial trivial ⟨rfl, trivial⟩ ?_
  refine R1 d_assign rfl ?_
  refine R_nil (by kernel_rfl) ?_
  refine K_then ?_
  refine C_seq ?_
  refine C_seq ?_
  refine C_reg ?_
  refine RE (d_load (0) ti50 rfl rfl) ⟨rfl, trivial⟩ ⟨rfl, trivial⟩ trivial ?_
  refine RE (d_load (0) ti50 rfl rfl) ⟨rfl, trivial⟩ ⟨rfl, trivial⟩ trivial ?_
  refine R2 (d_vals (n := 2) (f := fun q : Rat => tFr (fr q)) [a, b] Tryz.underlying43 el50 zf50 rfl (fun _ => inferInstance) rfl rfl rfl) rfl rfl ?_
  refine R1 (d_call (c_FallValid [a, b] (by simp; exact ⟨ha, hb⟩)) fi52 rfl) rfl ?_
  refine R1 d_not rfl ?_
  refine R_nil (by kernel_rfl) ?_
  refine K_then ?_
  refine C_bF rfl rfl ?_
  refine C_skip ?_
  refine K_then ?_
  refine C_seq ?_
  refine C_draw mixed ?_
  refine R1 (d_fieldO fo50_0 rfl) rfl ?_
  refine R_loadF (0) ti48 rfl rfl rfl (At.g 0 rfl rfl) rfl ?_
  refine R1 (d_fieldO fo50_0 rfl) rfl ?_
  refine R_loadF (0) ti48 rfl rfl rfl (At.g 0 rfl rfl) rfl ?_
  refine R2 (d_call (c_ftimes (a.num) (b.num) (by omega) (by omega) (by omega)) fi55 rfl) rfl rfl ?_
  refine R1 (d_fieldO fo50_1 rfl) rfl ?_
  refine R_loadF (0) ti48 rfl rfl rfl (At.g 1 rfl rfl) rfl ?_
  refine R1 (d_fieldO fo50_1 rfl) rfl ?_
  refine R_loadF (0) ti48 rfl rfl rfl (At.g 1 rfl rfl) rfl ?_
  refine R2 (d_call (c_ftimes ((a.den : Int)) ((b.den : Int)) (by omega) (by omega) (by omega)) fi55 rfl) rfl rfl ?_
  refine R2 (d_call (c_lowest _ _ (by omega) (by omega) den_mul_ne) fi53 rfl) rfl rfl ?_
  refine R1 (d_call (c_Tresult _) fi56 rfl) rfl ?_
  refine R1 (d_extract rfl) rfl ?_
  refine R1 (d_extract rfl) rfl ?_
  refine RE (d_store (es := 4) (agg := true) (0) ti50 rfl rfl rfl) ⟨rfl, rfl, trivial⟩ ⟨rfl, trivial⟩ trivial ?_
  refine R1 d_assign rfl ?_
  refine R_end (by kernel_rfl) ?_
  refine K_then ?_
  refine C_ret ?_
  exact E_retN Plain.mk' (rs := [.cell 4 50, .tmp 5]) rfl rfl ⟨⟨_, _, _, _, _, rfl, rfl, ti50, (Le.of (by rw [sh_fr, mul_divInt]; by_cases hs : short (a * b) <;> simp [resF, hs]))⟩, ⟨_, rfl, (Le.int (by rw [sh_fr, mul_divInt]; by_cases hs : short (a * b) <;> simp [resFE, hs]))⟩, trivial⟩
theorem c_FAdd (a b : Rat) (ha : short a) (hb : short b) :
    Ct Tryz.prog 23 [tFr (fr a), tFr (fr b)] (tT [tFr (resF (a + b)), tI (resFE (a + b))]) := by
  obtain ⟨an, ad⟩ := ha
  obtain ⟨bn, bd⟩ := hb
  have hbd := b.den_nz
  have had := a.den_nz
  have m1 : len16 (a.num * (b.den : Int)) ≤ 256 + 256 := len16_mul an bd
  have m2 : len16 (b.num * (a.den : Int)) ≤ 256 + 256 := len16_mul bn ad
  have m3 : len16 ((a.den : Int) * (b.den : Int)) ≤ 256 + 256 := len16_mul ad bd
  have m4 := len16_add m1 m2
  have ha : short a := ⟨an, ad⟩
  have hb : short b := ⟨bn, bd⟩
  refine Ct.intro Tryz.func23 rfl Tryz.ntmps23 rfl ?_
  intro w F
  refine C_seq ?_
  refine C_reg ?_
  refine RE (d_box (k := 2) ti50 rfl) ⟨rfl, trivial⟩ trivial ⟨rfl, trivial⟩ ?_
  refine RE (d_box (k := 3) ti50 rfl) ⟨rfl, trivial⟩ trivial ⟨rfl, trivial⟩ ?_
  refine RE (d_alloc (k := 4) (n := 4) (agg := true) zr50.1 zr50.2 rfl) trivial trivial ⟨rfl, trivial⟩ ?_
  refine R1 d_assign rfl ?_
  refine R_nil (by kernel_rfl) ?_
  refine K_then ?_
  refine C_seq ?_
  refine C_seq ?_
  refine C_reg ?_
  refine RE (d_load (0) ti50 rfl rfl) ⟨rfl, trivial⟩ ⟨rfl, trivial⟩ trivial ?_
  refine RE (d_load (0) ti50 rfl rfl) ⟨rfl, trivial⟩ ⟨rfl, trivial⟩ trivial ?_
  refine R2 (d_vals (n := 2) (f := fun q : Rat => tFr (fr q)) [a, b] Tryz.underlying43 el50 zf50 rfl (fun _ => inferInstance) rfl rfl rfl) rfl rfl ?_
  refine R1 (d_call (c_FallValid [a, b] (by simp; exact ⟨ha, hb⟩)) fi52 rfl) rfl ?_
  refine R1 d_not rfl ?_
  refine R_nil (by kernel_rfl) ?_
  refine K_then ?_
  refine C_bF rfl rfl ?_
  refine C_skip ?_
  refine K_then ?_
  refine C_seq ?_
  refine C_draw mixed ?_
  refine R1 (d_fieldO fo50_0 rfl) rfl ?_
  refine R_loadF (0) ti48 rfl rfl rfl (At.g 0 rfl rfl) rfl ?_
  refine R1 (d_fieldO fo50_1 rfl) rfl ?_
  refine R_loadF (0) ti48 rfl rfl rfl (At.g 1 rfl rfl) rfl ?_
  refine R2 (d_call (c_ftimes (a.num) ((b.den : Int)) (by omega) (by omega) (by omega)) fi55 rfl) rfl rfl ?_
  refine R1 (d_fieldO fo50_0 rfl) rfl ?_
  refine R_loadF (0) ti48 rfl rfl rfl (At.g 0 rfl rfl) rfl ?_
  refine R1 (d_fieldO fo50_1 rfl) rfl ?_
  refine R_loadF (0) ti48 rfl rfl rfl (At.g 1 rfl rfl) rfl ?_
  refine R2 (d_call (c_ftimes (b.num) ((a.den : Int)) (by omega) (by omega) (by omega)) fi55 rfl) rfl rfl ?_
  refine R2 (d_call (c_fplus (a.num * (b.den : Int)) (b.num * (a.den : Int)) (by omega) (by omega) (by omega)) fi54 rfl) rfl rfl ?_
  refine R1 (d_fieldO fo50_1 rfl) rfl ?_
  refine R_loadF (0) ti48 rfl rfl rfl (At.g 1 rfl rfl) rfl ?_
  refine R1 (d_fieldO fo50_1 rfl) rfl ?_
  refine R_loadF (0) ti48 rfl rfl rfl (At.g 1 rfl rfl) rfl ?_
  refine R2 (d_call (c_ftimes ((a.den : Int)) ((b.den : Int)) (by omega) (by omega) (by omega)) fi55 rfl) rfl rfl ?_
  refine R2 (d_call (c_lowest _ _ (by omega) (by omega) den_mul_ne) fi53 rfl) rfl rfl ?_
  refine R1 (d_call (c_Tresult _) fi56 rfl) rfl ?_
  refine R1 (d_extract rfl) rfl ?_
  refine R1 (d_extract rfl) rfl ?_
  refine RE (d_store (es := 4) (agg := true) (0) ti50 rfl rfl rfl) ⟨rfl, rfl, trivial⟩ ⟨rfl, trivial⟩ trivial ?_
  refine R1 d_assign rfl ?_
  refine R_end (by kernel_rfl) ?_
  refine K_then ?_
  refine C_ret ?_
  exact E_retN Plain.mk' (rs := [.cell 4 50, .tmp 5]) rfl rfl ⟨⟨_, _, _, _, _, rfl, rfl, ti50, (Le.of (by rw [sh_fr, add_divInt]; by_cases hs : short (a + b) <;> simp [resF, hs]))⟩, ⟨_, rfl, (Le.int (by rw [sh_fr, add_divInt]; by_cases hs : short (a + b) <;> simp [resFE, hs]))⟩, trivial⟩
theorem c_FSub (a b : Rat) (ha : short a) (hb : short b) :
    Ct Tryz.prog 26 [tFr (fr a), tFr (fr b)] (tT [tFr (resF (a - b)), tI (resFE (a - b))]) := by
  obtain ⟨an, ad⟩ := ha
  obtain ⟨bn, bd⟩ := hb
  have hbd := b.den_nz
  have had := a.den_nz
  have m1 : len16 (a.num * (b.den : Int)) ≤ 256 + 256 := len16_mul an bd
  have m2 : len16 (b.num * (a.den : Int)) ≤ 256 + 256 := len16_mul bn ad
  have m3 : len16 ((a.den : Int) * (b.den : Int)) ≤ 256 + 256 := len16_mul ad bd
  have m2n := len16_neg (b.num * (a.den : Int))
  have m4 := len16_add m1 (m2n ▸ m2)
  have ha : short a := ⟨an, ad⟩
  have hb : short b := ⟨bn, bd⟩
  refine Ct.intro Tryz.func26 rfl Tryz.ntmps26 rfl ?_
  intro w F
  refine C_seq ?_
  refine C_reg ?_
  refine RE (d_box (k := 2) ti50 rfl) ⟨rfl, trivial⟩ trivial ⟨rfl, trivial⟩ ?_
  refine RE (d_box (k := 3) ti50 rfl) ⟨rfl, trivial⟩ trivial ⟨rfl, trivial⟩ ?_
  refine RE (d_alloc (k := 4) (n := 4) (agg := true) zr50.1 zr50.2 rfl) trivial trivial ⟨rfl, trivial⟩ ?_
  refine R1 d_assign rfl ?_
  refine R_nil (by kernel_rfl) ?_
  refine K_then ?_
  refine C_seq ?_
  refine C_seq ?_
  refine C_reg ?_
  refine RE (d_load (0) ti50 rfl rfl) ⟨rfl, trivial⟩ ⟨rfl, trivial⟩ trivial ?_
  refine RE (d_load (0) ti50 rfl rfl) ⟨rfl, trivial⟩ ⟨rfl, trivial⟩ trivial ?_
  refine R2 (d_vals (n := 2) (f := fun q : Rat => tFr (fr q)) [a, b] Tryz.underlying43 el50 zf50 rfl (fun _ => inferInstance) rfl rfl rfl) rfl rfl ?_
  refine R1 (d_call (c_FallValid [a, b] (by simp; exact ⟨ha, hb⟩)) fi52 rfl) rfl ?_
  refine R1 d_not rfl ?_
  refine R_nil (by kernel_rfl) ?_
  refine K_then ?_
  refine C_bF rfl rfl ?_
  refine C_skip ?_
  refine K_then ?_
  refine C_seq ?_
  refine C_draw mixed ?_
  refine R1 (d_fieldO fo50_0 rfl) rfl ?_
  refine R_loadF (0) ti48 rfl rfl rfl (At.g 0 rfl rfl) rfl ?_
  refine R1 (d_fieldO fo50_1 rfl) rfl ?_
  refine R_loadF (0) ti48 rfl rfl rfl (At.g 1 rfl rfl) rfl ?_
  refine R2 (d_call (c_ftimes (a.num) ((b.den : Int)) (by omega) (by omega) (by omega)) fi55 rfl) rfl rfl ?_
  refine R1 (d_fieldO fo50_0 rfl) rfl ?_
  refine R_loadF (0) ti48 rfl rfl rfl (At.g 0 rfl rfl) rfl ?_
  refine R1 (d_fieldO fo50_1 rfl) rfl ?_
  refine R_loadF (0) ti48 rfl rfl rfl (At.g 1 rfl rfl) rfl ?_
  refine R2 (d_call (c_ftimes (b.num) ((a.den : Int)) (by omega) (by omega) (by omega)) fi55 rfl) rfl rfl ?_
  refine R1 (d_call (c_opposite (b.num * (a.den : Int)) (by omega)) fi58 rfl) rfl ?_
  refine R2 (d_call (c_fplus (a.num * (b.den : Int)) (-(b.num * (a.den : Int))) (by omega) (by omega) (by omega)) fi54 rfl) rfl rfl ?_
  refine R1 (d_fieldO fo50_1 rfl) rfl ?_
  refine R_loadF (0) ti48 rfl rfl rfl (At.g 1 rfl rfl) rfl ?_
  refine R1 (d_fieldO fo50_1 rfl) rfl ?_
  refine R_loadF (0) ti48 rfl rfl rfl (At.g 1 rfl rfl) rfl ?_
  refine R2 (d_call (c_ftimes ((a.den : Int)) ((b.den : Int)) (by omega) (by omega) (by omega)) fi55 rfl) rfl rfl ?_
  refine R2 (d_call (c_lowest _ _ (by omega) (by omega) den_mul_ne) fi53 rfl) rfl rfl ?_
  refine R1 (d_call (c_Tresult _) fi56 rfl) rfl ?_
  refine R1 (d_extract rfl) rfl ?_
  refine R1 (d_extract rfl) rfl ?_
  refine RE (d_store (es := 4) (agg := true) (0) ti50 rfl rfl rfl) ⟨rfl, rfl, trivial⟩ ⟨rfl, trivial⟩ trivial ?_
  refine R1 d_assign rfl ?_
  refine R_end (by kernel_rfl) ?_
  refine K_then ?_
  refine C_ret ?_
  exact E_retN Plain.mk' (rs := [.cell 4 50, .tmp 5]) rfl rfl ⟨⟨_, _, _, _, _, rfl, rfl, ti50, (Le.of (by rw [sh_fr, sub_divInt]; by_cases hs : short (a - b) <;> simp [resF, hs]))⟩, ⟨_, rfl, (Le.int (by rw [sh_fr, sub_divInt]; by_cases hs : short (a - b) <;> simp [resFE, hs]))⟩, trivial⟩
theorem c_FCmp (a b : Rat) (ha : short a) (hb : short b) :
    Ct Tryz.prog 28 [tFr (fr a), tFr (fr b)] (tI (cmpQ a b)) := by
  obtain ⟨an, ad⟩ := ha
  obtain ⟨bn, bd⟩ := hb
  have hbd := b.den_nz
  have had := a.den_nz
  have m1 : len16 (a.num * (b.den : Int)) ≤ 256 + 256 := len16_mul an bd
  have m2 : len16 (b.num * (a.den : Int)) ≤ 256 + 256 := len16_mul bn ad
  have ha : short a := ⟨an, ad⟩
  have hb : short b := ⟨bn, bd⟩
  refine Ct.intro Tryz.func28 rfl Tryz.ntmps28 rfl ?_
  intro w F
  refine C_seq ?_
  refine C_reg ?_
  refine RE (d_box (k := 2) ti50 rfl) ⟨rfl, trivial⟩ trivial ⟨rfl, trivial⟩ ?_
  refine RE (d_box (k := 3) ti50 rfl) ⟨rfl, trivial⟩ trivial ⟨rfl, trivial⟩ ?_
  refine R1 d_assign rfl ?_
  refine R_nil (by kernel_rfl) ?_
  refine K_then ?_
  refine C_seq ?_
  refine C_seq ?_
  refine C_reg ?_
  refine RE (d_load (0) ti50 rfl rfl) ⟨rfl, trivial⟩ ⟨rfl, trivial⟩ trivial ?_
  refine RE (d_load (0) ti50 rfl rfl) ⟨rfl, trivial⟩ ⟨rfl, trivial⟩ trivial ?_
  refine R2 (d_vals (n := 2) (f := fun q : Rat => tFr (fr q)) [a, b] Tryz.underlying43 el50 zf50 rfl (fun _ => inferInstance) rfl rfl rfl) rfl rfl ?_
  refine R1 (d_call (c_FallValid [a, b] (by simp; exact ⟨ha, hb⟩)) fi52 rfl) rfl ?_
  refine R1 d_not rfl ?_
  refine R_nil (by kernel_rfl) ?_
  refine K_then ?_
  refine C_bF rfl rfl ?_
  refine C_skip ?_
  refine K_then ?_
  refine C_seq ?_
  refine C_draw mixed ?_
  refine R1 (d_fieldO fo50_0 rfl) rfl ?_
  refine R_loadF (0) ti48 rfl rfl rfl (At.g 0 rfl rfl) rfl ?_
  refine R1 (d_fieldO fo50_1 rfl) rfl ?_
  refine R_loadF (0) ti48 rfl rfl rfl (At.g 1 rfl rfl) rfl ?_
  refine R2 (d_call (c_ftimes (a.num) ((b.den : Int)) (by omega) (by omega) (by omega)) fi55 rfl) rfl rfl ?_
  refine R1 (d_fieldO fo50_0 rfl) rfl ?_
  refine R_loadF (0) ti48 rfl rfl rfl (At.g 0 rfl rfl) rfl ?_
  refine R1 (d_fieldO fo50_1 rfl) rfl ?_
  refine R_loadF (0) ti48 rfl rfl rfl (At.g 1 rfl rfl) rfl ?_
  refine R2 (d_call (c_ftimes (b.num) ((a.den : Int)) (by omega) (by omega) (by omega)) fi55 rfl) rfl rfl ?_
  refine R2 (d_call (c_Cmp (a.num * (b.den : Int)) (b.num * (a.den : Int)) (by omega) (by omega)) fi59 rfl) rfl rfl ?_
  refine R1 d_assign rfl ?_
  refine R_end (by kernel_rfl) ?_
  refine K_then ?_
  refine C_ret ?_
  exact E_ret1 Plain.mk' rfl rfl (Le.int (cmpQ_eq a b))
theorem c_FSame (f g : Fr) :
    Ct Tryz.prog 24 [tFr f, tFr g] (tB (decide (f = g))) := by
  refine Ct.intro Tryz.func24 rfl Tryz.ntmps24 rfl ?_
  intro w F
  refine C_seq ?_
  refine C_reg ?_
  refine RE (d_box (k := 2) ti50 rfl) ⟨rfl, trivial⟩ trivial ⟨rfl, trivial⟩ ?_
  refine RE (d_box (k := 3) ti50 rfl) ⟨rfl, trivial⟩ trivial ⟨rfl, trivial⟩ ?_
  refine R1 d_assign rfl ?_
  refine R_nil (by kernel_rfl) ?_
  refine K_then ?_
  refine C_seq ?_
  refine C_reg ?_
  refine R1 (d_fieldO fo50_0 rfl) rfl ?_
  refine R_loadF (0) ti48 rfl rfl rfl (At.g 0 rfl rfl) rfl ?_
  refine R1 (d_fieldO fo50_0 rfl) rfl ?_
  refine R_loadF (0) ti48 rfl rfl rfl (At.g 0 rfl rfl) rfl ?_
  refine R2 (d_call (c_WSame _ _) fi57 rfl) rfl rfl ?_
  refine R1 d_move rfl ?_
  refine RGcase (t := 10) rfl (fun h107 => ?_) (fun h107 => ?_)
  ·
    have hn : f.n = g.n := of_decide_eq_true h107
    refine RGon h107 rfl (d_fieldO fo50_1 rfl) rfl ⟨rfl, trivial⟩ trivial trivial ?_
    refine RG_loadF h107 rfl rfl (0) ti48 rfl rfl rfl (At.g 1 rfl rfl) rfl ?_
    refine RGon h107 rfl (d_fieldO fo50_1 rfl) rfl ⟨rfl, trivial⟩ trivial trivial ?_
    refine RG_loadF h107 rfl rfl (0) ti48 rfl rfl rfl (At.g 1 rfl rfl) rfl ?_
    refine RGon h107 rfl (d_call (c_WSame _ _) fi57 rfl) rfl ⟨rfl, rfl, trivial⟩ trivial trivial ?_
    refine R2 (d_pickT h107) rfl rfl ?_
    refine R1 d_assign rfl ?_
    refine R_nil (by kernel_rfl) ?_
    refine K_then ?_
    refine C_ret ?_
    exact E_ret1 Plain.mk' rfl rfl (Le.bool (by obtain ⟨a, b⟩ := f; obtain ⟨c, d⟩ := g; simp only at hn; subst hn; simp))
  ·
    have hn : f.n ≠ g.n := of_decide_eq_false h107
    refine RGoff h107 rfl rfl ?_
    refine RGoff h107 rfl rfl ?_
    refine RGoff h107 rfl rfl ?_
    refine RGoff h107 rfl rfl ?_
    refine RGoff h107 rfl rfl ?_
    refine R2 (d_pickF h107) rfl rfl ?_
    refine R1 d_assign rfl ?_
    refine R_nil (by kernel_rfl) ?_
    refine K_then ?_
    refine C_ret ?_
    exact E_ret1 Plain.mk' rfl rfl (Le.bool (decide_eq_false (fun h => hn (by rw [h]))).symm)
theorem c_FFromInt (n : Int) (h1 : -9223372036854775808 ≤ n) (h2 : n ≤ 9223372036854775807) :
    Ct Tryz.prog 22 [tI n] (tFr (fr (n : Rat))) := by
  refine Ct.intro Tryz.func22 rfl Tryz.ntmps22 rfl ?_
  intro w F
  refine C_seq ?_
  refine C_reg ?_
  refine RE (d_alloc (k := 2) (n := 4) (agg := true) zr50.1 zr50.2 rfl) trivial trivial ⟨rfl, trivial⟩ ?_
  refine R_nil (by kernel_rfl) ?_
  refine K_then ?_
  refine C_seq ?_
  refine C_reg ?_
  refine R1 d_move rfl ?_
  refine R1 (d_call (c_FromInt n h1 h2) fi51 rfl) rfl ?_
  refine R1 (d_call (c_FromInt 1 (by decide) (by decide)) fi51 rfl) rfl ?_
  refine R2 (d_build (r := tS [⟨2, true, tWh (wh n)⟩, ⟨2, true, tWh (wh 1)⟩]) (ts := [(0, tWh (wh n)), (1, tWh (wh 1))]) bu50 zr50.2 ⟨_, rfl⟩ rfl ⟨_, _, _, _, rfl, Up.f (fs := [⟨2, true, (tS [⟨1, false, (tE (.bool false))⟩, ⟨1, false, (tLm [])⟩])⟩, ⟨2, true, (tS [⟨1, false, (tE (.bool false))⟩, ⟨1, false, (tLm [])⟩])⟩]) (f := ⟨2, true, (tS [⟨1, false, (tE (.bool false))⟩, ⟨1, false, (tLm [])⟩])⟩) (fs' := [⟨2, true, tWh (wh n)⟩, ⟨2, true, (tS [⟨1, false, (tE (.bool false))⟩, ⟨1, false, (tLm [])⟩])⟩]) 0 rfl rfl rfl, inferInstance, ⟨_, _, _, _, rfl, Up.f (fs := [⟨2, true, tWh (wh n)⟩, ⟨2, true, (tS [⟨1, false, (tE (.bool false))⟩, ⟨1, false, (tLm [])⟩])⟩]) (f := ⟨2, true, (tS [⟨1, false, (tE (.bool false))⟩, ⟨1, false, (tLm [])⟩])⟩) (fs' := [⟨2, true, tWh (wh n)⟩, ⟨2, true, tWh (wh 1)⟩]) 1 rfl rfl rfl, inferInstance, Le.refl⟩⟩) rfl rfl ?_
  refine RE (d_store (es := 4) (agg := true) (0) ti50 rfl rfl rfl) ⟨rfl, rfl, trivial⟩ ⟨rfl, trivial⟩ trivial ?_
  refine R_nil (by kernel_rfl) ?_
  refine K_then ?_
  refine C_ret ?_
  exact E_retC Plain.mk' rfl ⟨_, _, _, _, _, rfl, rfl, ti50, (Le.of (by rw [fr, Rat.num_intCast, Rat.den_intCast]; rfl))⟩
theorem c_FNeg (q : Rat) (h : short q) :
    Ct Tryz.prog 27 [tFr (fr q)] (tT [tFr (fr (-q)), tI 0]) := by
  obtain ⟨qn, qd⟩ := h
  have h : short q := ⟨qn, qd⟩
  have hd2 := len16_neg (q.den : Int)
  refine Ct.intro Tryz.func27 rfl Tryz.ntmps27 rfl ?_
  intro w F
  refine C_seq ?_
  refine C_reg ?_
  refine RE (d_box (k := 1) ti50 rfl) ⟨rfl, trivial⟩ trivial ⟨rfl, trivial⟩ ?_
  refine RE (d_alloc (k := 2) (n := 4) (agg := true) zr50.1 zr50.2 rfl) trivial trivial ⟨rfl, trivial⟩ ?_
  refine R1 d_assign rfl ?_
  refine R_nil (by kernel_rfl) ?_
  refine K_then ?_
  refine C_seq ?_
  refine C_seq ?_
  refine C_reg ?_
  refine RE (d_load (0) ti50 rfl rfl) ⟨rfl, trivial⟩ ⟨rfl, trivial⟩ trivial ?_
  refine R1 (d_call (c_FValidQ q h) fi49 rfl) rfl ?_
  refine R1 d_not rfl ?_
  refine R_nil (by kernel_rfl) ?_
  refine K_then ?_
  refine C_bF rfl rfl ?_
  refine C_skip ?_
  refine K_then ?_
  refine C_seq ?_
  refine C_draw mixed ?_
  refine R1 (d_fieldO fo50_0 rfl) rfl ?_
  refine R_loadF (0) ti48 rfl rfl rfl (At.g 0 rfl rfl) rfl ?_
  refine R1 (d_call (c_opposite q.num (by omega)) fi58 rfl) rfl ?_
  refine R1 (d_fieldO fo50_1 rfl) rfl ?_
  refine R_loadF (0) ti48 rfl rfl rfl (At.g 1 rfl rfl) rfl ?_
  refine R1 (d_call (c_opposite (q.den : Int) (by omega)) fi58 rfl) rfl ?_
  refine R1 (d_call (c_opposite (-(q.den : Int)) (by omega)) fi58 rfl) rfl ?_
  refine R2 (d_build (r := tS [⟨2, true, tWh (wh (-q.num))⟩, ⟨2, true, tWh (wh (- -(q.den : Int)))⟩]) (ts := [(0, tWh (wh (-q.num))), (1, tWh (wh (- -(q.den : Int))))]) bu50 zr50.2 ⟨_, rfl⟩ rfl ⟨_, _, _, _, rfl, Up.f (fs := [⟨2, true, (tS [⟨1, false, (tE (.bool false))⟩, ⟨1, false, (tLm [])⟩])⟩, ⟨2, true, (tS [⟨1, false, (tE (.bool false))⟩, ⟨1, false, (tLm [])⟩])⟩]) (f := ⟨2, true, (tS [⟨1, false, (tE (.bool false))⟩, ⟨1, false, (tLm [])⟩])⟩) (fs' := [⟨2, true, tWh (wh (-q.num))⟩, ⟨2, true, (tS [⟨1, false, (tE (.bool false))⟩, ⟨1, false, (tLm [])⟩])⟩]) 0 rfl rfl rfl, inferInstance, ⟨_, _, _, _, rfl, Up.f (fs := [⟨2, true, tWh (wh (-q.num))⟩, ⟨2, true, (tS [⟨1, false, (tE (.bool false))⟩, ⟨1, false, (tLm [])⟩])⟩]) (f := ⟨2, true, (tS [⟨1, false, (tE (.bool false))⟩, ⟨1, false, (tLm [])⟩])⟩) (fs' := [⟨2, true, tWh (wh (-q.num))⟩, ⟨2, true, tWh (wh (- -(q.den : Int)))⟩]) 1 rfl rfl rfl, inferInstance, Le.refl⟩⟩) rfl rfl ?_
  refine RE (d_store (es := 4) (agg := true) (0) ti50 rfl rfl rfl) ⟨rfl, rfl, trivial⟩ ⟨rfl, trivial⟩ trivial ?_
  refine R1 d_assign rfl ?_
  refine R_end (by kernel_rfl) ?_
  refine K_then ?_
  refine C_ret ?_
  exact E_retN Plain.mk' (rs := [.cell 2 50, .tmp 3]) rfl rfl ⟨⟨_, _, _, _, _, rfl, rfl, ti50, (Le.of (by rw [fr, Int.neg_neg]; rfl))⟩, ⟨_, rfl, Le.refl⟩, trivial⟩
theorem c_FInt (q : Rat) (h : short q) :
    Ct Tryz.prog 79 [tFr (fr q)] (tT [tI (if q.den = 1 ∧ fits q.num = true then q.num else 0), tI (if q.den = 1 then (if fits q.num then 0 else 3) else 22)]) := by
  obtain ⟨qn, qd⟩ := h
  have h : short q := ⟨qn, qd⟩
  refine Ct.intro Tryz.func79 rfl Tryz.ntmps79 rfl ?_
  intro w F
  refine C_seq ?_
  refine C_reg ?_
  refine RE (d_box (k := 1) ti50 rfl) ⟨rfl, trivial⟩ trivial ⟨rfl, trivial⟩ ?_
  refine R1 d_assign rfl ?_
  refine R1 d_assign rfl ?_
  refine R_nil (by kernel_rfl) ?_
  refine K_then ?_
  refine C_seq ?_
  refine C_seq ?_
  refine C_reg ?_
  refine RE (d_load (0) ti50 rfl rfl) ⟨rfl, trivial⟩ ⟨rfl, trivial⟩ trivial ?_
  refine R1 (d_call (c_FValidQ q h) fi49 rfl) rfl ?_
  refine R1 d_not rfl ?_
  refine R_nil (by kernel_rfl) ?_
  refine K_then ?_
  refine C_bF rfl rfl ?_
  refine C_skip ?_
  refine K_then ?_
  refine C_seq ?_
  refine C_seq ?_
  refine C_reg ?_
  refine RE (d_load (0) ti50 rfl rfl) ⟨rfl, trivial⟩ ⟨rfl, trivial⟩ trivial ?_
  refine R1 (d_build (r := tS [⟨4, true, tFr (fr q)⟩]) (ts := [(0, tFr (fr q))]) bu92 zr92.2 ⟨_, rfl⟩ rfl ⟨_, _, _, _, rfl, Up.f (fs := [⟨4, true, (tS [⟨2, true, (tS [⟨1, false, (tE (.bool false))⟩, ⟨1, false, (tLm [])⟩])⟩, ⟨2, true, (tS [⟨1, false, (tE (.bool false))⟩, ⟨1, false, (tLm [])⟩])⟩])⟩]) (f := ⟨4, true, (tS [⟨2, true, (tS [⟨1, false, (tE (.bool false))⟩, ⟨1, false, (tLm [])⟩])⟩, ⟨2, true, (tS [⟨1, false, (tE (.bool false))⟩, ⟨1, false, (tLm [])⟩])⟩])⟩) (fs' := [⟨4, true, tFr (fr q)⟩]) 0 rfl rfl rfl, inferInstance, Le.refl⟩) rfl ?_
  refine R1 (d_call (c_Tintegral _) fi117 rfl) rfl ?_
  refine R1 d_not rfl ?_
  refine R_nil (by kernel_rfl) ?_
  refine K_then ?_
  refine C_cond rfl (fun h248 => ?_) (fun h248 => ?_)
  ·
    have hd1 : ¬ q.den = 1 := fun hh => by
      have e : (fr q).d = ⟨false, [1]⟩ := by show wh (q.den : Int) = _; rw [hh]; exact wh_one
      rw [e] at h248; simp at h248
    refine C_seq ?_
    refine C_reg ?_
    refine R1 d_assign rfl ?_
    refine R1 d_assign rfl ?_
    refine R_nil (by kernel_rfl) ?_
    refine K_then ?_
    refine C_ret ?_
    refine K_retT ?_
    exact E_ret2 Plain.mk' rfl rfl rfl (Le.int (by rw [if_neg (fun hh => hd1 hh.1)])) (Le.int (by rw [if_neg hd1]))
  ·
    have hd1 : q.den = 1 := by
      have e : (fr q).d = ⟨false, [1]⟩ := by simpa using h248
      have e2 : wh (q.den : Int) = wh 1 := e.trans wh_one.symm
      have := wh_inj e2; omega
    refine C_skip ?_
    refine K_then ?_
    refine C_seq ?_
    refine C_reg ?_
    refine R1 (d_fieldO fo50_0 rfl) rfl ?_
    refine R_loadF (0) ti48 rfl rfl rfl (At.g 0 rfl rfl) rfl ?_
    refine R1 (d_call (c_WInt q.num (by omega)) fi118 rfl) rfl ?_
    refine R1 (d_extract rfl) rfl ?_
    refine R1 (d_extract rfl) rfl ?_
    refine R1 d_assign rfl ?_
    refine R1 d_assign rfl ?_
    refine R_nil (by kernel_rfl) ?_
    refine K_then ?_
    refine C_ret ?_
    exact E_ret2 Plain.mk' rfl rfl rfl (Le.int (by by_cases hf : fits q.num = true <;> simp [hf, hd1])) (Le.int (by rw [if_pos hd1]))
end An.S

/- Package frac: rounding down. -/
namespace An.S
open Go Go.Proofs An
set_option maxHeartbeats 2000000
theorem ti175 : TyI Tryz.prog 175 3 true := ⟨by kernel_rfl, by kernel_rfl⟩
theorem ti176 : TyI Tryz.prog 176 1 false := ⟨by kernel_rfl, by kernel_rfl⟩
theorem ti177 : TyI Tryz.prog 177 6 true := ⟨by kernel_rfl, by kernel_rfl⟩
theorem fi114 : FnI Tryz.prog 114 := ⟨_, Tryz.func114, by kernel_rfl, rfl⟩
theorem fi115 : FnI Tryz.prog 115 := ⟨_, Tryz.func115, by kernel_rfl, rfl⟩
theorem fi116 : FnI Tryz.prog 116 := ⟨_, Tryz.func116, by kernel_rfl, rfl⟩
theorem fi174 : FnI Tryz.prog 174 := ⟨_, Tryz.func174, by kernel_rfl, rfl⟩
theorem zr175 : (Tryz.prog.info? 175).bind (·.zero) = some (.agg #[.bool false, .bool false, .int .i64 0]) ∧ ∀ F w, (tS [⟨1, false, (tE (.bool false))⟩, ⟨1, false, (tE (.bool false))⟩, ⟨1, false, (tE (.int .i64 0))⟩]).p F w (.agg #[.bool false, .bool false, .int .i64 0]) := ⟨by kernel_rfl, fun _ _ => ⟨_, rfl, rfl, ⟨fun _ => rfl, rfl⟩, ⟨fun _ => rfl, rfl⟩, ⟨fun _ => rfl, rfl⟩, trivial⟩⟩
theorem bu175 : BuI Tryz.prog 175 (fun i => [(0, 1), (1, 1), (2, 1)][i]?) (.agg #[.bool false, .bool false, .int .i64 0]) := BuI.struct Tryz.underlying175 (by kernel_rfl) (by kernel_rfl)
theorem zf177 : Flat 6 true (.agg #[.nilFunc, .nilFunc, .nilFunc, .nilFunc, .nilFunc, .nilFunc]) := flat_agg (by intro u hu; simp at hu; rcases hu with rfl | rfl | rfl | rfl | rfl | rfl <;> rfl)
theorem c_up3 (p q : Bool) (h : Int) :
    Ct Tryz.prog 174 [tS [⟨1, false, tB p⟩, ⟨1, false, tB q⟩, ⟨1, false, tI h⟩]] (tB false) := by
  refine Ct.intro Tryz.func174 rfl Tryz.ntmps174 rfl ?_
  intro w F
  refine C_seq ?_
  refine C_reg ?_
  refine RE (d_box (k := 1) ti175 rfl) ⟨rfl, trivial⟩ trivial ⟨rfl, trivial⟩ ?_
  refine R1 d_assign rfl ?_
  refine R_nil (by kernel_rfl) ?_
  refine K_then ?_
  refine C_seq ?_
  refine C_reg ?_
  refine R1 d_assign rfl ?_
  refine R_nil (by kernel_rfl) ?_
  refine K_then ?_
  refine C_ret ?_
  exact E_ret1 Plain.mk' rfl rfl Le.refl
theorem flat_up : Flat 6 true (.agg #[.func (.func 172) #[] #[], .func (.func 173) #[] #[], .func (.func 174) #[] #[], .func (.func 175) #[] #[], .func (.func 176) #[] #[], .func (.func 177) #[] #[]]) := flat_agg (by intro u hu; simp at hu; rcases hu with rfl | rfl | rfl | rfl | rfl | rfl <;> rfl)
theorem c_upwards  :
    Ct Tryz.prog 116 [] (tE (.agg #[.func (.func 172) #[] #[], .func (.func 173) #[] #[], .func (.func 174) #[] #[], .func (.func 175) #[] #[], .func (.func 176) #[] #[], .func (.func 177) #[] #[]])) := by
  refine Ct.intro Tryz.func116 rfl Tryz.ntmps116 rfl ?_
  intro w F
  refine C_seq ?_
  refine C_reg ?_
  refine RE (d_alloc (k := 0) (n := 6) (agg := true) (t := tE (.agg #[.nilFunc, .nilFunc, .nilFunc, .nilFunc, .nilFunc, .nilFunc])) (z := .agg #[.nilFunc, .nilFunc, .nilFunc, .nilFunc, .nilFunc, .nilFunc]) (by kernel_rfl) (fun _ _ => rfl) (he := shapeE zf177) rfl) trivial trivial ⟨rfl, trivial⟩ ?_
  refine R_nil (by kernel_rfl) ?_
  refine K_then ?_
  refine C_seq ?_
  refine C_reg ?_
  refine RE (d_buildE (vs := [.func (.func 172) #[] #[], .func (.func 173) #[] #[], .func (.func 174) #[] #[], .func (.func 175) #[] #[], .func (.func 176) #[] #[], .func (.func 177) #[] #[]]) (r := .agg #[.func (.func 172) #[] #[], .func (.func 173) #[] #[], .func (.func 174) #[] #[], .func (.func 175) #[] #[], .func (.func 176) #[] #[], .func (.func 177) #[] #[]]) rfl (fun w => by kernel_rfl)) ⟨rfl, rfl, rfl, rfl, rfl, rfl, trivial⟩ trivial trivial ?_
  refine RE (d_store (es := 6) (agg := true) (he := shapeEE flat_up) (0) ti177 rfl rfl rfl) ⟨rfl, rfl, trivial⟩ ⟨rfl, trivial⟩ trivial ?_
  refine R_nil (by kernel_rfl) ?_
  refine K_then ?_
  refine C_ret ?_
  exact E_retC Plain.mk' rfl ⟨_, _, _, _, _, rfl, rfl, ti177, Le.refl⟩
theorem rnd_divInt (k : Int) (u : Rat) : Rat.divInt (k * u.num) (u.den : Int) = (k : Rat) * u := by
  have h := mul_divInt (k : Rat) u
  rw [Rat.num_intCast, Rat.den_intCast] at h
  rw [← h]; simp
theorem c_FRound3 (a u : Rat) (ha : short a) (hu : short u) (hun : 0 < u.num) :
    Ct Tryz.prog 78 [tFr (fr a), tFr (fr u), tE (.int .u8 3)] (tT [tFr (resF (((((a.num * (u.den : Int)) / ((a.den : Int) * u.num)) : Int) : Rat) * u)), tI (resFE (((((a.num * (u.den : Int)) / ((a.den : Int) * u.num)) : Int) : Rat) * u))]) := by
  obtain ⟨an, ad⟩ := ha
  obtain ⟨un, ud⟩ := hu
  have had := a.den_nz
  have hud := u.den_nz
  have hY : 0 < ((a.den : Int) * u.num) := Int.mul_pos (by omega) hun
  have m1 : len16 (a.num * (u.den : Int)) ≤ 256 + 256 := len16_mul an ud
  have m2 : len16 ((a.den : Int) * u.num) ≤ 256 + 256 := len16_mul ad un
  have m3 : len16 ((a.num * (u.den : Int)) / ((a.den : Int) * u.num)) ≤ 512 := len16_div m1
  have m4 : len16 ((a.num * (u.den : Int)) % ((a.den : Int) * u.num)) ≤ 512 := Nat.le_trans (len16_le (by have h1 := Int.emod_nonneg (a.num * (u.den : Int)) (Int.ne_of_gt hY); have h2 := Int.emod_lt_of_pos (a.num * (u.den : Int)) hY; omega)) m2
  have m5 : len16 (((a.num * (u.den : Int)) % ((a.den : Int) * u.num)) + ((a.num * (u.den : Int)) % ((a.den : Int) * u.num))) ≤ 512 + 1 := len16_add m4 m4
  have m6 : len16 (((a.num * (u.den : Int)) / ((a.den : Int) * u.num)) * u.num) ≤ 512 + 256 := len16_mul m3 un
  have ha : short a := ⟨an, ad⟩
  have hu : short u := ⟨un, ud⟩
  refine Ct.intro Tryz.func78 rfl Tryz.ntmps78 rfl ?_
  intro w F
  refine C_seq ?_
  refine C_reg ?_
  refine RE (d_box (k := 3) ti50 rfl) ⟨rfl, trivial⟩ trivial ⟨rfl, trivial⟩ ?_
  refine RE (d_box (k := 4) ti50 rfl) ⟨rfl, trivial⟩ trivial ⟨rfl, trivial⟩ ?_
  refine RE (d_alloc (k := 6) (n := 4) (agg := true) zr50.1 zr50.2 rfl) trivial trivial ⟨rfl, trivial⟩ ?_
  refine R1 d_assign rfl ?_
  refine R_nil (by kernel_rfl) ?_
  refine K_then ?_
  refine C_seq ?_
  refine C_seq ?_
  refine C_reg ?_
  refine RE (d_load (0) ti50 rfl rfl) ⟨rfl, trivial⟩ ⟨rfl, trivial⟩ trivial ?_
  refine RE (d_load (0) ti50 rfl rfl) ⟨rfl, trivial⟩ ⟨rfl, trivial⟩ trivial ?_
  refine R2 (d_vals (n := 2) (f := fun q : Rat => tFr (fr q)) [a, u] Tryz.underlying43 el50 zf50 rfl (fun _ => inferInstance) rfl rfl rfl) rfl rfl ?_
  refine R1 (d_call (c_FallValid [a, u] (by simp; exact ⟨ha, hu⟩)) fi52 rfl) rfl ?_
  refine R1 d_not rfl ?_
  refine R1 d_move rfl ?_
  refine RGon rfl rfl d_move rfl ⟨rfl, trivial⟩ trivial trivial ?_
  refine RGon rfl rfl d_lss rfl ⟨rfl, rfl, trivial⟩ trivial trivial ?_
  refine R2 (d_pickF rfl) rfl rfl ?_
  refine R1 d_move rfl ?_
  refine RGon (decide_eq_false (by omega)) rfl d_move rfl ⟨rfl, trivial⟩ trivial trivial ?_
  refine RGon (decide_eq_false (by omega)) rfl d_gtr rfl ⟨rfl, rfl, trivial⟩ trivial trivial ?_
  refine R2 (d_pickF (decide_eq_false (by omega))) rfl rfl ?_
  refine R_nil (by kernel_rfl) ?_
  refine K_then ?_
  refine C_bF rfl (decide_eq_false (by omega)) ?_
  refine C_skip ?_
  refine K_then ?_
  refine C_seq ?_
  refine C_seq ?_
  refine C_reg ?_
  refine RE (d_load (0) ti50 rfl rfl) ⟨rfl, trivial⟩ ⟨rfl, trivial⟩ trivial ?_
  refine R1 (d_build (r := tS [⟨4, true, tFr (fr u)⟩]) (ts := [(0, tFr (fr u))]) bu92 zr92.2 ⟨_, rfl⟩ rfl ⟨_, _, _, _, rfl, Up.f (fs := [⟨4, true, (tS [⟨2, true, (tS [⟨1, false, (tE (.bool false))⟩, ⟨1, false, (tLm [])⟩])⟩, ⟨2, true, (tS [⟨1, false, (tE (.bool false))⟩, ⟨1, false, (tLm [])⟩])⟩])⟩]) (f := ⟨4, true, (tS [⟨2, true, (tS [⟨1, false, (tE (.bool false))⟩, ⟨1, false, (tLm [])⟩])⟩, ⟨2, true, (tS [⟨1, false, (tE (.bool false))⟩, ⟨1, false, (tLm [])⟩])⟩])⟩) (fs' := [⟨4, true, tFr (fr u)⟩]) 0 rfl rfl rfl, inferInstance, Le.refl⟩) rfl ?_
  refine R1 (d_call (c_Tzero _) fi114 rfl) rfl ?_
  refine R1 d_move rfl ?_
  refine RGon (decide_eq_false (by (intro h; have h2 : u.num.natAbs = 0 := (dig_eq_nil two_le_L).1 (List.length_eq_zero_iff.1 h); omega))) rfl (d_load (0) ti50 rfl rfl) rfl ⟨rfl, trivial⟩ ⟨rfl, trivial⟩ trivial ?_
  refine RGon (decide_eq_false (by (intro h; have h2 : u.num.natAbs = 0 := (dig_eq_nil two_le_L).1 (List.length_eq_zero_iff.1 h); omega))) rfl (d_build (r := tS [⟨4, true, tFr (fr u)⟩]) (ts := [(0, tFr (fr u))]) bu92 zr92.2 ⟨_, rfl⟩ rfl ⟨_, _, _, _, rfl, Up.f (fs := [⟨4, true, (tS [⟨2, true, (tS [⟨1, false, (tE (.bool false))⟩, ⟨1, false, (tLm [])⟩])⟩, ⟨2, true, (tS [⟨1, false, (tE (.bool false))⟩, ⟨1, false, (tLm [])⟩])⟩])⟩]) (f := ⟨4, true, (tS [⟨2, true, (tS [⟨1, false, (tE (.bool false))⟩, ⟨1, false, (tLm [])⟩])⟩, ⟨2, true, (tS [⟨1, false, (tE (.bool false))⟩, ⟨1, false, (tLm [])⟩])⟩])⟩) (fs' := [⟨4, true, tFr (fr u)⟩]) 0 rfl rfl rfl, inferInstance, Le.refl⟩) rfl ⟨rfl, trivial⟩ trivial trivial ?_
  refine RGon (decide_eq_false (by (intro h; have h2 : u.num.natAbs = 0 := (dig_eq_nil two_le_L).1 (List.length_eq_zero_iff.1 h); omega))) rfl (d_call (c_Tnegative _) fi115 rfl) rfl ⟨rfl, trivial⟩ trivial trivial ?_
  refine R2 (d_pickF (decide_eq_false (by (intro h; have h2 : u.num.natAbs = 0 := (dig_eq_nil two_le_L).1 (List.length_eq_zero_iff.1 h); omega)))) rfl rfl ?_
  refine R_nil (by kernel_rfl) ?_
  refine K_then ?_
  refine C_bF rfl (by (exact decide_eq_false (by omega))) ?_
  refine C_skip ?_
  refine K_then ?_
  refine C_seq ?_
  refine C_reg ?_
  refine R1 (d_fieldO fo50_1 rfl) rfl ?_
  refine R_loadF (0) ti48 rfl rfl rfl (At.g 1 rfl rfl) rfl ?_
  refine R1 (d_fieldO fo50_0 rfl) rfl ?_
  refine R_loadF (0) ti48 rfl rfl rfl (At.g 0 rfl rfl) rfl ?_
  refine R2 (d_call (c_ftimes (a.den : Int) u.num (by omega) (by omega) (by omega)) fi55 rfl) rfl rfl ?_
  refine RE (d_alloc (k := 8) (n := 2) (agg := true) zr48.1 zr48.2 rfl) trivial trivial ⟨rfl, trivial⟩ ?_
  refine RE (d_store (es := 2) (agg := true) (0) ti48 rfl rfl rfl) ⟨rfl, rfl, trivial⟩ ⟨rfl, trivial⟩ trivial ?_
  refine R_nil (by kernel_rfl) ?_
  refine K_then ?_
  refine C_seq ?_
  refine C_draw mixed ?_
  refine R1 (d_fieldO fo50_0 rfl) rfl ?_
  refine R_loadF (0) ti48 rfl rfl rfl (At.g 0 rfl rfl) rfl ?_
  refine R1 (d_fieldO fo50_1 rfl) rfl ?_
  refine R_loadF (0) ti48 rfl rfl rfl (At.g 1 rfl rfl) rfl ?_
  refine R2 (d_call (c_ftimes a.num (u.den : Int) (by omega) (by omega) (by omega)) fi55 rfl) rfl rfl ?_
  refine RE (d_load (0) ti48 rfl rfl) ⟨rfl, trivial⟩ ⟨rfl, trivial⟩ trivial ?_
  refine R2 (d_call (c_fdivide (a.num * (u.den : Int)) ((a.den : Int) * u.num) (by omega) (by omega) hY) fi86 rfl) rfl rfl ?_
  refine R1 d_move rfl ?_
  refine R1 (d_extract rfl) rfl ?_
  refine R1 (d_extract rfl) rfl ?_
  refine RE (d_alloc (k := 9) (n := 2) (agg := true) zr48.1 zr48.2 rfl) trivial trivial ⟨rfl, trivial⟩ ?_
  refine RE (d_alloc (k := 10) (n := 2) (agg := true) zr48.1 zr48.2 rfl) trivial trivial ⟨rfl, trivial⟩ ?_
  refine RE (d_store (es := 2) (agg := true) (0) ti48 rfl rfl rfl) ⟨rfl, rfl, trivial⟩ ⟨rfl, trivial⟩ trivial ?_
  refine RE (d_store (es := 2) (agg := true) (0) ti48 rfl rfl rfl) ⟨rfl, rfl, trivial⟩ ⟨rfl, trivial⟩ trivial ?_
  refine R_end (by kernel_rfl) ?_
  refine K_then ?_
  refine C_join (fun (_j : Unit) => True) (fun (_j : Unit) => upd (upd (upd (upd (fun _ => none) 3 (some (.own (.ptr 3 0)))) 4 (some (.own (.ptr 4 0)))) 6 (some (.own (.ptr 6 0)))) 9 (some (.own (.ptr 9 0)))) (fun (_j : Unit) => upd (upd (upd (upd (fun _ => none) 3 (some (⟨50, 4, true, [.val (tFr (fr a))]⟩))) 4 (some (⟨50, 4, true, [.val (tFr (fr u))]⟩))) 6 (some (⟨50, 4, true, [.val (tFr fr0)]⟩))) 9 (some (⟨48, 2, true, [.val (tWh (wh ((a.num * (u.den : Int)) / ((a.den : Int) * u.num))))]⟩))) (nm [3, 4, 6, 9]) ?_ ?_
  ·
    refine C_seq ?_
    refine C_reg ?_
    refine R1 (d_fieldO fo48_1 rfl) rfl ?_
    refine R_loadF (0) ti46 rfl rfl rfl (At.g 1 rfl rfl) rfl ?_
    refine R1 (d_len Tryz.underlying46) rfl ?_
    refine R2 d_gtr rfl rfl ?_
    refine R_nil (by kernel_rfl) ?_
    refine K_then ?_
    refine C_if rfl (fun h37 => ?_) (fun h37 => ?_)
    ·
      refine C_seq ?_
      refine C_draw mixed ?_
      refine RE (d_load (0) ti50 rfl rfl) ⟨rfl, trivial⟩ ⟨rfl, trivial⟩ trivial ?_
      refine R1 (d_build (r := tS [⟨4, true, tFr (fr a)⟩]) (ts := [(0, tFr (fr a))]) bu92 zr92.2 ⟨_, rfl⟩ rfl ⟨_, _, _, _, rfl, Up.f (fs := [⟨4, true, (tS [⟨2, true, (tS [⟨1, false, (tE (.bool false))⟩, ⟨1, false, (tLm [])⟩])⟩, ⟨2, true, (tS [⟨1, false, (tE (.bool false))⟩, ⟨1, false, (tLm [])⟩])⟩])⟩]) (f := ⟨4, true, (tS [⟨2, true, (tS [⟨1, false, (tE (.bool false))⟩, ⟨1, false, (tLm [])⟩])⟩, ⟨2, true, (tS [⟨1, false, (tE (.bool false))⟩, ⟨1, false, (tLm [])⟩])⟩])⟩) (fs' := [⟨4, true, tFr (fr a)⟩]) 0 rfl rfl rfl, inferInstance, Le.refl⟩) rfl ?_
      refine R1 (d_call (c_Tnegative _) fi115 rfl) rfl ?_
      refine R1 (d_fieldO fo48_1 rfl) rfl ?_
      refine R_loadF (0) ti46 rfl rfl rfl (At.g 1 rfl rfl) rfl ?_
      refine R1 (d_len Tryz.underlying46) rfl ?_
      refine R2 d_gtr rfl rfl ?_
      refine R1 d_move rfl ?_
      refine RGcaseD (t := 61) rfl (fun h38 => ?_) (fun h38 => ?_)
      ·
        refine RGon (decide_eq_true h38) rfl (d_fieldO fo48_1 rfl) rfl ⟨rfl, trivial⟩ trivial trivial ?_
        refine RG_loadF (decide_eq_true h38) rfl rfl (0) ti46 rfl rfl rfl (At.g 1 rfl rfl) rfl ?_
        refine RGon (decide_eq_true h38) rfl (d_indexP sl46 (0) (by omega) (gN (by omega))) rfl ⟨rfl, rfl, trivial⟩ trivial trivial ?_
        refine RGon (decide_eq_true h38) rfl (d_loadP ti122) rfl ⟨rfl, trivial⟩ trivial trivial ?_
        refine RGon (decide_eq_true h38) rfl (d_remP (by omega) (by omega)) rfl ⟨rfl, rfl, trivial⟩ trivial trivial ?_
        refine RGon (decide_eq_true h38) rfl d_eql rfl ⟨rfl, rfl, trivial⟩ trivial trivial ?_
        refine R2 (d_pickT (decide_eq_true h38)) rfl rfl ?_
        refine RE (d_load (0) ti48 rfl rfl) ⟨rfl, trivial⟩ ⟨rfl, trivial⟩ trivial ?_
        refine RE (d_load (0) ti48 rfl rfl) ⟨rfl, trivial⟩ ⟨rfl, trivial⟩ trivial ?_
        refine R2 (d_call (c_fplus ((a.num * (u.den : Int)) % ((a.den : Int) * u.num)) ((a.num * (u.den : Int)) % ((a.den : Int) * u.num)) (by omega) (by omega) (by omega)) fi54 rfl) rfl rfl ?_
        refine RE (d_load (0) ti48 rfl rfl) ⟨rfl, trivial⟩ ⟨rfl, trivial⟩ trivial ?_
        refine R2 (d_call (c_Cmp (((a.num * (u.den : Int)) % ((a.den : Int) * u.num)) + ((a.num * (u.den : Int)) % ((a.den : Int) * u.num))) ((a.den : Int) * u.num) (by omega) (by omega)) fi59 rfl) rfl rfl ?_
        refine R3 (d_build (r := tS [⟨1, false, tB (fr a).n.neg⟩, ⟨1, false, tB (decide (((((wh ((a.num * (u.den : Int)) / ((a.den : Int) * u.num))).l.getD 0 0 : Nat) : Int) % 2) = 1))⟩, ⟨1, false, tI (cmpZ (((a.num * (u.den : Int)) % ((a.den : Int) * u.num)) + ((a.num * (u.den : Int)) % ((a.den : Int) * u.num))) ((a.den : Int) * u.num))⟩]) (ts := [(0, tB (fr a).n.neg), (1, tB (decide (((((wh ((a.num * (u.den : Int)) / ((a.den : Int) * u.num))).l.getD 0 0 : Nat) : Int) % 2) = 1))), (2, tI (cmpZ (((a.num * (u.den : Int)) % ((a.den : Int) * u.num)) + ((a.num * (u.den : Int)) % ((a.den : Int) * u.num))) ((a.den : Int) * u.num)))]) bu175 zr175.2 ⟨_, rfl⟩ rfl ⟨_, _, _, _, rfl, Up.f (fs := [⟨1, false, (tE (.bool false))⟩, ⟨1, false, (tE (.bool false))⟩, ⟨1, false, (tE (.int .i64 0))⟩]) (f := ⟨1, false, (tE (.bool false))⟩) (fs' := [⟨1, false, tB (fr a).n.neg⟩, ⟨1, false, (tE (.bool false))⟩, ⟨1, false, (tE (.int .i64 0))⟩]) 0 rfl rfl rfl, inferInstance, ⟨_, _, _, _, rfl, Up.f (fs := [⟨1, false, tB (fr a).n.neg⟩, ⟨1, false, (tE (.bool false))⟩, ⟨1, false, (tE (.int .i64 0))⟩]) (f := ⟨1, false, (tE (.bool false))⟩) (fs' := [⟨1, false, tB (fr a).n.neg⟩, ⟨1, false, tB (decide (((((wh ((a.num * (u.den : Int)) / ((a.den : Int) * u.num))).l.getD 0 0 : Nat) : Int) % 2) = 1))⟩, ⟨1, false, (tE (.int .i64 0))⟩]) 1 rfl rfl rfl, inferInstance, ⟨_, _, _, _, rfl, Up.f (fs := [⟨1, false, tB (fr a).n.neg⟩, ⟨1, false, tB (decide (((((wh ((a.num * (u.den : Int)) / ((a.den : Int) * u.num))).l.getD 0 0 : Nat) : Int) % 2) = 1))⟩, ⟨1, false, (tE (.int .i64 0))⟩]) (f := ⟨1, false, (tE (.int .i64 0))⟩) (fs' := [⟨1, false, tB (fr a).n.neg⟩, ⟨1, false, tB (decide (((((wh ((a.num * (u.den : Int)) / ((a.den : Int) * u.num))).l.getD 0 0 : Nat) : Int) % 2) = 1))⟩, ⟨1, false, tI (cmpZ (((a.num * (u.den : Int)) % ((a.den : Int) * u.num)) + ((a.num * (u.den : Int)) % ((a.den : Int) * u.num))) ((a.den : Int) * u.num))⟩]) 2 rfl rfl rfl, inferInstance, Le.refl⟩⟩⟩) rfl rfl rfl ?_
        refine RE (d_alloc (k := 11) (n := 3) (agg := true) zr175.1 zr175.2 rfl) trivial trivial ⟨rfl, trivial⟩ ?_
        refine RE (d_store (es := 3) (agg := true) (0) ti175 rfl rfl rfl) ⟨rfl, rfl, trivial⟩ ⟨rfl, trivial⟩ trivial ?_
        refine R_end (by kernel_rfl) ?_
        refine K_then ?_
        refine C_seq ?_
        refine C_draw mixed ?_
        refine R0 (d_call c_upwards fi116 rfl)  ?_
        refine R1 d_move rfl ?_
        refine R2 (d_sub (r := 2) (by decide)) rfl rfl ?_
        refine R2 (d_idxA 2 Tryz.underlying177 ti176 rfl (by decide) rfl) rfl rfl ?_
        refine RE (d_load (0) ti175 rfl rfl) ⟨rfl, trivial⟩ ⟨rfl, trivial⟩ trivial ?_
        refine R2 (d_callF (c_up3 _ _ _) fi174 rfl) rfl rfl ?_
        refine R_end (by kernel_rfl) ?_
        refine K_then ?_
        refine C_bF rfl rfl ?_
        refine C_skip ?_
        exact K_fam (()) trivial (Sub.cons rfl (Sub.cons rfl (Sub.cons rfl (Sub.cons rfl Sub.nil)))) ((SubK.consI rfl ImpK.refl) ((SubK.consI rfl ImpK.refl) ((SubK.consI rfl ImpK.refl) ((SubK.consI rfl ImpK.refl) SubK.nil)))) (SupG.own rfl (SupG.own rfl (SupG.own rfl (SupG.own rfl SupG.nil)))) (SupH.cons rfl (supJL rfl) (SupH.cons rfl (supJL rfl) (SupH.cons rfl (supJL rfl) (SupH.cons rfl (supJL rfl) SupH.nil)))) (lkOk rfl)
      ·
        refine RGoff (decide_eq_false h38) rfl rfl ?_
        refine RGoff (decide_eq_false h38) rfl rfl ?_
        refine RGoff (decide_eq_false h38) rfl rfl ?_
        refine RGoff (decide_eq_false h38) rfl rfl ?_
        refine RGoff (decide_eq_false h38) rfl rfl ?_
        refine RGoff (decide_eq_false h38) rfl rfl ?_
        refine R2 (d_pickF (decide_eq_false h38)) rfl rfl ?_
        refine RE (d_load (0) ti48 rfl rfl) ⟨rfl, trivial⟩ ⟨rfl, trivial⟩ trivial ?_
        refine RE (d_load (0) ti48 rfl rfl) ⟨rfl, trivial⟩ ⟨rfl, trivial⟩ trivial ?_
        refine R2 (d_call (c_fplus ((a.num * (u.den : Int)) % ((a.den : Int) * u.num)) ((a.num * (u.den : Int)) % ((a.den : Int) * u.num)) (by omega) (by omega) (by omega)) fi54 rfl) rfl rfl ?_
        refine RE (d_load (0) ti48 rfl rfl) ⟨rfl, trivial⟩ ⟨rfl, trivial⟩ trivial ?_
        refine R2 (d_call (c_Cmp (((a.num * (u.den : Int)) % ((a.den : Int) * u.num)) + ((a.num * (u.den : Int)) % ((a.den : Int) * u.num))) ((a.den : Int) * u.num) (by omega) (by omega)) fi59 rfl) rfl rfl ?_
        refine R3 (d_build (r := tS [⟨1, false, tB (fr a).n.neg⟩, ⟨1, false, tB false⟩, ⟨1, false, tI (cmpZ (((a.num * (u.den : Int)) % ((a.den : Int) * u.num)) + ((a.num * (u.den : Int)) % ((a.den : Int) * u.num))) ((a.den : Int) * u.num))⟩]) (ts := [(0, tB (fr a).n.neg), (1, tB false), (2, tI (cmpZ (((a.num * (u.den : Int)) % ((a.den : Int) * u.num)) + ((a.num * (u.den : Int)) % ((a.den : Int) * u.num))) ((a.den : Int) * u.num)))]) bu175 zr175.2 ⟨_, rfl⟩ rfl ⟨_, _, _, _, rfl, Up.f (fs := [⟨1, false, (tE (.bool false))⟩, ⟨1, false, (tE (.bool false))⟩, ⟨1, false, (tE (.int .i64 0))⟩]) (f := ⟨1, false, (tE (.bool false))⟩) (fs' := [⟨1, false, tB (fr a).n.neg⟩, ⟨1, false, (tE (.bool false))⟩, ⟨1, false, (tE (.int .i64 0))⟩]) 0 rfl rfl rfl, inferInstance, ⟨_, _, _, _, rfl, Up.f (fs := [⟨1, false, tB (fr a).n.neg⟩, ⟨1, false, (tE (.bool false))⟩, ⟨1, false, (tE (.int .i64 0))⟩]) (f := ⟨1, false, (tE (.bool false))⟩) (fs' := [⟨1, false, tB (fr a).n.neg⟩, ⟨1, false, tB false⟩, ⟨1, false, (tE (.int .i64 0))⟩]) 1 rfl rfl rfl, inferInstance, ⟨_, _, _, _, rfl, Up.f (fs := [⟨1, false, tB (fr a).n.neg⟩, ⟨1, false, tB false⟩, ⟨1, false, (tE (.int .i64 0))⟩]) (f := ⟨1, false, (tE (.int .i64 0))⟩) (fs' := [⟨1, false, tB (fr a).n.neg⟩, ⟨1, false, tB false⟩, ⟨1, false, tI (cmpZ (((a.num * (u.den : Int)) % ((a.den : Int) * u.num)) + ((a.num * (u.den : Int)) % ((a.den : Int) * u.num))) ((a.den : Int) * u.num))⟩]) 2 rfl rfl rfl, inferInstance, Le.refl⟩⟩⟩) rfl rfl rfl ?_
        refine RE (d_alloc (k := 11) (n := 3) (agg := true) zr175.1 zr175.2 rfl) trivial trivial ⟨rfl, trivial⟩ ?_
        refine RE (d_store (es := 3) (agg := true) (0) ti175 rfl rfl rfl) ⟨rfl, rfl, trivial⟩ ⟨rfl, trivial⟩ trivial ?_
        refine R_end (by kernel_rfl) ?_
        refine K_then ?_
        refine C_seq ?_
        refine C_draw mixed ?_
        refine R0 (d_call c_upwards fi116 rfl)  ?_
        refine R1 d_move rfl ?_
        refine R2 (d_sub (r := 2) (by decide)) rfl rfl ?_
        refine R2 (d_idxA 2 Tryz.underlying177 ti176 rfl (by decide) rfl) rfl rfl ?_
        refine RE (d_load (0) ti175 rfl rfl) ⟨rfl, trivial⟩ ⟨rfl, trivial⟩ trivial ?_
        refine R2 (d_callF (c_up3 _ _ _) fi174 rfl) rfl rfl ?_
        refine R_end (by kernel_rfl) ?_
        refine K_then ?_
        refine C_bF rfl rfl ?_
        refine C_skip ?_
        exact K_fam (()) trivial (Sub.cons rfl (Sub.cons rfl (Sub.cons rfl (Sub.cons rfl Sub.nil)))) ((SubK.consI rfl ImpK.refl) ((SubK.consI rfl ImpK.refl) ((SubK.consI rfl ImpK.refl) ((SubK.consI rfl ImpK.refl) SubK.nil)))) (SupG.own rfl (SupG.own rfl (SupG.own rfl (SupG.own rfl SupG.nil)))) (SupH.cons rfl (supJL rfl) (SupH.cons rfl (supJL rfl) (SupH.cons rfl (supJL rfl) (SupH.cons rfl (supJL rfl) SupH.nil)))) (lkOk rfl)
    ·
      refine C_skip ?_
      exact K_fam (()) trivial (Sub.cons rfl (Sub.cons rfl (Sub.cons rfl (Sub.cons rfl Sub.nil)))) ((SubK.consI rfl ImpK.refl) ((SubK.consI rfl ImpK.refl) ((SubK.consI rfl ImpK.refl) ((SubK.consI rfl ImpK.refl) SubK.nil)))) (SupG.own rfl (SupG.own rfl (SupG.own rfl (SupG.own rfl SupG.nil)))) (SupH.cons rfl (supJL rfl) (SupH.cons rfl (supJL rfl) (SupH.cons rfl (supJL rfl) (SupH.cons rfl (supJL rfl) SupH.nil)))) (lkOk rfl)
  ·
    intro _j hj
    refine C_seq ?_
    refine C_draw mixed ?_
    refine RE (d_load (0) ti48 rfl rfl) ⟨rfl, trivial⟩ ⟨rfl, trivial⟩ trivial ?_
    refine R1 (d_fieldO fo50_0 rfl) rfl ?_
    refine R_loadF (0) ti48 rfl rfl rfl (At.g 0 rfl rfl) rfl ?_
    refine R2 (d_call (c_ftimes ((a.num * (u.den : Int)) / ((a.den : Int) * u.num)) u.num (by omega) (by omega) (by omega)) fi55 rfl) rfl rfl ?_
    refine R1 (d_fieldO fo50_1 rfl) rfl ?_
    refine R_loadF (0) ti48 rfl rfl rfl (At.g 1 rfl rfl) rfl ?_
    refine R2 (d_call (c_lowest _ _ (by omega) (by omega) (by omega)) fi53 rfl) rfl rfl ?_
    refine R1 (d_call (c_Tresult _) fi56 rfl) rfl ?_
    refine R1 (d_extract rfl) rfl ?_
    refine R1 (d_extract rfl) rfl ?_
    refine RE (d_store (es := 4) (agg := true) (0) ti50 rfl rfl rfl) ⟨rfl, rfl, trivial⟩ ⟨rfl, trivial⟩ trivial ?_
    refine R1 d_assign rfl ?_
    refine R_end (by kernel_rfl) ?_
    refine K_then ?_
    refine C_ret ?_
    exact E_retN Plain.mk' (rs := [.cell 6 50, .tmp 7]) rfl rfl ⟨⟨_, _, _, _, _, rfl, rfl, ti50, (Le.of (by rw [sh_fr, rnd_divInt]; by_cases hs : short (((((a.num * (u.den : Int)) / ((a.den : Int) * u.num)) : Int) : Rat) * u) <;> simp [resF, hs]))⟩, ⟨_, rfl, (Le.int (by rw [sh_fr, rnd_divInt]; by_cases hs : short (((((a.num * (u.den : Int)) / ((a.den : Int) * u.num)) : Int) : Rat) * u) <;> simp [resFE, hs]))⟩, trivial⟩
end An.S

/- Layer 24: deals and states. Plain data. -/
namespace An
open Go
structure Deal where
  lo : Int
  hi : Int
  share : Fr
  acc : Int
def deal0 : Deal := ⟨0, 0, fr0, 0⟩
abbrev tDeal (d : Deal) : Ty := tS [⟨1, false, tI d.lo⟩, ⟨1, false, tI d.hi⟩, ⟨4, true, tFr d.share⟩, ⟨1, false, tI d.acc⟩]
abbrev tState (o : Int) (b p : List Int) : Ty := tS [⟨1, false, tI o⟩, ⟨1, false, tIs b⟩, ⟨1, false, tIs p⟩]
/-- The limbs are limbs. -/
def Fr.dig (f : Fr) : Prop := Dig 65536 f.n.l ∧ Dig 65536 f.d.l
def Fr.rat (f : Fr) : Rat := Rat.divInt f.n.int f.d.int
theorem rat_fr (q : Rat) : (fr q).rat = q := by
  have e1 : (fr q).n.int = q.num := int_wh _
  have e2 : (fr q).d.int = (q.den : Int) := int_wh _
  rw [Fr.rat, e1, e2, Rat.divInt_ofNat, Rat.mkRat_self]
theorem Fr.of_valid' {f : Fr} (hD : f.dig) (h : f.valid = true) : f = fr f.rat ∧ short f.rat := by
  obtain ⟨q, hq, hs⟩ := Fr.of_valid hD.1 hD.2 h
  subst hq
  rw [rat_fr]; exact ⟨rfl, hs⟩
def Deal.valid (d : Deal) : Bool := decide (0 ≤ d.lo) && decide (d.lo ≤ d.hi) && decide (d.hi ≤ 1048576) && d.share.valid && !d.share.n.neg && decide (d.share.rat ≤ 1) && decide (d.share.n.l.length ≤ 4) && decide (d.share.d.l.length ≤ 4) && decide (1 ≤ d.acc) && decide (d.acc ≤ 1099511627776)
theorem Deal.valid_iff {d : Deal} : d.valid = true ↔ 0 ≤ d.lo ∧ d.lo ≤ d.hi ∧ d.hi ≤ 1048576 ∧ d.share.valid = true ∧ d.share.n.neg = false ∧ d.share.rat ≤ 1 ∧ d.share.n.l.length ≤ 4 ∧ d.share.d.l.length ≤ 4 ∧ 1 ≤ d.acc ∧ d.acc ≤ 1099511627776 := by
  simp only [Deal.valid, Bool.and_eq_true, decide_eq_true_eq, Bool.not_eq_true', and_assoc]
def validL (l : List Deal) : Bool := decide (l.length ≤ 16) && l.all Deal.valid
def wIn (n : Int) : Bool := decide (-1099511627776 ≤ n) && decide (n ≤ 1099511627776)
theorem wIn_iff {n : Int} : wIn n = true ↔ -1099511627776 ≤ n ∧ n ≤ 1099511627776 := by simp [wIn]
/-- A share of a sum, rounded down. -/
def take (q : Rat) (n : Int) : Int := (q * (n : Rat)).floor
theorem floor_parts (q : Rat) : (q.num * ((1 : Rat).den : Int)) / ((q.den : Int) * (1 : Rat).num) = q.floor := by
  rw [Rat.floor_def]; simp
theorem short_int {n : Int} (h : len16 n ≤ 256) : short (n : Rat) := by
  refine ⟨by rw [Rat.num_intCast]; exact h, ?_⟩
  rw [Rat.den_intCast]
  show (wh 1).l.length ≤ 256
  rw [wh_one]; decide
theorem mul_parts (a b : Rat) : (a * b).num = a.num * b.num / ((Int.gcd (a.num * b.num) ((a.den : Int) * (b.den : Int)) : Nat) : Int) ∧ ((a * b).den : Int) = (a.den : Int) * (b.den : Int) / ((Int.gcd (a.num * b.num) ((a.den : Int) * (b.den : Int)) : Nat) : Int) := by
  have h := lowest_eq (n := a.num * b.num) (d := (a.den : Int) * (b.den : Int)) (Int.mul_pos (by have := a.den_nz; omega) (by have := b.den_nz; omega))
  have e : Rat.divInt (a.num * b.num) ((a.den : Int) * (b.den : Int)) = a * b := by
    rw [Rat.mul_def, ← Int.natCast_mul, Rat.divInt_ofNat, Rat.normalize_eq_mkRat]
  rw [e, fr] at h
  injection h with h1 h2
  exact ⟨wh_inj h1, wh_inj h2⟩
theorem len_mul_parts {a b : Rat} {k l m n : Nat} (ha : len16 a.num ≤ k) (hb : len16 b.num ≤ l) (ha2 : len16 a.den ≤ m) (hb2 : len16 b.den ≤ n) : len16 (a * b).num ≤ k + l ∧ len16 ((a * b).den : Int) ≤ m + n := by
  obtain ⟨h1, h2⟩ := mul_parts a b
  exact ⟨h1 ▸ len16_div (len16_mul ha hb), h2 ▸ len16_div (len16_mul ha2 hb2)⟩
theorem len16_64 {n : Int} (h1 : -9223372036854775808 ≤ n) (h2 : n ≤ 9223372036854775807) : len16 n ≤ 4 := wh_len _ (by omega)
theorem take_bd {q : Rat} {n : Int} (h0 : 0 ≤ q) (h1 : q ≤ 1) : (0 ≤ n → 0 ≤ take q n ∧ take q n ≤ n) ∧ (n ≤ 0 → n ≤ take q n ∧ take q n ≤ 0) := by
  have key : ∀ (x : Rat) (m : Int), (m : Rat) ≤ x → m ≤ x.floor := fun x m h => by
    rcases Int.lt_or_le x.floor m with h' | h'
    · exact absurd h (Rat.not_le.2 (Rat.floor_lt_iff.1 h'))
    · exact h'
  have key2 : ∀ (x : Rat) (m : Int), x ≤ (m : Rat) → x.floor ≤ m := fun x m h => by
    have := Rat.floor_monotone h
    rwa [Rat.floor_intCast] at this
  refine ⟨fun hn => ?_, fun hn => ?_⟩
  · have hn' : (0 : Rat) ≤ (n : Rat) := by exact_mod_cast hn
    refine ⟨key _ _ ?_, key2 _ _ ?_⟩
    · simpa using Rat.mul_nonneg h0 hn'
    · have := Rat.mul_le_mul_of_nonneg_right h1 hn'
      simpa using this
  · have hn' : (0 : Rat) ≤ ((-n : Int) : Rat) := by exact_mod_cast (show 0 ≤ -n by omega)
    have e : ((-n : Int) : Rat) = -(n : Rat) := by simp
    rw [e] at hn'
    refine ⟨key _ _ ?_, key2 _ _ ?_⟩
    · have := Rat.mul_le_mul_of_nonneg_right h1 hn'
      grind
    · have := Rat.mul_nonneg h0 hn'
      simp
      grind
def rightL (l : List Deal) (o : Int) (b p : List Int) : Bool :=
  validL l && decide (b.length = l.length) && decide (p.length = l.length) && wIn o && (List.range l.length).all fun i => wIn (b.getD i 0) && decide (p.getD i 0 = take (l.getD i deal0).share.rat (b.getD i 0))
end An

/- Package split: what is valid. -/
namespace An.S
open Go Go.Proofs An
set_option maxHeartbeats 2000000
theorem ti68 : TyI Tryz.prog 68 7 true := ⟨by kernel_rfl, by kernel_rfl⟩
theorem sl22 : SlI Tryz.prog 22 68 7 true := ⟨Tryz.underlying22, ti68⟩
theorem fo68_0 : fieldO Tryz.prog 68 0 = some 0 := by kernel_rfl
theorem fo68_1 : fieldO Tryz.prog 68 1 = some 1 := by kernel_rfl
theorem fo68_2 : fieldO Tryz.prog 68 2 = some 2 := by kernel_rfl
theorem fo68_3 : fieldO Tryz.prog 68 3 = some 6 := by kernel_rfl
theorem fi22 : FnI Tryz.prog 22 := ⟨_, Tryz.func22, by kernel_rfl, rfl⟩
theorem fi25 : FnI Tryz.prog 25 := ⟨_, Tryz.func25, by kernel_rfl, rfl⟩
theorem fi28 : FnI Tryz.prog 28 := ⟨_, Tryz.func28, by kernel_rfl, rfl⟩
theorem fi78 : FnI Tryz.prog 78 := ⟨_, Tryz.func78, by kernel_rfl, rfl⟩
theorem fi79 : FnI Tryz.prog 79 := ⟨_, Tryz.func79, by kernel_rfl, rfl⟩
theorem zr68 : (Tryz.prog.info? 68).bind (·.zero) = some (.agg #[.int .i64 0, .int .i64 0, .bool false, .slice none 0 0, .bool false, .slice none 0 0, .int .i64 0]) ∧ ∀ F w, (tS [⟨1, false, (tE (.int .i64 0))⟩, ⟨1, false, (tE (.int .i64 0))⟩, ⟨4, true, (tS [⟨2, true, (tS [⟨1, false, (tE (.bool false))⟩, ⟨1, false, (tLm [])⟩])⟩, ⟨2, true, (tS [⟨1, false, (tE (.bool false))⟩, ⟨1, false, (tLm [])⟩])⟩])⟩, ⟨1, false, (tE (.int .i64 0))⟩]).p F w (.agg #[.int .i64 0, .int .i64 0, .bool false, .slice none 0 0, .bool false, .slice none 0 0, .int .i64 0]) := ⟨by kernel_rfl, fun _ _ => ⟨_, rfl, rfl, ⟨fun _ => rfl, rfl⟩, ⟨fun _ => rfl, rfl⟩, ⟨fun h => Bool.noConfusion h, ⟨_, rfl, rfl, ⟨fun h => Bool.noConfusion h, ⟨_, rfl, rfl, ⟨fun _ => rfl, rfl⟩, ⟨fun _ => rfl, ⟨none, 0, rfl, Nat.le_refl _, by decide, .inl rfl⟩⟩, trivial⟩⟩, ⟨fun h => Bool.noConfusion h, ⟨_, rfl, rfl, ⟨fun _ => rfl, rfl⟩, ⟨fun _ => rfl, ⟨none, 0, rfl, Nat.le_refl _, by decide, .inl rfl⟩⟩, trivial⟩⟩, trivial⟩⟩, ⟨fun _ => rfl, rfl⟩, trivial⟩⟩
theorem c_FCmpV (f g : Fr) (hf : f.dig) (hg : g.dig) (vf : f.valid = true) (vg : g.valid = true) : Ct Tryz.prog 28 [tFr f, tFr g] (tI (cmpQ f.rat g.rat)) := by
  obtain ⟨e1, s1⟩ := Fr.of_valid' hf vf
  obtain ⟨e2, s2⟩ := Fr.of_valid' hg vg
  have h := c_FCmp f.rat g.rat s1 s2
  rw [← e1, ← e2] at h; exact h
theorem short_one : short (1 : Rat) := short_int (n := 1) (by show (wh 1).l.length ≤ 256; rw [wh_one]; decide)
theorem c_FCmp1 (f : Fr) (hf : f.dig) (vf : f.valid = true) : Ct Tryz.prog 28 [tFr f, tFr (fr ((1 : Int) : Rat))] (tI (cmpQ f.rat 1)) := by
  have h := c_FCmpV f (fr ((1 : Int) : Rat)) hf ⟨dig_Dig two_le_L _, dig_Dig two_le_L _⟩ vf (valid_fr short_one)
  rw [rat_fr] at h; exact h
theorem cmpQ_pos {a b : Rat} : 0 < cmpQ a b ↔ ¬ a ≤ b := by
  simp only [cmpQ]
  split
  · rename_i h; simp [Rat.le_of_lt h]
  · rename_i h
    split
    · rename_i h2; subst h2; simp
    · rename_i h2
      simp only [Int.zero_lt_one, true_iff]
      intro h3
      rcases Rat.le_iff_lt_or_eq.1 h3 with h4 | h4
      · exact h h4
      · exact h2 h4
theorem c_within (n : Int) :
    Ct Tryz.prog 45 [tI n] (tB (wIn n)) := by
  refine Ct.intro Tryz.func45 rfl Tryz.ntmps45 rfl ?_
  intro w F
  refine C_seq ?_
  refine C_reg ?_
  refine R1 d_assign rfl ?_
  refine R_nil (by kernel_rfl) ?_
  refine K_then ?_
  refine C_seq ?_
  refine C_reg ?_
  refine R1 d_move rfl ?_
  refine R2 d_leq rfl rfl ?_
  refine R1 d_move rfl ?_
  refine RGcaseD (t := 5) rfl (fun h67 => ?_) (fun h67 => ?_)
  ·
    refine RGon (decide_eq_true h67) rfl d_move rfl ⟨rfl, trivial⟩ trivial trivial ?_
    refine RGon (decide_eq_true h67) rfl d_leq rfl ⟨rfl, rfl, trivial⟩ trivial trivial ?_
    refine R2 (d_pickT (decide_eq_true h67)) rfl rfl ?_
    refine R1 d_assign rfl ?_
    refine R_nil (by kernel_rfl) ?_
    refine K_then ?_
    refine C_ret ?_
    exact E_ret1 Plain.mk' rfl rfl (Le.bool (by simp [wIn, *]))
  ·
    refine RGoff (decide_eq_false h67) rfl rfl ?_
    refine RGoff (decide_eq_false h67) rfl rfl ?_
    refine R2 (d_pickF (decide_eq_false h67)) rfl rfl ?_
    refine R1 d_assign rfl ?_
    refine R_nil (by kernel_rfl) ?_
    refine K_then ?_
    refine C_ret ?_
    exact E_ret1 Plain.mk' rfl rfl (Le.bool (by simp [wIn, *]))
theorem c_SValid (l : List Deal) (hD : ∀ d ∈ l, d.share.dig) :
    Ct Tryz.prog 19 [tL 7 true tDeal l] (tB (validL l)) := by
  refine Ct.intro Tryz.func19 rfl Tryz.ntmps19 rfl ?_
  intro w F
  refine C_len (s := 0) rfl (fun hl0 => ?_)
  refine C_seq ?_
  refine C_reg ?_
  refine R1 d_assign rfl ?_
  refine R_nil (by kernel_rfl) ?_
  refine K_then ?_
  refine C_seq ?_
  refine C_seq ?_
  refine C_reg ?_
  refine R1 d_move rfl ?_
  refine R1 (d_len Tryz.underlying22) rfl ?_
  refine R2 d_gtr rfl rfl ?_
  refine R_nil (by kernel_rfl) ?_
  refine K_then ?_
  refine C_if rfl (fun h45 => ?_) (fun h45 => ?_)
  ·
    refine C_seq ?_
    refine C_reg ?_
    refine R1 d_assign rfl ?_
    refine R_nil (by kernel_rfl) ?_
    refine K_then ?_
    refine C_ret ?_
    refine K_retT ?_
    exact E_ret1 Plain.mk' rfl rfl (Le.bool (by rw [validL, decide_eq_false (by omega), Bool.false_and]))
  ·
    refine C_skip ?_
    refine K_then ?_
    refine C_seq ?_
    refine C_seq ?_
    refine C_reg ?_
    refine R1 d_move rfl ?_
    refine R1 (d_len Tryz.underlying22) rfl ?_
    refine R1 d_move rfl ?_
    refine R_nil (by kernel_rfl) ?_
    refine K_then ?_
    refine C_block ?_
    refine C_loop (fun (i : Nat) => i ≤ l.length ∧ (l.take i).all Deal.valid = true) (fun (i : Nat) => upd (upd (upd (fun _ => none) 8 (some (.val (tL 7 true tDeal l)))) 9 (some (.val (tI l.length)))) 10 (some (.val (tI i)))) (fun (i : Nat) => fun _ => none) (nm []) (fun (i : Nat) => l.length - i) (0) ⟨Nat.zero_le _, rfl⟩ (Sub.int rfl (by first | omega | rfl | (dsimp only; omega)) (Sub.int rfl (by first | omega | rfl | (dsimp only; omega)) (Sub.cons rfl Sub.nil))) SubK.nil (SupG.val (SupG.val (SupG.val SupG.nil))) SupH.nil (lkOk rfl) ?_
    intro i hI
    obtain ⟨hi, ha⟩ := hI
    refine C_seq ?_
    refine C_reg ?_
    refine R2 d_lss rfl rfl ?_
    refine R_nil (by kernel_rfl) ?_
    refine K_then ?_
    refine C_seq ?_
    refine C_if rfl (fun h48 => ?_) (fun h48 => ?_)
    ·
      refine C_skip ?_
      refine K_then ?_
      refine C_seq ?_
      refine C_block ?_
      refine C_seq ?_
      refine C_reg ?_
      refine R2 (d_indexP sl22 i (by omega) (gD (l := l) (n := i) (d := deal0) (by omega))) rfl rfl ?_
      refine R1 (d_loadP ti68) rfl ?_
      refine RE (d_alloc (k := 4) (n := 7) (agg := true) zr68.1 zr68.2 rfl) trivial trivial ⟨rfl, trivial⟩ ?_
      refine RE (d_store (es := 7) (agg := true) (0) ti68 rfl rfl rfl) ⟨rfl, rfl, trivial⟩ ⟨rfl, trivial⟩ trivial ?_
      refine R_nil (by kernel_rfl) ?_
      refine K_then ?_
      refine C_seq ?_
      refine C_seq ?_
      refine C_reg ?_
      refine R1 (d_fieldO fo68_0 rfl) rfl ?_
      refine R_loadF (0) ti3 rfl rfl rfl (At.g 0 rfl rfl) rfl ?_
      refine R2 d_lss rfl rfl ?_
      refine R1 d_move rfl ?_
      refine RGcaseD (t := 17) rfl (fun h49 => ?_) (fun h49 => ?_)
      ·
        have hbad : (l.getD i deal0).valid = false := Bool.eq_false_iff.2 fun h => by have hv := Deal.valid_iff.1 h; omega
        refine RGoff (decide_eq_true h49) rfl rfl ?_
        refine RGoff (decide_eq_true h49) rfl rfl ?_
        refine RGoff (decide_eq_true h49) rfl rfl ?_
        refine RGoff (decide_eq_true h49) rfl rfl ?_
        refine RGoff (decide_eq_true h49) rfl rfl ?_
        refine R2 (d_pickT (decide_eq_true h49)) rfl rfl ?_
        refine R1 d_move rfl ?_
        refine RGoff1 rfl rfl ?_
        refine RGoff1 rfl rfl ?_
        refine RGoff1 rfl rfl ?_
        refine R2 (d_pickT rfl) rfl rfl ?_
        refine R_nil (by kernel_rfl) ?_
        refine K_then ?_
        refine C_bT rfl rfl ?_
        refine C_seq ?_
        refine C_reg ?_
        refine R1 d_assign rfl ?_
        refine R_nil (by kernel_rfl) ?_
        refine K_then ?_
        refine C_ret ?_
        refine K_retT ?_
        refine K_retB ?_
        refine K_retT ?_
        refine K_retT ?_
        refine K_retB ?_
        refine K_retT ?_
        exact E_ret1 Plain.mk' rfl rfl (Le.bool (by rw [validL, all_stop (l := l) (i := i) (d := deal0) (by omega) hbad, Bool.and_false]))
      ·
        refine RGon (decide_eq_false h49) rfl (d_fieldO fo68_1 rfl) rfl ⟨rfl, trivial⟩ trivial trivial ?_
        refine RG_loadF (decide_eq_false h49) rfl rfl (0) ti3 rfl rfl rfl (At.g 1 rfl rfl) rfl ?_
        refine RGon (decide_eq_false h49) rfl (d_fieldO fo68_0 rfl) rfl ⟨rfl, trivial⟩ trivial trivial ?_
        refine RG_loadF (decide_eq_false h49) rfl rfl (0) ti3 rfl rfl rfl (At.g 0 rfl rfl) rfl ?_
        refine RGon (decide_eq_false h49) rfl d_lss rfl ⟨rfl, rfl, trivial⟩ trivial trivial ?_
        refine R2 (d_pickF (decide_eq_false h49)) rfl rfl ?_
        refine R1 d_move rfl ?_
        refine RGcaseD (t := 24) rfl (fun h49_2 => ?_) (fun h49_2 => ?_)
        ·
          have hbad : (l.getD i deal0).valid = false := Bool.eq_false_iff.2 fun h => by have hv := Deal.valid_iff.1 h; omega
          refine RGoff (decide_eq_true h49_2) rfl rfl ?_
          refine RGoff (decide_eq_true h49_2) rfl rfl ?_
          refine RGoff (decide_eq_true h49_2) rfl rfl ?_
          refine R2 (d_pickT (decide_eq_true h49_2)) rfl rfl ?_
          refine R_nil (by kernel_rfl) ?_
          refine K_then ?_
          refine C_bT rfl rfl ?_
          refine C_seq ?_
          refine C_reg ?_
          refine R1 d_assign rfl ?_
          refine R_nil (by kernel_rfl) ?_
          refine K_then ?_
          refine C_ret ?_
          refine K_retT ?_
          refine K_retB ?_
          refine K_retT ?_
          refine K_retT ?_
          refine K_retB ?_
          refine K_retT ?_
          exact E_ret1 Plain.mk' rfl rfl (Le.bool (by rw [validL, all_stop (l := l) (i := i) (d := deal0) (by omega) hbad, Bool.and_false]))
        ·
          refine RGon (decide_eq_false h49_2) rfl (d_fieldO fo68_1 rfl) rfl ⟨rfl, trivial⟩ trivial trivial ?_
          refine RG_loadF (decide_eq_false h49_2) rfl rfl (0) ti3 rfl rfl rfl (At.g 1 rfl rfl) rfl ?_
          refine RGon (decide_eq_false h49_2) rfl d_gtr rfl ⟨rfl, rfl, trivial⟩ trivial trivial ?_
          refine R2 (d_pickF (decide_eq_false h49_2)) rfl rfl ?_
          refine R_nil (by kernel_rfl) ?_
          refine K_then ?_
          refine C_if rfl (fun h49_3 => ?_) (fun h49_3 => ?_)
          ·
            have hbad : (l.getD i deal0).valid = false := Bool.eq_false_iff.2 fun h => by have hv := Deal.valid_iff.1 h; omega
            refine C_seq ?_
            refine C_reg ?_
            refine R1 d_assign rfl ?_
            refine R_nil (by kernel_rfl) ?_
            refine K_then ?_
            refine C_ret ?_
            refine K_retT ?_
            refine K_retB ?_
            refine K_retT ?_
            refine K_retT ?_
            refine K_retB ?_
            refine K_retT ?_
            exact E_ret1 Plain.mk' rfl rfl (Le.bool (by rw [validL, all_stop (l := l) (i := i) (d := deal0) (by omega) hbad, Bool.and_false]))
          ·
            refine C_skip ?_
            refine K_then ?_
            refine C_seq ?_
            refine C_seq ?_
            refine C_draw mixed ?_
            refine R1 (d_fieldO fo68_2 rfl) rfl ?_
            refine R_loadF (0) ti50 rfl rfl rfl (At.g 2 rfl rfl) rfl ?_
            have hdg := hD _ (getD_mem (l := l) (i := i) (d := deal0) (by omega))
            refine R1 (d_call (c_FValid _ hdg.1 hdg.2) fi49 rfl) rfl ?_
            refine R1 d_not rfl ?_
            refine R1 d_move rfl ?_
            refine RGcase (t := 33) rfl (fun h52 => ?_) (fun h52 => ?_)
            ·
              have hv : (l.getD i deal0).share.valid = false := by simpa using h52
              have hbad : (l.getD i deal0).valid = false := Bool.eq_false_iff.2 fun h => by have hv := Deal.valid_iff.1 h; have h4 := hv.2.2.2.1; simp_all
              refine RGoff h52 rfl rfl ?_
              refine RGoff h52 rfl rfl ?_
              refine RGoff h52 rfl rfl ?_
              refine RGoff h52 rfl rfl ?_
              refine R2 (d_pickT h52) rfl rfl ?_
              refine R1 d_move rfl ?_
              refine RGoff1 rfl rfl ?_
              refine RGoff1 rfl rfl ?_
              refine RGoff1 rfl rfl ?_
              refine RGoff1 rfl rfl ?_
              refine RGoff1 rfl rfl ?_
              refine R2 (d_pickT rfl) rfl rfl ?_
              refine R_end (by kernel_rfl) ?_
              refine K_then ?_
              refine C_bT rfl rfl ?_
              refine C_seq ?_
              refine C_reg ?_
              refine R1 d_assign rfl ?_
              refine R_nil (by kernel_rfl) ?_
              refine K_then ?_
              refine C_ret ?_
              refine K_retT ?_
              refine K_retB ?_
              refine K_retT ?_
              refine K_retT ?_
              refine K_retB ?_
              refine K_retT ?_
              exact E_ret1 Plain.mk' rfl rfl (Le.bool (by rw [validL, all_stop (l := l) (i := i) (d := deal0) (by omega) hbad, Bool.and_false]))
            ·
              have hv : (l.getD i deal0).share.valid = true := by simpa using h52
              refine RGon h52 rfl (d_fieldO fo68_2 rfl) rfl ⟨rfl, trivial⟩ trivial trivial ?_
              refine RGon h52 rfl (d_fieldO fo50_0 rfl) rfl ⟨rfl, trivial⟩ trivial trivial ?_
              refine RGon h52 rfl (d_fieldO fo48_0 rfl) rfl ⟨rfl, trivial⟩ trivial trivial ?_
              refine RG_loadF h52 rfl rfl (0) ti4 rfl rfl rfl (At.t (At.g 2 rfl rfl) (At.t (At.g 0 rfl rfl) (At.g 0 rfl rfl))) rfl ?_
              refine R2 (d_pickF h52) rfl rfl ?_
              refine R1 d_move rfl ?_
              refine RGcase (t := 39) rfl (fun h52_2 => ?_) (fun h52_2 => ?_)
              ·
                have hbad : (l.getD i deal0).valid = false := Bool.eq_false_iff.2 fun h => by have hv := Deal.valid_iff.1 h; have h4 := hv.2.2.2.2.1; simp_all
                refine RGoff h52_2 rfl rfl ?_
                refine RGoff h52_2 rfl rfl ?_
                refine RGoff h52_2 rfl rfl ?_
                refine RGoff h52_2 rfl rfl ?_
                refine RGoff h52_2 rfl rfl ?_
                refine R2 (d_pickT h52_2) rfl rfl ?_
                refine R_end (by kernel_rfl) ?_
                refine K_then ?_
                refine C_bT rfl rfl ?_
                refine C_seq ?_
                refine C_reg ?_
                refine R1 d_assign rfl ?_
                refine R_nil (by kernel_rfl) ?_
                refine K_then ?_
                refine C_ret ?_
                refine K_retT ?_
                refine K_retB ?_
                refine K_retT ?_
                refine K_retT ?_
                refine K_retB ?_
                refine K_retT ?_
                exact E_ret1 Plain.mk' rfl rfl (Le.bool (by rw [validL, all_stop (l := l) (i := i) (d := deal0) (by omega) hbad, Bool.and_false]))
              ·
                have hng : (l.getD i deal0).share.n.neg = false := h52_2
                refine RGon h52_2 rfl (d_fieldO fo68_2 rfl) rfl ⟨rfl, trivial⟩ trivial trivial ?_
                refine RG_loadF h52_2 rfl rfl (0) ti50 rfl rfl rfl (At.g 2 rfl rfl) rfl ?_
                refine RGon h52_2 rfl (d_call (c_FFromInt 1 (by decide) (by decide)) fi22 rfl) rfl ⟨rfl, trivial⟩ trivial trivial ?_
                refine RGon h52_2 rfl (d_call (c_FCmp1 _ hdg hv) fi28 rfl) rfl ⟨rfl, rfl, trivial⟩ trivial trivial ?_
                refine RGon h52_2 rfl d_gtr rfl ⟨rfl, rfl, trivial⟩ trivial trivial ?_
                refine R2 (d_pickF h52_2) rfl rfl ?_
                refine R_end (by kernel_rfl) ?_
                refine K_then ?_
                refine C_if rfl (fun h52_3 => ?_) (fun h52_3 => ?_)
                ·
                  have hgt := cmpQ_pos.1 h52_3
                  have hbad : (l.getD i deal0).valid = false := Bool.eq_false_iff.2 fun h => by have hv := Deal.valid_iff.1 h; exact hgt hv.2.2.2.2.2.1
                  refine C_seq ?_
                  refine C_reg ?_
                  refine R1 d_assign rfl ?_
                  refine R_nil (by kernel_rfl) ?_
                  refine K_then ?_
                  refine C_ret ?_
                  refine K_retT ?_
                  refine K_retB ?_
                  refine K_retT ?_
                  refine K_retT ?_
                  refine K_retB ?_
                  refine K_retT ?_
                  exact E_ret1 Plain.mk' rfl rfl (Le.bool (by rw [validL, all_stop (l := l) (i := i) (d := deal0) (by omega) hbad, Bool.and_false]))
                ·
                  have hle : (l.getD i deal0).share.rat ≤ 1 := Classical.byContradiction fun h => h52_3 (cmpQ_pos.2 h)
                  refine C_skip ?_
                  refine K_then ?_
                  refine C_seq ?_
                  refine C_seq ?_
                  refine C_reg ?_
                  refine R1 (d_fieldO fo68_2 rfl) rfl ?_
                  refine R1 (d_fieldO fo50_0 rfl) rfl ?_
                  refine R1 (d_fieldO fo48_1 rfl) rfl ?_
                  refine R_loadF (0) ti46 rfl rfl rfl (At.t (At.g 2 rfl rfl) (At.t (At.g 0 rfl rfl) (At.g 1 rfl rfl))) rfl ?_
                  refine R1 (d_len Tryz.underlying46) rfl ?_
                  refine R2 d_gtr rfl rfl ?_
                  refine R1 d_move rfl ?_
                  refine RGcaseD (t := 52) rfl (fun h55 => ?_) (fun h55 => ?_)
                  ·
                    have hbad : (l.getD i deal0).valid = false := Bool.eq_false_iff.2 fun h => by have hv := Deal.valid_iff.1 h; omega
                    refine RGoff (decide_eq_true h55) rfl rfl ?_
                    refine RGoff (decide_eq_true h55) rfl rfl ?_
                    refine RGoff (decide_eq_true h55) rfl rfl ?_
                    refine RGoff (decide_eq_true h55) rfl rfl ?_
                    refine RGoff (decide_eq_true h55) rfl rfl ?_
                    refine RGoff (decide_eq_true h55) rfl rfl ?_
                    refine R2 (d_pickT (decide_eq_true h55)) rfl rfl ?_
                    refine R_nil (by kernel_rfl) ?_
                    refine K_then ?_
                    refine C_bT rfl rfl ?_
                    refine C_seq ?_
                    refine C_reg ?_
                    refine R1 d_assign rfl ?_
                    refine R_nil (by kernel_rfl) ?_
                    refine K_then ?_
                    refine C_ret ?_
                    refine K_retT ?_
                    refine K_retB ?_
                    refine K_retT ?_
                    refine K_retT ?_
                    refine K_retB ?_
                    refine K_retT ?_
                    exact E_ret1 Plain.mk' rfl rfl (Le.bool (by rw [validL, all_stop (l := l) (i := i) (d := deal0) (by omega) hbad, Bool.and_false]))
                  ·
                    refine RGon (decide_eq_false h55) rfl (d_fieldO fo68_2 rfl) rfl ⟨rfl, trivial⟩ trivial trivial ?_
                    refine RGon (decide_eq_false h55) rfl (d_fieldO fo50_1 rfl) rfl ⟨rfl, trivial⟩ trivial trivial ?_
                    refine RGon (decide_eq_false h55) rfl (d_fieldO fo48_1 rfl) rfl ⟨rfl, trivial⟩ trivial trivial ?_
                    refine RG_loadF (decide_eq_false h55) rfl rfl (0) ti46 rfl rfl rfl (At.t (At.g 2 rfl rfl) (At.t (At.g 1 rfl rfl) (At.g 1 rfl rfl))) rfl ?_
                    refine RGon (decide_eq_false h55) rfl (d_len Tryz.underlying46) rfl ⟨rfl, trivial⟩ trivial trivial ?_
                    refine RGon (decide_eq_false h55) rfl d_gtr rfl ⟨rfl, rfl, trivial⟩ trivial trivial ?_
                    refine R2 (d_pickF (decide_eq_false h55)) rfl rfl ?_
                    refine R_nil (by kernel_rfl) ?_
                    refine K_then ?_
                    refine C_if rfl (fun h55_2 => ?_) (fun h55_2 => ?_)
                    ·
                      have hbad : (l.getD i deal0).valid = false := Bool.eq_false_iff.2 fun h => by have hv := Deal.valid_iff.1 h; omega
                      refine C_seq ?_
                      refine C_reg ?_
                      refine R1 d_assign rfl ?_
                      refine R_nil (by kernel_rfl) ?_
                      refine K_then ?_
                      refine C_ret ?_
                      refine K_retT ?_
                      refine K_retB ?_
                      refine K_retT ?_
                      refine K_retT ?_
                      refine K_retB ?_
                      refine K_retT ?_
                      exact E_ret1 Plain.mk' rfl rfl (Le.bool (by rw [validL, all_stop (l := l) (i := i) (d := deal0) (by omega) hbad, Bool.and_false]))
                    ·
                      refine C_skip ?_
                      refine K_then ?_
                      refine C_seq ?_
                      refine C_reg ?_
                      refine R1 (d_fieldO fo68_3 rfl) rfl ?_
                      refine R_loadF (0) ti3 rfl rfl rfl (At.g 3 rfl rfl) rfl ?_
                      refine R2 d_lss rfl rfl ?_
                      refine R1 d_move rfl ?_
                      refine RGcaseD (t := 63) rfl (fun h58 => ?_) (fun h58 => ?_)
                      ·
                        have hbad : (l.getD i deal0).valid = false := Bool.eq_false_iff.2 fun h => by have hv := Deal.valid_iff.1 h; omega
                        refine RGoff (decide_eq_true h58) rfl rfl ?_
                        refine RGoff (decide_eq_true h58) rfl rfl ?_
                        refine RGoff (decide_eq_true h58) rfl rfl ?_
                        refine R2 (d_pickT (decide_eq_true h58)) rfl rfl ?_
                        refine R_nil (by kernel_rfl) ?_
                        refine K_then ?_
                        refine C_bT rfl rfl ?_
                        refine C_seq ?_
                        refine C_reg ?_
                        refine R1 d_assign rfl ?_
                        refine R_nil (by kernel_rfl) ?_
                        refine K_then ?_
                        refine C_ret ?_
                        refine K_retB ?_
                        refine K_retT ?_
                        refine K_retT ?_
                        refine K_retB ?_
                        refine K_retT ?_
                        exact E_ret1 Plain.mk' rfl rfl (Le.bool (by rw [validL, all_stop (l := l) (i := i) (d := deal0) (by omega) hbad, Bool.and_false]))
                      ·
                        refine RGon (decide_eq_false h58) rfl (d_fieldO fo68_3 rfl) rfl ⟨rfl, trivial⟩ trivial trivial ?_
                        refine RG_loadF (decide_eq_false h58) rfl rfl (0) ti3 rfl rfl rfl (At.g 3 rfl rfl) rfl ?_
                        refine RGon (decide_eq_false h58) rfl d_gtr rfl ⟨rfl, rfl, trivial⟩ trivial trivial ?_
                        refine R2 (d_pickF (decide_eq_false h58)) rfl rfl ?_
                        refine R_nil (by kernel_rfl) ?_
                        refine K_then ?_
                        refine C_if rfl (fun h58_2 => ?_) (fun h58_2 => ?_)
                        ·
                          have hbad : (l.getD i deal0).valid = false := Bool.eq_false_iff.2 fun h => by have hv := Deal.valid_iff.1 h; omega
                          refine C_seq ?_
                          refine C_reg ?_
                          refine R1 d_assign rfl ?_
                          refine R_nil (by kernel_rfl) ?_
                          refine K_then ?_
                          refine C_ret ?_
                          refine K_retB ?_
                          refine K_retT ?_
                          refine K_retT ?_
                          refine K_retB ?_
                          refine K_retT ?_
                          exact E_ret1 Plain.mk' rfl rfl (Le.bool (by rw [validL, all_stop (l := l) (i := i) (d := deal0) (by omega) hbad, Bool.and_false]))
                        ·
                          refine C_skip ?_
                          refine K_norB ?_
                          refine K_then ?_
                          refine C_reg ?_
                          refine R2 (d_add (by first | exact wr64 (by omega) (by omega))) rfl rfl ?_
                          refine R1 d_move rfl ?_
                          refine R_nil (by kernel_rfl) ?_
                          have hok : (l.getD i deal0).valid = true := Deal.valid_iff.2 ⟨by omega, by omega, by omega, hv, hng, hle, by omega, by omega, by omega, by omega⟩
                          exact K_fam (i + 1) ⟨⟨by omega, by rw [all_take_succ (l := l) (i := i) (d := deal0) (by omega), ha, hok]; rfl⟩, (by omega)⟩ (Sub.int rfl (by first | omega | rfl | (dsimp only; omega)) (Sub.int rfl (by first | omega | rfl | (dsimp only; omega)) (Sub.cons rfl Sub.nil))) SubK.nil (SupG.val (SupG.val (SupG.val SupG.nil))) SupH.nil (lkOk rfl)
    ·
      refine C_exit ?_
      refine K_exT ?_
      refine K_exT ?_
      refine K_exB ?_
      refine K_then ?_
      refine C_seq ?_
      refine C_reg ?_
      refine R1 d_assign rfl ?_
      refine R_nil (by kernel_rfl) ?_
      refine K_then ?_
      refine C_ret ?_
      exact E_ret1 Plain.mk' rfl rfl (Le.bool (by rw [validL, decide_eq_true (by omega), Bool.true_and, ← ha, show i = l.length by omega, List.take_length]))
theorem c_FMulS (q : Rat) (n : Int) (hq : short q) (hn : short (n : Rat)) (hp : short (q * (n : Rat))) : Ct Tryz.prog 25 [tFr (fr q), tFr (fr (n : Rat))] (tT [tFr (fr (q * (n : Rat))), tI 0]) := by
  have h := c_FMul q n hq hn
  rw [resF, resFE, if_pos hp, if_pos hp] at h; exact h
theorem c_FRoundFloor (a : Rat) (k : Int) (ha : short a) (hk : k = a.floor) (hs : short (k : Rat)) : Ct Tryz.prog 78 [tFr (fr a), tFr (fr ((1 : Int) : Rat)), tE (.int .u8 3)] (tT [tFr (fr (k : Rat)), tI 0]) := by
  have h := c_FRound3 a ((1 : Int) : Rat) ha short_one (by decide)
  have e : a.num * ((((1 : Int) : Rat).den : Nat) : Int) / ((a.den : Int) * ((1 : Int) : Rat).num) = a.floor := floor_parts a
  rw [e, ← hk] at h
  have e2 : (k : Rat) * ((1 : Int) : Rat) = (k : Rat) := by simp
  rw [e2, resF, resFE, if_pos hs, if_pos hs] at h; exact h
theorem c_FIntI (k : Int) (hs : short (k : Rat)) (hf : fits k = true) : Ct Tryz.prog 79 [tFr (fr (k : Rat))] (tT [tI k, tI 0]) := by
  have h := c_FInt (k : Rat) hs
  rw [Rat.num_intCast, Rat.den_intCast, hf, if_pos ⟨rfl, rfl⟩, if_pos rfl, if_pos rfl] at h
  exact h
theorem c_take (q : Rat) (n : Int) (hq1 : len16 q.num ≤ 4) (hq2 : len16 q.den ≤ 4) (h0 : 0 ≤ q) (h1 : q ≤ 1) (hn : -1099511627776 ≤ n) (hn2 : n ≤ 1099511627776) :
    Ct Tryz.prog 48 [tFr (fr q), tI n] (tI (take q n)) := by
  have hq : short q := ⟨by omega, by omega⟩
  have ln : len16 n ≤ 4 := len16_64 (by omega) (by omega)
  have hsn : short (n : Rat) := short_int (by omega)
  have lnn : len16 (n : Rat).num ≤ 4 := by rw [Rat.num_intCast]; exact ln
  have l1 : len16 1 ≤ 1 := by show (wh 1).l.length ≤ 1; rw [wh_one]; decide
  have lnd : len16 ((n : Rat).den : Int) ≤ 1 := by rw [Rat.den_intCast]; exact l1
  obtain ⟨p1, p2⟩ := len_mul_parts hq1 lnn hq2 lnd
  have hp : short (q * (n : Rat)) := ⟨by omega, by omega⟩
  obtain ⟨b1, b2⟩ := take_bd (n := n) h0 h1
  have hb : -1099511627776 ≤ take q n ∧ take q n ≤ 1099511627776 := by
    rcases Int.le_total 0 n with h | h
    · have := b1 h; omega
    · have := b2 h; omega
  have lt : len16 (take q n) ≤ 4 := len16_64 (by omega) (by omega)
  have hst : short ((take q n : Int) : Rat) := short_int (by omega)
  have hfit : fits (take q n) = true := by simp only [fits, Bool.and_eq_true, decide_eq_true_eq]; omega
  refine Ct.intro Tryz.func48 rfl Tryz.ntmps48 rfl ?_
  intro w F
  refine C_seq ?_
  refine C_reg ?_
  refine RE (d_box (k := 2) ti50 rfl) ⟨rfl, trivial⟩ trivial ⟨rfl, trivial⟩ ?_
  refine R1 d_assign rfl ?_
  refine R_nil (by kernel_rfl) ?_
  refine K_then ?_
  refine C_seq ?_
  refine C_draw mixed ?_
  refine RE (d_load (0) ti50 rfl rfl) ⟨rfl, trivial⟩ ⟨rfl, trivial⟩ trivial ?_
  refine R1 d_move rfl ?_
  refine R1 (d_call (c_FFromInt n (by omega) (by omega)) fi22 rfl) rfl ?_
  refine R2 (d_call (c_FMulS q n hq hsn hp) fi25 rfl) rfl rfl ?_
  refine R1 d_move rfl ?_
  refine R1 (d_extract rfl) rfl ?_
  refine R1 (d_extract rfl) rfl ?_
  refine RE (d_alloc (k := 5) (n := 4) (agg := true) zr50.1 zr50.2 rfl) trivial trivial ⟨rfl, trivial⟩ ?_
  refine RE (d_store (es := 4) (agg := true) (0) ti50 rfl rfl rfl) ⟨rfl, rfl, trivial⟩ ⟨rfl, trivial⟩ trivial ?_
  refine R1 d_assign rfl ?_
  refine R_end (by kernel_rfl) ?_
  refine K_then ?_
  refine C_seq ?_
  refine C_draw mixed ?_
  refine RE (d_load (0) ti50 rfl rfl) ⟨rfl, trivial⟩ ⟨rfl, trivial⟩ trivial ?_
  refine R1 (d_call (c_FFromInt 1 (by decide) (by decide)) fi22 rfl) rfl ?_
  refine R3 (d_call (c_FRoundFloor (q * (n : Rat)) (take q n) hp rfl hst) fi78 rfl) rfl rfl rfl ?_
  refine R1 d_move rfl ?_
  refine R1 (d_extract rfl) rfl ?_
  refine R1 (d_extract rfl) rfl ?_
  refine RE (d_alloc (k := 7) (n := 4) (agg := true) zr50.1 zr50.2 rfl) trivial trivial ⟨rfl, trivial⟩ ?_
  refine RE (d_store (es := 4) (agg := true) (0) ti50 rfl rfl rfl) ⟨rfl, rfl, trivial⟩ ⟨rfl, trivial⟩ trivial ?_
  refine R1 d_assign rfl ?_
  refine R_end (by kernel_rfl) ?_
  refine K_then ?_
  refine C_seq ?_
  refine C_reg ?_
  refine RE (d_load (0) ti50 rfl rfl) ⟨rfl, trivial⟩ ⟨rfl, trivial⟩ trivial ?_
  refine R1 (d_call (c_FIntI (take q n) hst hfit) fi79 rfl) rfl ?_
  refine R1 d_move rfl ?_
  refine R1 (d_extract rfl) rfl ?_
  refine R1 (d_extract rfl) rfl ?_
  refine R1 d_assign rfl ?_
  refine R1 d_assign rfl ?_
  refine R_nil (by kernel_rfl) ?_
  refine K_then ?_
  refine C_seq ?_
  refine C_reg ?_
  refine R1 d_move rfl ?_
  refine R1 d_assign rfl ?_
  refine R_nil (by kernel_rfl) ?_
  refine K_then ?_
  refine C_ret ?_
  exact E_ret1 Plain.mk' rfl rfl Le.refl
end An.S

/- Package split: states. -/
namespace An.S
open Go Go.Proofs An
set_option maxHeartbeats 2000000
theorem ti23 : TyI Tryz.prog 23 1 false := ⟨by kernel_rfl, by kernel_rfl⟩
theorem ti25 : TyI Tryz.prog 25 3 true := ⟨by kernel_rfl, by kernel_rfl⟩
theorem sl23 : SlI Tryz.prog 23 3 1 false := ⟨Tryz.underlying23, ti3⟩
theorem fo25_0 : fieldO Tryz.prog 25 0 = some 0 := by kernel_rfl
theorem fo25_1 : fieldO Tryz.prog 25 1 = some 1 := by kernel_rfl
theorem fo25_2 : fieldO Tryz.prog 25 2 = some 2 := by kernel_rfl
theorem fi19 : FnI Tryz.prog 19 := ⟨_, Tryz.func19, by kernel_rfl, rfl⟩
theorem fi45 : FnI Tryz.prog 45 := ⟨_, Tryz.func45, by kernel_rfl, rfl⟩
theorem fi48 : FnI Tryz.prog 48 := ⟨_, Tryz.func48, by kernel_rfl, rfl⟩
theorem zr25 : (Tryz.prog.info? 25).bind (·.zero) = some (.agg #[.int .i64 0, .slice none 0 0, .slice none 0 0]) ∧ ∀ F w, (tS [⟨1, false, (tE (.int .i64 0))⟩, ⟨1, false, (tIs [])⟩, ⟨1, false, (tIs [])⟩]).p F w (.agg #[.int .i64 0, .slice none 0 0, .slice none 0 0]) := ⟨by kernel_rfl, fun _ _ => ⟨_, rfl, rfl, ⟨fun _ => rfl, rfl⟩, ⟨fun _ => rfl, ⟨none, 0, rfl, Nat.le_refl _, by decide, .inl rfl⟩⟩, ⟨fun _ => rfl, ⟨none, 0, rfl, Nat.le_refl _, by decide, .inl rfl⟩⟩, trivial⟩⟩
theorem bu25 : BuI Tryz.prog 25 (fun i => [(0, 1), (1, 1), (2, 1)][i]?) (.agg #[.int .i64 0, .slice none 0 0, .slice none 0 0]) := BuI.struct Tryz.underlying25 (by kernel_rfl) (by kernel_rfl)
theorem nonneg_of {f : Fr} (hD : f.dig) (hv : f.valid = true) (hn : f.n.neg = false) : 0 ≤ f.rat := by
  obtain ⟨e, _⟩ := Fr.of_valid' hD hv
  rw [e] at hn
  have h1 : ¬ f.rat.num < 0 := of_decide_eq_false hn
  exact Rat.num_nonneg.1 (by omega)
theorem c_takeV (d : Deal) (hD : d.share.dig) (hv : d.valid = true) (n : Int) (hn : wIn n = true) : Ct Tryz.prog 48 [tFr d.share, tI n] (tI (take d.share.rat n)) := by
  obtain ⟨_, _, _, v1, v2, v3, v4, v5, _⟩ := Deal.valid_iff.1 hv
  obtain ⟨e, _⟩ := Fr.of_valid' hD v1
  obtain ⟨n1, n2⟩ := wIn_iff.1 hn
  have l1 : len16 d.share.rat.num ≤ 4 := by rw [e] at v4; exact v4
  have l2 : len16 d.share.rat.den ≤ 4 := by rw [e] at v5; exact v5
  have h := c_take d.share.rat n l1 l2 (nonneg_of hD v1 v2) v3 n1 n2
  rw [← e] at h; exact h
theorem range_stop {n i : Nat} {f : Nat → Bool} (hi : i < n) (h : f i = false) : (List.range n).all f = false := by
  rw [List.all_eq_false]
  exact ⟨i, List.mem_range.2 hi, by simp [h]⟩
theorem range_next {i : Nat} {f : Nat → Bool} : (List.range (i + 1)).all f = ((List.range i).all f && f i) := by
  rw [List.range_succ, List.all_append]; simp
theorem validL_get {l : List Deal} {i : Nat} (h : validL l = true) (hi : i < l.length) : (l.getD i deal0).valid = true := by
  simp only [validL, Bool.and_eq_true, List.all_eq_true] at h
  exact h.2 _ (getD_mem hi)
theorem validL_len {l : List Deal} (h : validL l = true) : l.length ≤ 16 := by
  simp only [validL, Bool.and_eq_true, decide_eq_true_eq] at h; exact h.1
theorem c_SRight (l : List Deal) (o : Int) (b p : List Int) (hD : ∀ d ∈ l, d.share.dig) :
    Ct Tryz.prog 15 [tL 7 true tDeal l, tState o b p] (tB (rightL l o b p)) := by
  refine Ct.intro Tryz.func15 rfl Tryz.ntmps15 rfl ?_
  intro w F
  refine C_len (s := 0) rfl (fun hl0 => ?_)
  refine C_seq ?_
  refine C_reg ?_
  refine RE (d_box (k := 3) ti25 rfl) ⟨rfl, trivial⟩ trivial ⟨rfl, trivial⟩ ?_
  refine R1 d_assign rfl ?_
  refine R_nil (by kernel_rfl) ?_
  refine K_then ?_
  refine C_seq ?_
  refine C_seq ?_
  refine C_reg ?_
  refine R1 d_move rfl ?_
  refine R1 (d_call (c_SValid l hD) fi19 rfl) rfl ?_
  refine R1 d_not rfl ?_
  refine R1 d_move rfl ?_
  refine RGcase (t := 10) rfl (fun h80 => ?_) (fun h80 => ?_)
  ·
    have hvl : validL l = false := by simpa using h80
    refine RGoff h80 rfl rfl ?_
    refine RGoff h80 rfl rfl ?_
    refine RGoff h80 rfl rfl ?_
    refine RGoff h80 rfl rfl ?_
    refine RGoff h80 rfl rfl ?_
    refine RGoff h80 rfl rfl ?_
    refine R2 (d_pickT h80) rfl rfl ?_
    refine R1 d_move rfl ?_
    refine RGoff1 rfl rfl ?_
    refine RGoff1 rfl rfl ?_
    refine RGoff1 rfl rfl ?_
    refine RGoff1 rfl rfl ?_
    refine RGoff1 rfl rfl ?_
    refine RGoff1 rfl rfl ?_
    refine R2 (d_pickT rfl) rfl rfl ?_
    refine R1 d_move rfl ?_
    refine RGoff1 rfl rfl ?_
    refine RGoff1 rfl rfl ?_
    refine RGoff1 rfl rfl ?_
    refine RGoff1 rfl rfl ?_
    refine R2 (d_pickT rfl) rfl rfl ?_
    refine R_nil (by kernel_rfl) ?_
    refine K_then ?_
    refine C_bT rfl rfl ?_
    refine C_seq ?_
    refine C_reg ?_
    refine R1 d_assign rfl ?_
    refine R_nil (by kernel_rfl) ?_
    refine K_then ?_
    refine C_ret ?_
    refine K_retT ?_
    exact E_ret1 Plain.mk' rfl rfl (Le.bool (by rw [rightL, hvl]; rfl))
  ·
    have hvl : validL l = true := by simpa using h80
    refine RGon h80 rfl (d_fieldO fo25_1 rfl) rfl ⟨rfl, trivial⟩ trivial trivial ?_
    refine RG_loadF h80 rfl rfl (0) ti23 rfl rfl rfl (At.g 1 rfl rfl) rfl ?_
    refine RGon h80 rfl (d_len Tryz.underlying23) rfl ⟨rfl, trivial⟩ trivial trivial ?_
    refine RGon h80 rfl d_move rfl ⟨rfl, trivial⟩ trivial trivial ?_
    refine RGon h80 rfl (d_len Tryz.underlying22) rfl ⟨rfl, trivial⟩ trivial trivial ?_
    refine RGon h80 rfl d_neq rfl ⟨rfl, rfl, trivial⟩ trivial trivial ?_
    refine R2 (d_pickF h80) rfl rfl ?_
    refine R1 d_move rfl ?_
    refine RGcaseD (t := 18) rfl (fun h80_2 => ?_) (fun h80_2 => ?_)
    ·
      refine RGoff (decide_eq_true h80_2) rfl rfl ?_
      refine RGoff (decide_eq_true h80_2) rfl rfl ?_
      refine RGoff (decide_eq_true h80_2) rfl rfl ?_
      refine RGoff (decide_eq_true h80_2) rfl rfl ?_
      refine RGoff (decide_eq_true h80_2) rfl rfl ?_
      refine RGoff (decide_eq_true h80_2) rfl rfl ?_
      refine R2 (d_pickT (decide_eq_true h80_2)) rfl rfl ?_
      refine R1 d_move rfl ?_
      refine RGoff1 rfl rfl ?_
      refine RGoff1 rfl rfl ?_
      refine RGoff1 rfl rfl ?_
      refine RGoff1 rfl rfl ?_
      refine R2 (d_pickT rfl) rfl rfl ?_
      refine R_nil (by kernel_rfl) ?_
      refine K_then ?_
      refine C_bT rfl rfl ?_
      refine C_seq ?_
      refine C_reg ?_
      refine R1 d_assign rfl ?_
      refine R_nil (by kernel_rfl) ?_
      refine K_then ?_
      refine C_ret ?_
      refine K_retT ?_
      exact E_ret1 Plain.mk' rfl rfl (Le.bool (by rw [rightL, hvl, decide_eq_false (show ¬ b.length = l.length by omega)]; rfl))
    ·
      refine RGon (decide_eq_false h80_2) rfl (d_fieldO fo25_2 rfl) rfl ⟨rfl, trivial⟩ trivial trivial ?_
      refine RG_loadF (decide_eq_false h80_2) rfl rfl (0) ti23 rfl rfl rfl (At.g 2 rfl rfl) rfl ?_
      refine RGon (decide_eq_false h80_2) rfl (d_len Tryz.underlying23) rfl ⟨rfl, trivial⟩ trivial trivial ?_
      refine RGon (decide_eq_false h80_2) rfl d_move rfl ⟨rfl, trivial⟩ trivial trivial ?_
      refine RGon (decide_eq_false h80_2) rfl (d_len Tryz.underlying22) rfl ⟨rfl, trivial⟩ trivial trivial ?_
      refine RGon (decide_eq_false h80_2) rfl d_neq rfl ⟨rfl, rfl, trivial⟩ trivial trivial ?_
      refine R2 (d_pickF (decide_eq_false h80_2)) rfl rfl ?_
      refine R1 d_move rfl ?_
      refine RGcaseD (t := 26) rfl (fun h80_3 => ?_) (fun h80_3 => ?_)
      ·
        refine RGoff (decide_eq_true h80_3) rfl rfl ?_
        refine RGoff (decide_eq_true h80_3) rfl rfl ?_
        refine RGoff (decide_eq_true h80_3) rfl rfl ?_
        refine RGoff (decide_eq_true h80_3) rfl rfl ?_
        refine R2 (d_pickT (decide_eq_true h80_3)) rfl rfl ?_
        refine R_nil (by kernel_rfl) ?_
        refine K_then ?_
        refine C_bT rfl rfl ?_
        refine C_seq ?_
        refine C_reg ?_
        refine R1 d_assign rfl ?_
        refine R_nil (by kernel_rfl) ?_
        refine K_then ?_
        refine C_ret ?_
        refine K_retT ?_
        exact E_ret1 Plain.mk' rfl rfl (Le.bool (by rw [rightL, hvl, decide_eq_false (show ¬ p.length = l.length by omega)]; simp))
      ·
        refine RGon (decide_eq_false h80_3) rfl (d_fieldO fo25_0 rfl) rfl ⟨rfl, trivial⟩ trivial trivial ?_
        refine RG_loadF (decide_eq_false h80_3) rfl rfl (0) ti3 rfl rfl rfl (At.g 0 rfl rfl) rfl ?_
        refine RGon (decide_eq_false h80_3) rfl (d_call (c_within _) fi45 rfl) rfl ⟨rfl, trivial⟩ trivial trivial ?_
        refine RGon (decide_eq_false h80_3) rfl d_not rfl ⟨rfl, trivial⟩ trivial trivial ?_
        refine R2 (d_pickF (decide_eq_false h80_3)) rfl rfl ?_
        refine R_nil (by kernel_rfl) ?_
        refine K_then ?_
        refine C_cond rfl (fun h80_4 => ?_) (fun h80_4 => ?_)
        ·
          have hwo : wIn o = false := by simpa using h80_4
          refine C_seq ?_
          refine C_reg ?_
          refine R1 d_assign rfl ?_
          refine R_nil (by kernel_rfl) ?_
          refine K_then ?_
          refine C_ret ?_
          refine K_retT ?_
          exact E_ret1 Plain.mk' rfl rfl (Le.bool (by rw [rightL, hwo]; simp))
        ·
          have hwo : wIn o = true := by simpa using h80_4
          refine C_skip ?_
          refine K_then ?_
          refine C_seq ?_
          refine C_seq ?_
          refine C_reg ?_
          refine R1 d_move rfl ?_
          refine R1 (d_len Tryz.underlying22) rfl ?_
          refine R1 d_move rfl ?_
          refine R_nil (by kernel_rfl) ?_
          refine K_then ?_
          refine C_block ?_
          refine C_loop (fun (i : Nat) => i ≤ l.length ∧ (List.range i).all (fun i => wIn (b.getD i 0) && decide (p.getD i 0 = take (l.getD i deal0).share.rat (b.getD i 0))) = true) (fun (i : Nat) => upd (upd (upd (upd (fun _ => none) 3 (some (.own (.ptr 3 0)))) 32 (some (.val (tL 7 true tDeal l)))) 33 (some (.val (tI l.length)))) 34 (some (.val (tI i)))) (fun (i : Nat) => upd (fun _ => none) 3 (some (⟨25, 3, true, [.val (tState o b p)]⟩))) (nm [3]) (fun (i : Nat) => l.length - i) (0) ⟨Nat.zero_le _, rfl⟩ (Sub.int rfl (by first | omega | rfl | (dsimp only; omega)) (Sub.int rfl (by first | omega | rfl | (dsimp only; omega)) (Sub.cons rfl (Sub.cons rfl Sub.nil)))) ((SubK.consI rfl ImpK.refl) SubK.nil) (SupG.val (SupG.val (SupG.val (SupG.own rfl SupG.nil)))) (SupH.cons rfl (supJL rfl) SupH.nil) (lkOk rfl) ?_
          intro i hI
          obtain ⟨hi, ha⟩ := hI
          refine C_seq ?_
          refine C_reg ?_
          refine R2 d_lss rfl rfl ?_
          refine R_nil (by kernel_rfl) ?_
          refine K_then ?_
          refine C_seq ?_
          refine C_if rfl (fun h83 => ?_) (fun h83 => ?_)
          ·
            refine C_skip ?_
            refine K_then ?_
            refine C_seq ?_
            refine C_block ?_
            refine C_seq ?_
            refine C_reg ?_
            refine R1 d_move rfl ?_
            refine R2 (d_indexP sl22 i (by omega) (gD (l := l) (n := i) (d := deal0) (by omega))) rfl rfl ?_
            refine R1 (d_loadP ti68) rfl ?_
            refine RE (d_alloc (k := 6) (n := 7) (agg := true) zr68.1 zr68.2 rfl) trivial trivial ⟨rfl, trivial⟩ ?_
            refine R1 d_assign rfl ?_
            refine RE (d_store (es := 7) (agg := true) (0) ti68 rfl rfl rfl) ⟨rfl, rfl, trivial⟩ ⟨rfl, trivial⟩ trivial ?_
            refine R_nil (by kernel_rfl) ?_
            refine K_then ?_
            refine C_seq ?_
            refine C_draw mixed ?_
            refine R1 (d_fieldO fo25_1 rfl) rfl ?_
            refine R_loadF (0) ti23 rfl rfl rfl (At.g 1 rfl rfl) rfl ?_
            refine R1 d_move rfl ?_
            refine R2 (d_indexP sl23 (i) (by omega) (gZ (by omega))) rfl rfl ?_
            refine R1 (d_loadP ti3) rfl ?_
            refine R1 (d_call (c_within _) fi45 rfl) rfl ?_
            refine R1 d_not rfl ?_
            refine R1 d_move rfl ?_
            refine RGcase (t := 46) rfl (fun h84 => ?_) (fun h84 => ?_)
            ·
              have hbad : (fun i => wIn (b.getD i 0) && decide (p.getD i 0 = take (l.getD i deal0).share.rat (b.getD i 0))) i = false := by
                have hw : wIn (b.getD i 0) = false := by simpa using h84
                simp only [hw, Bool.false_and]
              refine RGoff h84 rfl rfl ?_
              refine RGoff h84 rfl rfl ?_
              refine RGoff h84 rfl rfl ?_
              refine RGoff h84 rfl rfl ?_
              refine RGoff h84 rfl rfl ?_
              refine RGoff h84 rfl rfl ?_
              refine RGoff h84 rfl rfl ?_
              refine RGoff h84 rfl rfl ?_
              refine RGoff h84 rfl rfl ?_
              refine RGoff h84 rfl rfl ?_
              refine RGoff h84 rfl rfl ?_
              refine RGoff h84 rfl rfl ?_
              refine RGoff h84 rfl rfl ?_
              refine RGoff h84 rfl rfl ?_
              refine R2 (d_pickT h84) rfl rfl ?_
              refine R_end (by kernel_rfl) ?_
              refine K_then ?_
              refine C_bT rfl rfl ?_
              refine C_seq ?_
              refine C_reg ?_
              refine R1 d_assign rfl ?_
              refine R_nil (by kernel_rfl) ?_
              refine K_then ?_
              refine C_ret ?_
              refine K_retB ?_
              refine K_retT ?_
              refine K_retT ?_
              refine K_retB ?_
              refine K_retT ?_
              exact E_ret1 Plain.mk' rfl rfl (Le.bool (by rw [rightL, range_stop (i := i) (by omega) hbad, Bool.and_false]))
            ·
              have hw : wIn (b.getD i 0) = true := by simpa using h84
              refine RGon h84 rfl (d_fieldO fo25_2 rfl) rfl ⟨rfl, trivial⟩ trivial trivial ?_
              refine RG_loadF h84 rfl rfl (0) ti23 rfl rfl rfl (At.g 2 rfl rfl) rfl ?_
              refine RGon h84 rfl d_move rfl ⟨rfl, trivial⟩ trivial trivial ?_
              refine RGon h84 rfl (d_indexP sl23 (i) (by omega) (gZ (by omega))) rfl ⟨rfl, rfl, trivial⟩ trivial trivial ?_
              refine RGon h84 rfl (d_loadP ti3) rfl ⟨rfl, trivial⟩ trivial trivial ?_
              refine RGon h84 rfl (d_fieldO fo68_2 rfl) rfl ⟨rfl, trivial⟩ trivial trivial ?_
              refine RG_loadF h84 rfl rfl (0) ti50 rfl rfl rfl (At.g 2 rfl rfl) rfl ?_
              refine RGon h84 rfl (d_fieldO fo25_1 rfl) rfl ⟨rfl, trivial⟩ trivial trivial ?_
              refine RG_loadF h84 rfl rfl (0) ti23 rfl rfl rfl (At.g 1 rfl rfl) rfl ?_
              refine RGon h84 rfl d_move rfl ⟨rfl, trivial⟩ trivial trivial ?_
              refine RGon h84 rfl (d_indexP sl23 (i) (by omega) (gZ (by omega))) rfl ⟨rfl, rfl, trivial⟩ trivial trivial ?_
              refine RGon h84 rfl (d_loadP ti3) rfl ⟨rfl, trivial⟩ trivial trivial ?_
              refine RGon h84 rfl (d_call (c_takeV _ (hD _ (getD_mem (l := l) (i := i) (d := deal0) (by omega))) (validL_get hvl (by omega)) _ hw) fi48 rfl) rfl ⟨rfl, rfl, trivial⟩ trivial trivial ?_
              refine RGon h84 rfl d_neq rfl ⟨rfl, rfl, trivial⟩ trivial trivial ?_
              refine R2 (d_pickF h84) rfl rfl ?_
              refine R_end (by kernel_rfl) ?_
              refine K_then ?_
              refine C_if rfl (fun h84_2 => ?_) (fun h84_2 => ?_)
              ·
                have hbad : (fun i => wIn (b.getD i 0) && decide (p.getD i 0 = take (l.getD i deal0).share.rat (b.getD i 0))) i = false := by
                  simp only [decide_eq_false (show ¬ p.getD i 0 = take (l.getD i deal0).share.rat (b.getD i 0) by omega), Bool.and_false]
                refine C_seq ?_
                refine C_reg ?_
                refine R1 d_assign rfl ?_
                refine R_nil (by kernel_rfl) ?_
                refine K_then ?_
                refine C_ret ?_
                refine K_retB ?_
                refine K_retT ?_
                refine K_retT ?_
                refine K_retB ?_
                refine K_retT ?_
                exact E_ret1 Plain.mk' rfl rfl (Le.bool (by rw [rightL, range_stop (i := i) (by omega) hbad, Bool.and_false]))
              ·
                refine C_skip ?_
                refine K_norB ?_
                refine K_then ?_
                refine C_reg ?_
                refine R2 (d_add (by first | exact wr64 (by omega) (by omega))) rfl rfl ?_
                refine R1 d_move rfl ?_
                refine R_nil (by kernel_rfl) ?_
                exact K_fam (i + 1) ⟨⟨by omega, by rw [range_next, ha, Bool.true_and, hw, Bool.true_and, decide_eq_true (by omega)]⟩, (by omega)⟩ (Sub.int rfl (by first | omega | rfl | (dsimp only; omega)) (Sub.int rfl (by first | omega | rfl | (dsimp only; omega)) (Sub.cons rfl (Sub.cons rfl Sub.nil)))) ((SubK.consI rfl ImpK.refl) SubK.nil) (SupG.val (SupG.val (SupG.val (SupG.own rfl SupG.nil)))) (SupH.cons rfl (supJL rfl) SupH.nil) (lkOk rfl)
          ·
            refine C_exit ?_
            refine K_exT ?_
            refine K_exT ?_
            refine K_exB ?_
            refine K_then ?_
            refine C_seq ?_
            refine C_reg ?_
            refine R1 d_assign rfl ?_
            refine R_nil (by kernel_rfl) ?_
            refine K_then ?_
            refine C_ret ?_
            exact E_ret1 Plain.mk' rfl rfl (Le.bool (by rw [rightL, hvl, hwo, decide_eq_true (show b.length = l.length by omega), decide_eq_true (show p.length = l.length by omega), ← show i = l.length by omega, ha]; rfl))
theorem c_SNew (l : List Deal) (hD : ∀ d ∈ l, d.share.dig) :
    Ct Tryz.prog 20 [tL 7 true tDeal l] (tT [tState 0 (if validL l then (List.replicate l.length (0 : Int)) else []) (if validL l then (List.replicate l.length (0 : Int)) else []), tI (if validL l then 0 else 2)]) := by
  refine Ct.intro Tryz.func20 rfl Tryz.ntmps20 rfl ?_
  intro w F
  refine C_seq ?_
  refine C_reg ?_
  refine RE (d_alloc (k := 2) (n := 3) (agg := true) zr25.1 zr25.2 rfl) trivial trivial ⟨rfl, trivial⟩ ?_
  refine R1 d_assign rfl ?_
  refine R_nil (by kernel_rfl) ?_
  refine K_then ?_
  refine C_seq ?_
  refine C_seq ?_
  refine C_reg ?_
  refine R1 d_move rfl ?_
  refine R1 (d_call (c_SValid l hD) fi19 rfl) rfl ?_
  refine R1 d_not rfl ?_
  refine R_nil (by kernel_rfl) ?_
  refine K_then ?_
  refine C_cond rfl (fun h93 => ?_) (fun h93 => ?_)
  ·
    have hvl : validL l = false := by simpa using h93
    refine C_seq ?_
    refine C_reg ?_
    refine R0 (d_build (r := tS [⟨1, false, (tE (.int .i64 0))⟩, ⟨1, false, (tIs [])⟩, ⟨1, false, (tIs [])⟩]) (ts := []) bu25 zr25.2 ⟨_, rfl⟩ rfl Le.refl)  ?_
    refine RE (d_store (es := 3) (agg := true) (0) ti25 rfl rfl rfl) ⟨rfl, rfl, trivial⟩ ⟨rfl, trivial⟩ trivial ?_
    refine R1 d_assign rfl ?_
    refine R_nil (by kernel_rfl) ?_
    refine K_then ?_
    refine C_ret ?_
    refine K_retT ?_
    exact E_retN Plain.mk' (rs := [.cell 2 25, .tmp 3]) rfl rfl ⟨⟨_, _, _, _, _, rfl, rfl, ti25, (Le.of (by rw [hvl]; rfl))⟩, ⟨_, rfl, (Le.int (by rw [hvl]; rfl))⟩, trivial⟩
  ·
    have hvl : validL l = true := by simpa using h93
    have hl16 := validL_len hvl
    refine C_skip ?_
    refine K_then ?_
    refine C_seq ?_
    refine C_draw mixed ?_
    refine R1 d_move rfl ?_
    refine R1 (d_len Tryz.underlying22) rfl ?_
    refine R2 (d_makeT (f := fun n : Int => tI n) (y0 := 0) (ys := (List.replicate l.length (0 : Int))) l.length l.length Tryz.underlying23 el3 (fun _ _ => rfl) inferInstance rfl rfl rfl (Nat.le_refl _) (by omega) (by omega) rfl) rfl rfl ?_
    refine R1 d_move rfl ?_
    refine R1 (d_len Tryz.underlying22) rfl ?_
    refine R2 (d_makeT (f := fun n : Int => tI n) (y0 := 0) (ys := (List.replicate l.length (0 : Int))) l.length l.length Tryz.underlying23 el3 (fun _ _ => rfl) inferInstance rfl rfl rfl (Nat.le_refl _) (by omega) (by omega) rfl) rfl rfl ?_
    refine R2 (d_build (r := tS [⟨1, false, (tE (.int .i64 0))⟩, ⟨1, false, tIs (List.replicate l.length (0 : Int))⟩, ⟨1, false, tIs (List.replicate l.length (0 : Int))⟩]) (ts := [(1, tIs (List.replicate l.length (0 : Int))), (2, tIs (List.replicate l.length (0 : Int)))]) bu25 zr25.2 ⟨_, rfl⟩ rfl ⟨_, _, _, _, rfl, Up.f (fs := [⟨1, false, (tE (.int .i64 0))⟩, ⟨1, false, (tIs [])⟩, ⟨1, false, (tIs [])⟩]) (f := ⟨1, false, (tIs [])⟩) (fs' := [⟨1, false, (tE (.int .i64 0))⟩, ⟨1, false, tIs (List.replicate l.length (0 : Int))⟩, ⟨1, false, (tIs [])⟩]) 1 rfl rfl rfl, inferInstance, ⟨_, _, _, _, rfl, Up.f (fs := [⟨1, false, (tE (.int .i64 0))⟩, ⟨1, false, tIs (List.replicate l.length (0 : Int))⟩, ⟨1, false, (tIs [])⟩]) (f := ⟨1, false, (tIs [])⟩) (fs' := [⟨1, false, (tE (.int .i64 0))⟩, ⟨1, false, tIs (List.replicate l.length (0 : Int))⟩, ⟨1, false, tIs (List.replicate l.length (0 : Int))⟩]) 2 rfl rfl rfl, inferInstance, Le.refl⟩⟩) rfl rfl ?_
    refine RE (d_store (es := 3) (agg := true) (0) ti25 rfl rfl rfl) ⟨rfl, rfl, trivial⟩ ⟨rfl, trivial⟩ trivial ?_
    refine R1 d_assign rfl ?_
    refine R_end (by kernel_rfl) ?_
    refine K_then ?_
    refine C_ret ?_
    exact E_retN Plain.mk' (rs := [.cell 2 25, .tmp 3]) rfl rfl ⟨⟨_, _, _, _, _, rfl, rfl, ti25, (Le.of (by rw [hvl]; rfl))⟩, ⟨_, rfl, (Le.int (by rw [hvl]; rfl))⟩, trivial⟩
end An.S

/- Layer 24: the deals that apply for a month. Plain data. -/
namespace An
open Go
def Deal.on (d : Deal) (m : Int) : Bool := decide (d.lo ≤ m) && decide (m < d.hi)
/-- Of the first i deals, those that apply. -/
def apl1 (l : List Deal) (m : Int) (i : Nat) : List Nat := (List.range i).filter fun j => (l.getD j deal0).on m
def apl (l : List Deal) (m : Int) : List Nat := apl1 l m l.length
theorem apl1_yes {l : List Deal} {m : Int} {i : Nat} (h : (l.getD i deal0).on m = true) : apl1 l m (i + 1) = apl1 l m i ++ [i] := by
  rw [apl1, List.range_succ, List.filter_append, List.filter_cons_of_pos (by exact h), List.filter_nil]; rfl
theorem apl1_no {l : List Deal} {m : Int} {i : Nat} (h : (l.getD i deal0).on m = false) : apl1 l m (i + 1) = apl1 l m i := by
  rw [apl1, List.range_succ, List.filter_append, List.filter_cons_of_neg (by rw [h]; exact Bool.false_ne_true), List.filter_nil, List.append_nil]; rfl
theorem apl1_pre {l : List Deal} {m : Int} (i j : Nat) : ∃ r, apl1 l m (i + j) = apl1 l m i ++ r := by
  induction j with
  | zero => exact ⟨[], by simp⟩
  | succ j ih =>
    obtain ⟨r, hr⟩ := ih
    cases h : (l.getD (i + j) deal0).on m with
    | true => exact ⟨r ++ [i + j], by rw [← Nat.add_assoc, apl1_yes h, hr, List.append_assoc]⟩
    | false => exact ⟨r, by rw [← Nat.add_assoc, apl1_no h, hr]⟩
theorem apl_at {l : List Deal} {m : Int} {i : Nat} (hi : i < l.length) (h : (l.getD i deal0).on m = true) : (apl1 l m i).length < (apl l m).length ∧ (apl l m).getD (apl1 l m i).length 0 = i := by
  obtain ⟨r, hr⟩ := apl1_pre (l := l) (m := m) (i + 1) (l.length - (i + 1))
  rw [show i + 1 + (l.length - (i + 1)) = l.length by omega, apl1_yes h] at hr
  have hr : apl l m = apl1 l m i ++ [i] ++ r := hr
  rw [hr]
  constructor
  · simp only [List.length_append, List.length_singleton]; omega
  · simp [List.getD_eq_getElem?_getD]
theorem on_yes {d : Deal} {m : Int} (h1 : d.lo ≤ m) (h2 : m < d.hi) : d.on m = true := by simp [Deal.on, h1, h2]
theorem on_no1 {d : Deal} {m : Int} (h1 : ¬ d.lo ≤ m) : d.on m = false := by simp [Deal.on, h1]
theorem on_no2 {d : Deal} {m : Int} (h2 : ¬ m < d.hi) : d.on m = false := by simp [Deal.on, h2]
end An

/- Package split: the deals that apply; the divider. -/
namespace An.S
open Go Go.Proofs An
set_option maxHeartbeats 2000000
theorem ti22 : TyI Tryz.prog 22 1 false := ⟨by kernel_rfl, by kernel_rfl⟩
theorem c_applying (l : List Deal) (m : Int) :
    CtG Tryz.prog 50 [] [.val (tL 7 true tDeal l), .val (tI m)] (.own (.fn 81 [.ptr 2 0, .ptr 3 0])) [(2, ⟨22, 1, false, [.val (tL 7 true tDeal l)]⟩), (3, ⟨3, 1, false, [.val (tI m)]⟩)] [2, 3] := by
  refine CtG.intro [] Tryz.func50 rfl Tryz.ntmps50 rfl rfl trivial ?_
  intro w F η
  refine C_seq ?_
  refine C_reg ?_
  refine RE (d_box (k := 2) ti22 rfl) ⟨rfl, trivial⟩ trivial ⟨rfl, trivial⟩ ?_
  refine RE (d_box (k := 3) ti3 rfl) ⟨rfl, trivial⟩ trivial ⟨rfl, trivial⟩ ?_
  refine R1 d_assign rfl ?_
  refine R_nil (by kernel_rfl) ?_
  refine K_then ?_
  refine C_seq ?_
  refine C_reg ?_
  refine R2 (d_makeFunc (ps := [.ptr 2 0, .ptr 3 0]) rfl) rfl rfl ?_
  refine R1 d_assign rfl ?_
  refine R_nil (by kernel_rfl) ?_
  refine K_then ?_
  refine C_ret ?_
  exact E_retG1 LentC.mk' rfl rfl Imp.refl ⟨rfl, rfl, trivial⟩ rfl ⟨⟨rfl, (SupX.lit rfl)⟩, ⟨rfl, (SupX.lit rfl)⟩, trivial⟩ rfl
theorem kq {m n : Nat} (h : m = n) : some (HEnt.mk (2 * m) 1 false []) = some (HEnt.mk (2 * n) 1 false []) := by rw [h]
theorem apl_le {l : List Deal} {m : Int} {i : Nat} (hi : i < l.length) (h : (l.getD i deal0).on m = true) : LeL [tI (i : Int), tDeal (l.getD i deal0)] ((fun k => [tI (((apl l m).getD k 0 : Nat) : Int), tDeal (l.getD ((apl l m).getD k 0) deal0)]) (apl1 l m i).length) := by
  show LeL _ [tI (((apl l m).getD (apl1 l m i).length 0 : Nat) : Int), tDeal (l.getD ((apl l m).getD (apl1 l m i).length 0) deal0)]
  rw [(apl_at hi h).2]
  exact ⟨Le.refl, Le.refl, trivial⟩
theorem i_applying (ds : List Deal) (m : Int) (hl : ds.length ≤ 16) :
    ItC Tryz.prog 81 [(1, ⟨22, 1, false, [.val (tL 7 true tDeal ds)]⟩), (2, ⟨3, 1, false, [.val (tI m)]⟩)] [.ptr 1 0, .ptr 2 0] ((apl ds m).length) (fun k => [tI (((apl ds m).getD k 0 : Nat) : Int), tDeal (ds.getD ((apl ds m).getD k 0) deal0)]) := by
  refine ItC.intro (K := 99) [1, 2] Tryz.func81 rfl Tryz.ntmps81 rfl rfl ⟨⟨rfl, (SupX.lit rfl)⟩, ⟨rfl, (SupX.lit rfl)⟩, trivial⟩ rfl ?_
  intro w F η l V J Jc hB
  refine C_seq ?_
  refine C_reg ?_
  refine RE (d_load (0) ti22 rfl rfl) ⟨rfl, trivial⟩ ⟨rfl, trivial⟩ trivial ?_
  refine R1 (d_len Tryz.underlying22) rfl ?_
  refine R1 d_move rfl ?_
  refine R_nil (by kernel_rfl) ?_
  refine K_then ?_
  refine C_block ?_
  refine C_loop (fun (i : Nat) => i ≤ ds.length) (fun (i : Nat) => upd (upd (upd (upd (upd (upd (fun _ => none) 0 (some (.val (tE (.func (.yield l) #[] #[]))))) 1 (some (.own (.ptr 1 0)))) 2 (some (.own (.ptr 2 0)))) 6 (some (.val (tL 7 true tDeal ds)))) 7 (some (.val (tI ds.length)))) 8 (some (.val (tI i)))) (fun (i : Nat) => upd (upd (upd (fun _ => none) 1 (some (⟨22, 1, false, [.val (tL 7 true tDeal ds)]⟩))) 2 (some (⟨3, 1, false, [.val (tI m)]⟩))) 99 (some (⟨2 * (apl1 ds m i).length, 1, false, []⟩))) (nm [1, 2, 99]) (fun (i : Nat) => ds.length - i) (0) (Nat.zero_le _) (Sub.int rfl (by first | omega | rfl | (dsimp only; omega)) (Sub.int rfl (by first | omega | rfl | (dsimp only; omega)) (Sub.cons rfl (Sub.cons rfl (Sub.cons rfl (Sub.cons rfl Sub.nil)))))) (SubK.cons rfl (SubK.cons rfl (SubK.cons rfl SubK.nil))) (SupG.val (SupG.val (SupG.val (SupG.own rfl (SupG.own rfl (SupG.val SupG.nil)))))) (SupH.cons rfl (supJL rfl) (SupH.cons rfl (supJL rfl) (SupH.cons rfl (supJL rfl) SupH.nil))) (lkOk rfl) ?_
  intro i hI
  refine C_seq ?_
  refine C_reg ?_
  refine R2 d_lss rfl rfl ?_
  refine R_nil (by kernel_rfl) ?_
  refine K_then ?_
  refine C_seq ?_
  refine C_if rfl (fun h102 => ?_) (fun h102 => ?_)
  ·
    refine C_skip ?_
    refine K_then ?_
    refine C_seq ?_
    refine C_block ?_
    refine C_seq ?_
    refine C_reg ?_
    refine R1 d_move rfl ?_
    refine R2 (d_indexP sl22 i (by omega) (gD (l := ds) (n := i) (d := deal0) (by omega))) rfl rfl ?_
    refine R1 (d_loadP ti68) rfl ?_
    refine RE (d_alloc (k := 5) (n := 7) (agg := true) zr68.1 zr68.2 rfl) trivial trivial ⟨rfl, trivial⟩ ?_
    refine R1 d_assign rfl ?_
    refine RE (d_store (es := 7) (agg := true) (0) ti68 rfl rfl rfl) ⟨rfl, rfl, trivial⟩ ⟨rfl, trivial⟩ trivial ?_
    refine R_nil (by kernel_rfl) ?_
    refine K_then ?_
    refine C_seq ?_
    refine C_regY ?_
    refine wl_op (d_fieldO fo68_0 rfl) ⟨rfl, trivial⟩ trivial trivial rfl ?_
    refine wl_loadF (0) ti3 rfl rfl rfl (At.g 0 rfl rfl) rfl rfl ?_
    refine wl_op (d_load (0) ti3 rfl rfl) ⟨rfl, trivial⟩ ⟨rfl, trivial⟩ trivial rfl ?_
    refine wl_op d_leq ⟨rfl, rfl, trivial⟩ trivial trivial rfl ?_
    refine wl_op d_move ⟨rfl, trivial⟩ trivial trivial rfl ?_
    refine wl_caseD (t := 17) rfl (fun h103 => ?_) (fun h103 => ?_)
    ·
      refine wl_on (decide_eq_true h103) rfl (d_load (0) ti3 rfl rfl) rfl ⟨rfl, trivial⟩ ⟨rfl, trivial⟩ trivial rfl ?_
      refine wl_on (decide_eq_true h103) rfl (d_fieldO fo68_1 rfl) rfl ⟨rfl, trivial⟩ trivial trivial rfl ?_
      refine wlG_loadF (decide_eq_true h103) rfl rfl (0) ti3 rfl rfl rfl (At.g 1 rfl rfl) rfl rfl ?_
      refine wl_on (decide_eq_true h103) rfl d_lss rfl ⟨rfl, rfl, trivial⟩ trivial trivial rfl ?_
      refine wl_op (d_pickT (decide_eq_true h103)) ⟨rfl, rfl, trivial⟩ trivial trivial rfl ?_
      refine wl_op d_move ⟨rfl, trivial⟩ trivial trivial rfl ?_
      refine wl_caseD (t := 23) rfl (fun h103_2 => ?_) (fun h103_2 => ?_)
      ·
        refine wl_on (decide_eq_true h103_2) rfl d_move rfl ⟨rfl, trivial⟩ trivial trivial rfl ?_
        refine wl_on (decide_eq_true h103_2) rfl d_move rfl ⟨rfl, trivial⟩ trivial trivial rfl ?_
        refine wl_on (decide_eq_true h103_2) rfl (d_load (0) ti68 rfl rfl) rfl ⟨rfl, trivial⟩ ⟨rfl, trivial⟩ trivial rfl ?_
        have hon := on_yes h103 h103_2
        refine wl_yield (ts := [tI (i : Int), tDeal (ds.getD i deal0)]) hB (wanted_on rfl (decide_eq_true h103_2) rfl rfl) rfl rfl ⟨rfl, rfl, trivial⟩ rfl rfl (apl_at (by omega) hon).1 (apl_le (by omega) hon) ?_ ?_
        ·
          refine wl_on (decide_eq_true h103_2) rfl d_not rfl ⟨rfl, trivial⟩ trivial trivial rfl ?_
          refine wl_op (d_pickT (decide_eq_true h103_2)) ⟨rfl, rfl, trivial⟩ trivial trivial rfl ?_
          refine wl_nil ?_
          refine K_then ?_
          refine C_bF rfl rfl ?_
          refine C_skip ?_
          refine K_norB ?_
          refine K_then ?_
          refine C_reg ?_
          refine R2 (d_add (by first | exact wr64 (by omega) (by omega))) rfl rfl ?_
          refine R1 d_move rfl ?_
          refine R_nil (by kernel_rfl) ?_
          exact K_fam (i + 1) ⟨(by omega), (by omega)⟩ (Sub.int rfl (by first | omega | rfl | (dsimp only; omega)) (Sub.int rfl (by first | omega | rfl | (dsimp only; omega)) (Sub.cons rfl (Sub.cons rfl (Sub.cons rfl (Sub.cons rfl Sub.nil)))))) ((SubK.cons (kq (by rw [apl1_yes hon, List.length_append, List.length_singleton]))) (SubK.cons rfl (SubK.cons rfl SubK.nil))) (SupG.val (SupG.val (SupG.val (SupG.own rfl (SupG.own rfl (SupG.val SupG.nil)))))) (SupH.cons rfl (supJL rfl) (SupH.cons rfl (supJL rfl) (SupH.cons rfl (supJL rfl) SupH.nil))) (lkOk rfl)
        ·
          refine wl_on (decide_eq_true h103_2) rfl d_not rfl ⟨rfl, trivial⟩ trivial trivial rfl ?_
          refine wl_op (d_pickT (decide_eq_true h103_2)) ⟨rfl, rfl, trivial⟩ trivial trivial rfl ?_
          refine wl_nil ?_
          refine K_then ?_
          refine C_bT rfl rfl ?_
          refine C_ret ?_
          refine K_retB ?_
          refine K_retT ?_
          refine K_retT ?_
          refine K_retB ?_
          exact E_it hB rfl trivial rfl (.inl rfl) rfl (.inr ⟨(apl1 ds m i).length, (apl_at (by omega) hon).1, rfl⟩)
      ·
        refine wl_off (decide_eq_false h103_2) rfl rfl rfl ?_
        refine wl_off (decide_eq_false h103_2) rfl rfl rfl ?_
        refine wl_off (decide_eq_false h103_2) rfl rfl rfl ?_
        refine wl_off (decide_eq_false h103_2) rfl rfl rfl ?_
        refine wl_off (decide_eq_false h103_2) rfl rfl rfl ?_
        refine wl_op (d_pickF (decide_eq_false h103_2)) ⟨rfl, rfl, trivial⟩ trivial trivial rfl ?_
        refine wl_nil ?_
        refine K_then ?_
        refine C_bF rfl rfl ?_
        refine C_skip ?_
        refine K_norB ?_
        refine K_then ?_
        refine C_reg ?_
        refine R2 (d_add (by first | exact wr64 (by omega) (by omega))) rfl rfl ?_
        refine R1 d_move rfl ?_
        refine R_nil (by kernel_rfl) ?_
        exact K_fam (i + 1) ⟨(by omega), (by omega)⟩ (Sub.int rfl (by first | omega | rfl | (dsimp only; omega)) (Sub.int rfl (by first | omega | rfl | (dsimp only; omega)) (Sub.cons rfl (Sub.cons rfl (Sub.cons rfl (Sub.cons rfl Sub.nil)))))) ((SubK.cons (kq (by rw [apl1_no (on_no2 h103_2)]))) (SubK.cons rfl (SubK.cons rfl SubK.nil))) (SupG.val (SupG.val (SupG.val (SupG.own rfl (SupG.own rfl (SupG.val SupG.nil)))))) (SupH.cons rfl (supJL rfl) (SupH.cons rfl (supJL rfl) (SupH.cons rfl (supJL rfl) SupH.nil))) (lkOk rfl)
    ·
      refine wl_off (decide_eq_false h103) rfl rfl rfl ?_
      refine wl_off (decide_eq_false h103) rfl rfl rfl ?_
      refine wl_off (decide_eq_false h103) rfl rfl rfl ?_
      refine wl_off (decide_eq_false h103) rfl rfl rfl ?_
      refine wl_op (d_pickF (decide_eq_false h103)) ⟨rfl, rfl, trivial⟩ trivial trivial rfl ?_
      refine wl_op d_move ⟨rfl, trivial⟩ trivial trivial rfl ?_
      refine wl_off rfl rfl rfl rfl ?_
      refine wl_off rfl rfl rfl rfl ?_
      refine wl_off rfl rfl rfl rfl ?_
      refine wl_off rfl rfl rfl rfl ?_
      refine wl_off rfl rfl rfl rfl ?_
      refine wl_op (d_pickF rfl) ⟨rfl, rfl, trivial⟩ trivial trivial rfl ?_
      refine wl_nil ?_
      refine K_then ?_
      refine C_bF rfl rfl ?_
      refine C_skip ?_
      refine K_norB ?_
      refine K_then ?_
      refine C_reg ?_
      refine R2 (d_add (by first | exact wr64 (by omega) (by omega))) rfl rfl ?_
      refine R1 d_move rfl ?_
      refine R_nil (by kernel_rfl) ?_
      exact K_fam (i + 1) ⟨(by omega), (by omega)⟩ (Sub.int rfl (by first | omega | rfl | (dsimp only; omega)) (Sub.int rfl (by first | omega | rfl | (dsimp only; omega)) (Sub.cons rfl (Sub.cons rfl (Sub.cons rfl (Sub.cons rfl Sub.nil)))))) ((SubK.cons (kq (by rw [apl1_no (on_no1 h103)]))) (SubK.cons rfl (SubK.cons rfl SubK.nil))) (SupG.val (SupG.val (SupG.val (SupG.own rfl (SupG.own rfl (SupG.val SupG.nil)))))) (SupH.cons rfl (supJL rfl) (SupH.cons rfl (supJL rfl) (SupH.cons rfl (supJL rfl) SupH.nil))) (lkOk rfl)
  ·
    refine C_exit ?_
    refine K_exT ?_
    refine K_exT ?_
    refine K_exB ?_
    exact E_it hB rfl trivial rfl (.inr rfl) rfl (.inl (by rw [show i = ds.length by omega]; rfl))
end An.S

/- Layer 24: what the divider does. Plain data. -/
namespace An
open Go
/-- What was applied, what was paid, the parts, and the rest. -/
structure Dv where
  b : List Int
  p : List Int
  q : List Int
  r : Int
def shr (l : List Deal) (i : Nat) : Rat := (l.getD i deal0).share.rat
def Dv.n (s : Dv) (i : Nat) : Int := s.b.getD i 0 + s.r
def Dv.pd (l : List Deal) (s : Dv) (i : Nat) : Int := take (shr l i) (s.n i)
def dv1 (l : List Deal) (s : Dv) (i : Nat) : Dv := ⟨s.b.set i (s.n i), s.p.set i (s.pd l i), s.q.set (i + 1) (s.pd l i - s.p.getD i 0), s.r - (s.pd l i - s.p.getD i 0)⟩
def dvRun (l : List Deal) : Dv → List Nat → Dv × Bool
  | s, [] => (s, true)
  | s, i :: r => if wIn (s.n i) then dvRun l (dv1 l s i) r else (⟨s.b.set i (s.n i), s.p, s.q, s.r⟩, false)
structure DvI (l : List Deal) (k : Nat) (s : Dv) : Prop where
  b : s.b.length = l.length
  p : s.p.length = l.length
  q : s.q.length = l.length + 1
  w : ∀ i, i < l.length → wIn (s.b.getD i 0) = true ∧ wIn (s.p.getD i 0) = true
  r : -1099511627776 - (k : Int) * 2199023255552 ≤ s.r ∧ s.r ≤ 1099511627776 + (k : Int) * 2199023255552
theorem wIn_take {q : Rat} {n : Int} (h0 : 0 ≤ q) (h1 : q ≤ 1) (hn : wIn n = true) : wIn (take q n) = true := by
  obtain ⟨h2, h3⟩ := take_bd (n := n) h0 h1
  obtain ⟨h4, h5⟩ := wIn_iff.1 hn
  rw [wIn_iff]
  rcases Int.le_total 0 n with h | h
  · have := h2 h; omega
  · have := h3 h; omega
theorem getD_set_int {l : List Int} {i j : Nat} {x : Int} (h : i < l.length) : (l.set i x).getD j 0 = if j = i then x else l.getD j 0 := by
  rw [List.getD_eq_getElem?_getD, List.getD_eq_getElem?_getD, List.getElem?_set]
  by_cases hij : i = j
  · subst hij; simp [h]
  · rw [if_neg hij, if_neg (fun e => hij e.symm)]
theorem share_nonneg {d : Deal} (hD : d.share.dig) (hv : d.valid = true) : 0 ≤ d.share.rat ∧ d.share.rat ≤ 1 := by
  obtain ⟨_, _, _, v1, v2, v3, _⟩ := Deal.valid_iff.1 hv
  obtain ⟨e, _⟩ := Fr.of_valid' hD v1
  rw [e] at v2
  have h1 : ¬ d.share.rat.num < 0 := of_decide_eq_false v2
  exact ⟨Rat.num_nonneg.1 (by omega), v3⟩
theorem validL_at {l : List Deal} {i : Nat} (h : validL l = true) (hi : i < l.length) : (l.getD i deal0).valid = true := by
  simp only [validL, Bool.and_eq_true, List.all_eq_true] at h
  have e : l.getD i deal0 = l[i] := by simp [hi]
  rw [e]
  exact h.2 _ (List.getElem_mem hi)
theorem shr_bd {l : List Deal} {i : Nat} (hv : validL l = true) (hD : ∀ d ∈ l, d.share.dig) (hi : i < l.length) : 0 ≤ shr l i ∧ shr l i ≤ 1 := by
  have e : l.getD i deal0 = l[i] := by simp [hi]
  exact share_nonneg (by rw [e]; exact hD _ (List.getElem_mem hi)) (validL_at hv hi)
theorem DvI.pd {l : List Deal} {s : Dv} {i : Nat} (hv : validL l = true) (hD : ∀ d ∈ l, d.share.dig) (hi : i < l.length) (hw : wIn (s.n i) = true) : wIn (s.pd l i) = true := by
  obtain ⟨h0, h1⟩ := shr_bd hv hD hi
  exact wIn_take h0 h1 hw
theorem DvI.next {l : List Deal} {k : Nat} {s : Dv} {i : Nat} (h : DvI l k s) (hv : validL l = true) (hD : ∀ d ∈ l, d.share.dig) (hi : i < l.length) (hw : wIn (s.n i) = true) : DvI l (k + 1) (dv1 l s i) := by
  have hp := DvI.pd (s := s) hv hD hi hw
  obtain ⟨h1, h2, h3, h4, h5⟩ := h
  refine ⟨by simp [dv1, h1], by simp [dv1, h2], by simp [dv1, h3], fun j hj => ?_, ?_⟩
  · simp only [dv1]
    rw [getD_set_int (by omega), getD_set_int (by omega)]
    split
    · exact ⟨hw, hp⟩
    · exact h4 j hj
  · have h6 := wIn_iff.1 (h4 i hi).2
    have h7 := wIn_iff.1 hp
    simp only [dv1, Int.natCast_add]
    omega
theorem apl_lt {l : List Deal} {m : Int} {k : Nat} (hk : k < (apl l m).length) : (apl l m).getD k 0 < l.length ∧ (l.getD ((apl l m).getD k 0) deal0).on m = true := by
  have e : (apl l m).getD k 0 = (apl l m)[k] := by simp [hk]
  have h := List.getElem_mem hk
  rw [e]
  have h' := List.mem_filter.1 h
  exact ⟨List.mem_range.1 h'.1, h'.2⟩
theorem apl_len {l : List Deal} {m : Int} : (apl l m).length ≤ l.length := by
  have := List.length_filter_le (fun j => (l.getD j deal0).on m) (List.range l.length)
  rw [List.length_range] at this; exact this
theorem drop_at {is : List Nat} {k : Nat} (hk : k < is.length) : is.drop k = is.getD k 0 :: is.drop (k + 1) := by
  rw [List.drop_eq_getElem_cons hk]; simp [hk]
theorem run_yes {l : List Deal} {s : Dv} {is : List Nat} {k : Nat} {X : Dv × Bool} (hk : k < is.length) (h : dvRun l s (is.drop k) = X) (hw : wIn (s.n (is.getD k 0)) = true) : dvRun l (dv1 l s (is.getD k 0)) (is.drop (k + 1)) = X := by
  rw [drop_at hk, dvRun, if_pos hw] at h; exact h
theorem run_no {l : List Deal} {s : Dv} {is : List Nat} {k : Nat} {X : Dv × Bool} (hk : k < is.length) (h : dvRun l s (is.drop k) = X) (hw : wIn (s.n (is.getD k 0)) = false) : X = (⟨s.b.set (is.getD k 0) (s.n (is.getD k 0)), s.p, s.q, s.r⟩, false) := by
  rw [drop_at hk, dvRun, if_neg (by rw [hw]; exact Bool.false_ne_true)] at h; exact h.symm
theorem run_end {l : List Deal} {s : Dv} {is : List Nat} {X : Dv × Bool} (h : dvRun l s (is.drop is.length) = X) : X = (s, true) := by
  rw [List.drop_length, dvRun] at h; exact h.symm
end An
