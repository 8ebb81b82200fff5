/- Part 3 of a proof: W3, Mul, Shift, W4, Knuth, Dstep, W5, Div, W6, Diff, W7, Lehmer, W8, Wh, Wh2. -/
import Derived.Test.YtakdpdkifnkaeaaGreatProg
import Derived.Lib.BitFns
import Derived.Test.YtakdpdkifnkaeaaGreatS2
/- Package whole: numbers in words. -/
namespace An.S
open Go Go.Proofs An
theorem ti121 : TyI Tryz.prog 121 1 false := ⟨by kernel_rfl, by kernel_rfl⟩
theorem ti133 : TyI Tryz.prog 133 1 false := ⟨by kernel_rfl, by kernel_rfl⟩
theorem ti331 : TyI Tryz.prog 331 1 false := ⟨by kernel_rfl, by kernel_rfl⟩
theorem fi184 : FnI Tryz.prog 184 := ⟨_, Tryz.func184, by kernel_rfl, rfl⟩
theorem fi231 : FnI Tryz.prog 231 := ⟨_, Tryz.func231, by kernel_rfl, rfl⟩
theorem fi236 : FnI Tryz.prog 236 := ⟨_, Tryz.func236, by kernel_rfl, rfl⟩
theorem fi237 : FnI Tryz.prog 237 := ⟨_, Tryz.func237, by kernel_rfl, rfl⟩
theorem fi250 : FnI Tryz.prog 250 := ⟨_, Tryz.func250, by kernel_rfl, rfl⟩
theorem zr121 : (Tryz.prog.info? 121).bind (·.zero) = some (.int .u64 0) ∧ ∀ F w, (tE (.int .u64 0)).p F w (.int .u64 0) := ⟨by kernel_rfl, fun _ _ => rfl⟩
theorem zr133 : (Tryz.prog.info? 133).bind (·.zero) = some (.slice none 0 0) ∧ ∀ F w, (tWs []).p F w (.slice none 0 0) := ⟨by kernel_rfl, fun _ _ => ⟨none, 0, rfl, Nat.le_refl _, by decide, .inl rfl⟩⟩
theorem succ_pred {a b k : Nat} (h0 : 0 < k) (h : a / 4294967296 ^ k = b / 4294967296 ^ k) : a / 4294967296 ^ (k - 1 + 1) = b / 4294967296 ^ (k - 1 + 1) := by
  rw [show k - 1 + 1 = k by omega]; exact h
theorem c_compare (a b : Nat) :
    Ct Tryz.prog 92 [tN a, tN b] (tI (cmpN a b)) := by
  refine Ct.intro Tryz.func92 rfl Tryz.ntmps92 rfl ?_
  intro w F
  refine C_len (s := 0) rfl (fun hl0 => ?_)
  refine C_len (s := 1) rfl (fun hl1 => ?_)
  have ha := lt_len two_le_W a
  have hb := lt_len two_le_W b
  refine C_seq ?_
  refine C_reg ?_
  refine R1 d_assign rfl ?_
  refine R_nil (by kernel_rfl) ?_
  refine K_then ?_
  refine C_seq ?_
  refine C_seq ?_
  refine C_reg ?_
  refine R1 d_move rfl ?_
  refine R1 (d_len Tryz.underlying133) rfl ?_
  refine R1 d_move rfl ?_
  refine R1 (d_len Tryz.underlying133) rfl ?_
  refine R2 d_neq rfl rfl ?_
  refine R_nil (by kernel_rfl) ?_
  refine K_then ?_
  refine C_if rfl (fun h75 => ?_) (fun h75 => ?_)
  ·
    refine C_seq ?_
    refine C_seq ?_
    refine C_reg ?_
    refine R1 d_move rfl ?_
    refine R1 (d_len Tryz.underlying133) rfl ?_
    refine R1 d_move rfl ?_
    refine R1 (d_len Tryz.underlying133) rfl ?_
    refine R2 d_lss rfl rfl ?_
    refine R_nil (by kernel_rfl) ?_
    refine K_then ?_
    refine C_if rfl (fun h76 => ?_) (fun h76 => ?_)
    ·
      refine C_seq ?_
      refine C_reg ?_
      refine R1 d_assign rfl ?_
      refine R_nil (by kernel_rfl) ?_
      refine K_then ?_
      refine C_ret ?_
      refine K_retT ?_
      refine K_retT ?_
      exact E_ret1 Plain.mk' rfl rfl (Le.int (cmpN_lt (len_lt two_le_W (by omega))).symm)
    ·
      refine C_skip ?_
      refine K_then ?_
      refine C_seq ?_
      refine C_reg ?_
      refine R1 d_assign rfl ?_
      refine R_nil (by kernel_rfl) ?_
      refine K_then ?_
      refine C_ret ?_
      refine K_retT ?_
      exact E_ret1 Plain.mk' rfl rfl (Le.int (cmpN_gt (len_lt two_le_W (by omega))).symm)
  ·
    refine C_skip ?_
    refine K_then ?_
    refine C_seq ?_
    refine C_seq ?_
    refine C_reg ?_
    refine R1 d_move rfl ?_
    refine R1 (d_len Tryz.underlying133) rfl ?_
    refine R2 (d_sub (by first | exact wr64 (by omega) (by omega))) rfl rfl ?_
    refine R1 d_assign rfl ?_
    refine R_nil (by kernel_rfl) ?_
    refine K_then ?_
    refine C_block ?_
    have hlen : (dig 4294967296 a).length = (dig 4294967296 b).length := by omega
    rw [← hlen] at hb
    refine C_loop (fun (k : Nat) => k ≤ (dig 4294967296 a).length ∧ a / 4294967296 ^ k = b / 4294967296 ^ k) (fun (k : Nat) => upd (upd (upd (fun _ => none) 0 (some (.val (tN a)))) 1 (some (.val (tN b)))) 5 (some (.val (tI ((k : Int) - 1))))) (fun (k : Nat) => fun _ => none) (nm []) (fun (k : Nat) => k) ((dig 4294967296 a).length) ⟨Nat.le_refl _, by rw [Nat.div_eq_of_lt ha, Nat.div_eq_of_lt hb]⟩ (Sub.int rfl (by first | omega | rfl | (dsimp only; omega)) (Sub.cons rfl (Sub.cons rfl Sub.nil))) SubK.nil (SupG.val (SupG.val (SupG.val SupG.nil))) SupH.nil (lkOk rfl) ?_
    intro k hI
    obtain ⟨hk, hc⟩ := hI
    refine C_seq ?_
    refine C_seq ?_
    refine C_reg ?_
    refine R1 d_move rfl ?_
    refine R2 d_geq rfl rfl ?_
    refine R_nil (by kernel_rfl) ?_
    refine K_then ?_
    refine C_if rfl (fun h81 => ?_) (fun h81 => ?_)
    ·
      refine C_skip ?_
      refine K_then ?_
      refine C_seq ?_
      refine C_block ?_
      refine C_seq ?_
      refine C_draw mixed ?_
      refine R1 d_move rfl ?_
      refine R1 d_move rfl ?_
      refine R2 (d_indexP sl133 (k - 1) (by omega) (gN (by omega))) rfl rfl ?_
      refine R1 (d_loadP ti186) rfl ?_
      refine R1 d_move rfl ?_
      refine R1 d_move rfl ?_
      refine R2 (d_indexP sl133 (k - 1) (by omega) (gN (by omega))) rfl rfl ?_
      refine R1 (d_loadP ti186) rfl ?_
      refine R2 d_neq rfl rfl ?_
      refine R_end (by kernel_rfl) ?_
      refine K_then ?_
      refine C_if rfl (fun h82 => ?_) (fun h82 => ?_)
      ·
        refine C_seq ?_
        refine C_seq ?_
        refine C_draw mixed ?_
        refine R1 d_move rfl ?_
        refine R1 d_move rfl ?_
        refine R2 (d_indexP sl133 (k - 1) (by omega) (gN (by omega))) rfl rfl ?_
        refine R1 (d_loadP ti186) rfl ?_
        refine R1 d_move rfl ?_
        refine R1 d_move rfl ?_
        refine R2 (d_indexP sl133 (k - 1) (by omega) (gN (by omega))) rfl rfl ?_
        refine R1 (d_loadP ti186) rfl ?_
        refine R2 d_lss rfl rfl ?_
        refine R_end (by kernel_rfl) ?_
        refine K_then ?_
        refine C_if rfl (fun h83 => ?_) (fun h83 => ?_)
        ·
          refine C_seq ?_
          refine C_reg ?_
          refine R1 d_assign rfl ?_
          refine R_nil (by kernel_rfl) ?_
          refine K_then ?_
          refine C_ret ?_
          refine K_retT ?_
          refine K_retB ?_
          refine K_retT ?_
          refine K_retT ?_
          refine K_retB ?_
          refine K_retT ?_
          exact E_ret1 Plain.mk' rfl rfl (Le.int (cmpN_lt (cmp_lt (by decide) (succ_pred (by omega) hc) (by rw [← dig_getD two_le_W, ← dig_getD two_le_W]; omega))).symm)
        ·
          refine C_skip ?_
          refine K_then ?_
          refine C_seq ?_
          refine C_reg ?_
          refine R1 d_assign rfl ?_
          refine R_nil (by kernel_rfl) ?_
          refine K_then ?_
          refine C_ret ?_
          refine K_retB ?_
          refine K_retT ?_
          refine K_retT ?_
          refine K_retB ?_
          refine K_retT ?_
          exact E_ret1 Plain.mk' rfl rfl (Le.int (cmpN_gt (cmp_lt (by decide) (succ_pred (by omega) hc).symm (by rw [← dig_getD two_le_W, ← dig_getD two_le_W]; omega))).symm)
      ·
        refine C_skip ?_
        refine K_norB ?_
        refine K_then ?_
        refine C_reg ?_
        refine R1 d_move rfl ?_
        refine R2 (d_sub (by first | exact wr64 (by omega) (by omega))) rfl rfl ?_
        refine R1 d_assign rfl ?_
        refine R_nil (by kernel_rfl) ?_
        exact K_fam (k - 1) ⟨⟨by omega, cmp_step (by decide) (succ_pred (by omega) hc) (by rw [← dig_getD two_le_W, ← dig_getD two_le_W]; omega)⟩, (by omega)⟩ (Sub.int rfl (by first | omega | rfl | (dsimp only; omega)) (Sub.cons rfl (Sub.cons rfl Sub.nil))) SubK.nil (SupG.val (SupG.val (SupG.val SupG.nil))) SupH.nil (lkOk rfl)
    ·
      refine C_exit ?_
      refine K_exT ?_
      refine K_exT ?_
      refine K_exB ?_
      refine K_then ?_
      refine C_seq ?_
      refine C_reg ?_
      refine R1 d_assign rfl ?_
      refine R_nil (by kernel_rfl) ?_
      refine K_then ?_
      refine C_ret ?_
      exact E_ret1 Plain.mk' rfl rfl (Le.int (cmpN_eq (by have := hc; rw [show k = 0 by omega] at this; simpa using this)).symm)
theorem subD_add {x y b : Nat} (hx : x < 4294967296) (hy : y < 4294967296) (hb : b ≤ 1) : subD x y b + y + b = x + 4294967296 * subB x y b := by
  simp only [subD, subB]; split <;> omega
theorem subB_le (x y b : Nat) : subB x y b ≤ 1 := by simp only [subB]; split <;> omega
theorem minus_next {a b i br y : Nat} {ws : List Nat} (hi : i < ws.length) (hD : Dig 4294967296 ws) (hdr : ws.drop i = (dig 4294967296 a).drop i) (hb : br ≤ 1)
    (h : val 4294967296 (ws.take i) + b % 4294967296 ^ i = a % 4294967296 ^ i + br * 4294967296 ^ i) (hy : y = b / 4294967296 ^ i % 4294967296) :
    (ws.set i (subD (ws.getD i 0) y br)).length = ws.length ∧ Dig 4294967296 (ws.set i (subD (ws.getD i 0) y br)) ∧ (ws.set i (subD (ws.getD i 0) y br)).drop (i + 1) = (dig 4294967296 a).drop (i + 1) ∧ subB (ws.getD i 0) y br ≤ 1 ∧
      val 4294967296 ((ws.set i (subD (ws.getD i 0) y br)).take (i + 1)) + b % 4294967296 ^ (i + 1) = a % 4294967296 ^ (i + 1) + subB (ws.getD i 0) y br * 4294967296 ^ (i + 1) := by
  refine ⟨by simp, hD.set (subD_lt _ _ _), by rw [drop_set_succ]; exact drop_of_drop hdr (by omega), subB_le _ _ _, ?_⟩
  rw [val_take_set hi]
  exact sub_step h (by rw [getD_of_drop hdr (Nat.le_refl _), dig_getD two_le_W]) hy (subD_add (hD.getD (by omega) i) (by rw [hy]; exact Nat.mod_lt _ (by omega)) hb)
theorem c_minus (a b : Nat) (hab : b ≤ a) (hn : (dig 4294967296 a).length ≤ 100000) :
    Ct Tryz.prog 183 [tN a, tN b] (tN (a - b)) := by
  refine Ct.intro Tryz.func183 rfl Tryz.ntmps183 rfl ?_
  intro w F
  refine C_seq ?_
  refine C_reg ?_
  refine R1 d_assign rfl ?_
  refine R_nil (by kernel_rfl) ?_
  refine K_then ?_
  refine C_seq ?_
  refine C_reg ?_
  refine R1 d_move rfl ?_
  refine RE (d_callGX (fun _ => 10) (c_clone32 _ (by omega)) fi231 rfl (krN (ρ := fun _ => 10)) (krC (ρ := fun _ => 10) (k := 2) ren_rW (krN (ρ := fun _ => 10))) ⟨⟨rfl, sup_rW⟩, trivial⟩ rfl) ⟨rfl, trivial⟩ trivial ⟨rfl, trivial⟩ ?_
  refine R1 d_assign rfl ?_
  refine R_nil (by kernel_rfl) ?_
  refine K_then ?_
  refine C_seq ?_
  refine C_reg ?_
  refine R1 d_assign rfl ?_
  refine R_nil (by kernel_rfl) ?_
  refine K_then ?_
  refine C_seq ?_
  refine C_seq ?_
  refine C_reg ?_
  refine R1 d_move rfl ?_
  refine R1 (d_lenO Tryz.underlying133) rfl ?_
  refine R1 d_move rfl ?_
  refine R_nil (by kernel_rfl) ?_
  refine K_then ?_
  refine C_block ?_
  refine C_loop (fun (fm : (Nat) × (List Nat) × (Nat)) => (fun (i : Nat) (ws : List Nat) (br : Nat) => i ≤ (dig 4294967296 a).length ∧ ws.length = (dig 4294967296 a).length ∧ Dig 4294967296 ws ∧ ws.drop i = (dig 4294967296 a).drop i ∧ br ≤ 1 ∧ val 4294967296 (ws.take i) + b % 4294967296 ^ i = a % 4294967296 ^ i + br * 4294967296 ^ i) fm.1 fm.2.1 fm.2.2) (fun (fm : (Nat) × (List Nat) × (Nat)) => (fun (i : Nat) (ws : List Nat) (br : Nat) => upd (upd (upd (upd (upd (fun _ => none) 1 (some (.val (tN b)))) 5 (some (.own (.sl 10 1 0 (dig 4294967296 a).length)))) 6 (some (.val (tE (.int .u32 (br : Int)))))) 12 (some (.val (tI (dig 4294967296 a).length)))) 13 (some (.val (tI i)))) fm.1 fm.2.1 fm.2.2) (fun (fm : (Nat) × (List Nat) × (Nat)) => (fun (i : Nat) (ws : List Nat) (br : Nat) => upd (fun _ => none) 10 (some (⟨186, 1, false, rW .u32 ws⟩))) fm.1 fm.2.1 fm.2.2) (nm [10]) (fun (fm : (Nat) × (List Nat) × (Nat)) => (fun (i : Nat) (ws : List Nat) (br : Nat) => (dig 4294967296 a).length - i) fm.1 fm.2.1 fm.2.2) ((0, dig 4294967296 a, 0)) (by dsimp only; exact ⟨Nat.zero_le _, rfl, dig_Dig two_le_W a, rfl, by omega, by simp [val, Nat.mod_one]⟩) (Sub.int rfl (by first | omega | rfl | (dsimp only; omega)) (Sub.int rfl (by first | omega | rfl | (dsimp only; omega)) (Sub.int rfl (by first | omega | rfl | (dsimp only; omega)) (Sub.cons rfl (Sub.cons rfl Sub.nil))))) ((SubK.consI rfl ImpK.refl) SubK.nil) (SupG.val (SupG.val (SupG.val (SupG.own rfl (SupG.val SupG.nil))))) (SupH.cons rfl (supJ sup_rW) SupH.nil) (lkOk rfl) ?_
  intro fm hI
  obtain ⟨i, ws, br⟩ := fm
  replace hI : i ≤ (dig 4294967296 a).length ∧ ws.length = (dig 4294967296 a).length ∧ Dig 4294967296 ws ∧ ws.drop i = (dig 4294967296 a).drop i ∧ br ≤ 1 ∧ val 4294967296 (ws.take i) + b % 4294967296 ^ i = a % 4294967296 ^ i + br * 4294967296 ^ i := hI
  show wc _ _ _ _ (upd (upd (upd (upd (upd (fun _ => none) 1 (some (.val (tN b)))) 5 (some (.own (.sl 10 1 0 (dig 4294967296 a).length)))) 6 (some (.val (tE (.int .u32 (br : Int)))))) 12 (some (.val (tI (dig 4294967296 a).length)))) 13 (some (.val (tI i)))) (upd (fun _ => none) 10 (some (⟨186, 1, false, rW .u32 ws⟩))) _
  obtain ⟨hi, hl, hD, hdr, hbr, hv⟩ := hI
  have hx := hD.getD (by omega) i
  have hy1 := (dig_Dig two_le_W b).getD (by omega) i
  refine C_seq ?_
  refine C_reg ?_
  refine R2 d_lss rfl rfl ?_
  refine R_nil (by kernel_rfl) ?_
  refine K_then ?_
  refine C_seq ?_
  refine C_if rfl (fun h124 => ?_) (fun h124 => ?_)
  ·
    refine C_skip ?_
    refine K_then ?_
    refine C_seq ?_
    refine C_block ?_
    refine C_seq ?_
    refine C_reg ?_
    refine R1 d_move rfl ?_
    refine R1 d_assign rfl ?_
    refine R_nil (by kernel_rfl) ?_
    refine K_then ?_
    refine C_seq ?_
    refine C_reg ?_
    refine R1 d_assign rfl ?_
    refine R_nil (by kernel_rfl) ?_
    refine K_then ?_
    refine C_seq ?_
    refine C_seq ?_
    refine C_reg ?_
    refine R1 d_move rfl ?_
    refine R1 d_move rfl ?_
    refine R1 (d_len Tryz.underlying133) rfl ?_
    refine R2 d_lss rfl rfl ?_
    refine R_nil (by kernel_rfl) ?_
    refine K_then ?_
    refine C_if rfl (fun h126 => ?_) (fun h126 => ?_)
    ·
      have hy := dig_getD two_le_W b i
      refine C_reg ?_
      refine R1 d_move rfl ?_
      refine R1 d_move rfl ?_
      refine R2 (d_indexP sl133 (i) (by omega) (gN (by omega))) rfl rfl ?_
      refine R1 (d_loadP ti186) rfl ?_
      refine R1 d_assign rfl ?_
      refine R_nil (by kernel_rfl) ?_
      refine K_then ?_
      refine C_reg ?_
      refine R1 d_move rfl ?_
      refine R1 d_move rfl ?_
      refine R1 d_move rfl ?_
      refine R1 d_move rfl ?_
      refine R2 (d_indexO sl133 (by omega) (by omega) rfl) rfl rfl ?_
      refine RE (d_load (i) ti186 (rW_get (by omega)) (by omega)) ⟨rfl, trivial⟩ ⟨rfl, trivial⟩ trivial ?_
      refine R1 d_move rfl ?_
      refine R1 d_move rfl ?_
      refine RE (d_call (c_Sub32 _ _ _ (by omega) (by omega) (by omega)) fi237 rfl) ⟨rfl, rfl, rfl, trivial⟩ trivial trivial ?_
      refine R1 d_move rfl ?_
      refine R1 (d_extract rfl) rfl ?_
      refine R1 (d_extract rfl) rfl ?_
      refine R2 (d_indexO sl133 (by omega) (by omega) rfl) rfl rfl ?_
      refine RE (d_store (i) ti186 (rW_lt (by omega)) (by omega) (rW_set (m := _) rfl)) ⟨rfl, rfl, trivial⟩ ⟨rfl, trivial⟩ trivial ?_
      refine R1 d_assign rfl ?_
      refine R_nil (by kernel_rfl) ?_
      refine K_norB ?_
      refine K_then ?_
      refine C_reg ?_
      refine R2 (d_add (by first | exact wr64 (by omega) (by omega))) rfl rfl ?_
      refine R1 d_move rfl ?_
      refine R_nil (by kernel_rfl) ?_
      obtain ⟨n1, n2, n3, n4, n5⟩ := minus_next (y := (dig 4294967296 b).getD i 0) (by omega) hD hdr hbr hv hy
      exact K_fam ((i + 1, ws.set i (subD (ws.getD i 0) ((dig 4294967296 b).getD i 0) br), subB (ws.getD i 0) ((dig 4294967296 b).getD i 0) br)) ⟨(by dsimp only; exact ⟨by omega, by omega, n2, n3, n4, n5⟩), (by dsimp only; omega)⟩ (Sub.int rfl (by first | omega | rfl | (dsimp only; omega)) (Sub.int rfl (by first | omega | rfl | (dsimp only; omega)) (Sub.int rfl (by first | omega | rfl | (dsimp only; omega)) (Sub.cons rfl (Sub.cons rfl Sub.nil))))) ((SubK.consI rfl ImpK.refl) SubK.nil) (SupG.val (SupG.val (SupG.val (SupG.own rfl (SupG.val SupG.nil))))) (SupH.cons rfl (supJ sup_rW) SupH.nil) (lkOk rfl)
    ·
      have hy := (dig_out two_le_W (v := b) (i := i) (by omega)).symm
      refine C_skip ?_
      refine K_then ?_
      refine C_reg ?_
      refine R1 d_move rfl ?_
      refine R1 d_move rfl ?_
      refine R1 d_move rfl ?_
      refine R1 d_move rfl ?_
      refine R2 (d_indexO sl133 (by omega) (by omega) rfl) rfl rfl ?_
      refine RE (d_load (i) ti186 (rW_get (by omega)) (by omega)) ⟨rfl, trivial⟩ ⟨rfl, trivial⟩ trivial ?_
      refine R1 d_move rfl ?_
      refine R1 d_move rfl ?_
      refine RE (d_call (c_Sub32 _ 0 _ (by omega) (by omega) (by omega)) fi237 rfl) ⟨rfl, rfl, rfl, trivial⟩ trivial trivial ?_
      refine R1 d_move rfl ?_
      refine R1 (d_extract rfl) rfl ?_
      refine R1 (d_extract rfl) rfl ?_
      refine R2 (d_indexO sl133 (by omega) (by omega) rfl) rfl rfl ?_
      refine RE (d_store (i) ti186 (rW_lt (by omega)) (by omega) (rW_set (m := _) rfl)) ⟨rfl, rfl, trivial⟩ ⟨rfl, trivial⟩ trivial ?_
      refine R1 d_assign rfl ?_
      refine R_nil (by kernel_rfl) ?_
      refine K_norB ?_
      refine K_then ?_
      refine C_reg ?_
      refine R2 (d_add (by first | exact wr64 (by omega) (by omega))) rfl rfl ?_
      refine R1 d_move rfl ?_
      refine R_nil (by kernel_rfl) ?_
      obtain ⟨n1, n2, n3, n4, n5⟩ := minus_next (y := 0) (by omega) hD hdr hbr hv hy
      exact K_fam ((i + 1, ws.set i (subD (ws.getD i 0) (0) br), subB (ws.getD i 0) (0) br)) ⟨(by dsimp only; exact ⟨by omega, by omega, n2, n3, n4, n5⟩), (by dsimp only; omega)⟩ (Sub.int rfl (by first | omega | rfl | (dsimp only; omega)) (Sub.int rfl (by first | omega | rfl | (dsimp only; omega)) (Sub.int rfl (by first | omega | rfl | (dsimp only; omega)) (Sub.cons rfl (Sub.cons rfl Sub.nil))))) ((SubK.consI rfl ImpK.refl) SubK.nil) (SupG.val (SupG.val (SupG.val (SupG.own rfl (SupG.val SupG.nil))))) (SupH.cons rfl (supJ sup_rW) SupH.nil) (lkOk rfl)
  ·
    refine C_exit ?_
    refine K_exT ?_
    refine K_exT ?_
    refine K_exB ?_
    refine K_then ?_
    refine C_seq ?_
    refine C_reg ?_
    refine RE (d_moveS (fun _ h => h) (rW_all hl) hl) ⟨rfl, trivial⟩ ⟨rfl, trivial⟩ trivial ?_
    refine RE (d_call (c_trim _) fi184 rfl) ⟨rfl, trivial⟩ trivial trivial ?_
    refine R1 d_assign rfl ?_
    refine R_nil (by kernel_rfl) ?_
    refine K_then ?_
    refine C_ret ?_
    exact E_ret1 Plain.mk' rfl rfl (Le.of (by rw [trimL_eq_dig two_le_W hD, sub_end hl hD (lt_len two_le_W a) hab (by rw [← show i = (dig 4294967296 a).length by omega]; exact hv)]))
theorem c_collector  :
    CtG Tryz.prog 236 [] [.own (.ptr 9 0)] (.own (.fn 250 [.ptr 3 0, .ptr 1 0])) [(1, ⟨331, 1, false, [.own (.ptr 9 0)]⟩), (3, ⟨121, 1, false, [.val (tE (.int .u64 0))]⟩)] [1, 3] := by
  refine CtG.intro [9] Tryz.func236 rfl Tryz.ntmps236 rfl rfl trivial ?_
  intro w F η
  refine C_seq ?_
  refine C_reg ?_
  refine RE (d_box (k := 1) ti331 rfl) ⟨rfl, trivial⟩ trivial ⟨rfl, trivial⟩ ?_
  refine R1 d_assign rfl ?_
  refine R_nil (by kernel_rfl) ?_
  refine K_then ?_
  refine C_seq ?_
  refine C_reg ?_
  refine RE (d_alloc (k := 3) (n := 1) (agg := false) zr121.1 zr121.2 rfl) trivial trivial ⟨rfl, trivial⟩ ?_
  refine RE (d_store (es := 1) (agg := false) (0) ti121 rfl rfl rfl) ⟨rfl, rfl, trivial⟩ ⟨rfl, trivial⟩ trivial ?_
  refine R_nil (by kernel_rfl) ?_
  refine K_then ?_
  refine C_seq ?_
  refine C_reg ?_
  refine R2 (d_makeFunc (ps := [.ptr 3 0, .ptr 1 0]) rfl) rfl rfl ?_
  refine R1 d_assign rfl ?_
  refine R_nil (by kernel_rfl) ?_
  refine K_then ?_
  refine C_ret ?_
  exact E_retG1 LentC.mk' rfl rfl Imp.refl ⟨rfl, rfl, trivial⟩ rfl ⟨⟨rfl, (SupX.lit rfl)⟩, ⟨rfl, (SupX.lit rfl)⟩, trivial⟩ rfl
theorem c_collect (s c : Nat) (xs : List Nat) (hs : s + c < 18446744073709551616) (hx : xs.length ≤ 1000000) :
    CtG Tryz.prog 250 [(3, ⟨121, 1, false, [.val (tE (.int .u64 (c : Int)))]⟩), (1, ⟨331, 1, false, [.own (.ptr 9 0)]⟩), (9, ⟨133, 1, false, [.own (.sl 8 1 0 xs.length)]⟩), (8, ⟨186, 1, false, rW .u32 xs⟩)] [.val (tE (.int .u64 (s : Int))), .own (.ptr 3 0), .own (.ptr 1 0)] (.val (tT [])) [(3, ⟨121, 1, false, [.val (tE (.int .u64 (((s + c) / 4294967296 : Nat) : Int)))]⟩), (1, ⟨331, 1, false, [.own (.ptr 9 0)]⟩), (9, ⟨133, 1, false, [.own (.sl 14 1 0 (xs.length + 1))]⟩), (14, ⟨186, 1, false, rW .u32 (xs ++ [(s + c) % 4294967296])⟩)] [14] := by
  refine CtG.intro [3, 1, 9, 8] Tryz.func250 rfl Tryz.ntmps250 rfl rfl ⟨⟨rfl, (SupX.lit rfl)⟩, ⟨rfl, (SupX.lit rfl)⟩, ⟨rfl, (SupX.lit rfl)⟩, ⟨rfl, sup_rW⟩, trivial⟩ ?_
  intro w F η
  refine C_seq ?_
  refine C_reg ?_
  refine R1 d_move rfl ?_
  refine RE (d_load (0) ti121 rfl rfl) ⟨rfl, trivial⟩ ⟨rfl, trivial⟩ trivial ?_
  refine R2 (d_add (r := ((s + c : Nat) : Int)) (by rw [wu64 (by omega) (by omega)]; omega)) rfl rfl ?_
  refine R1 d_assign rfl ?_
  refine R_nil (by kernel_rfl) ?_
  refine K_then ?_
  refine C_seq ?_
  refine C_draw mixed ?_
  refine RE (d_load (0) ti331 rfl rfl) ⟨rfl, trivial⟩ ⟨rfl, trivial⟩ trivial ?_
  refine RE (d_load (0) ti331 rfl rfl) ⟨rfl, trivial⟩ ⟨rfl, trivial⟩ trivial ?_
  refine R1 d_nilCheckO rfl ?_
  refine RE (d_load (0) ti133 rfl rfl) ⟨rfl, trivial⟩ ⟨rfl, trivial⟩ trivial ?_
  refine R1 d_move rfl ?_
  refine R1 (d_convert Tryz.underlying186 (isS Tryz.underlying121) (r := (((s + c) % 4294967296 : Nat) : Int)) (by rw [mu32]; omega)) rfl ?_
  refine R1 (d_nums (n := 1) [(s + c) % 4294967296] Tryz.underlying133 el186 zf186 rfl rfl rfl) rfl ?_
  refine RE (d_appendO (k := 8) (k' := 14) (ts' := rW .u32 (xs ++ [(s + c) % 4294967296])) Tryz.underlying133 el186 zf186 rfl rfl (fun _ => inferInstance) rW_len (by simp; omega) (by simp; omega) (by simp [rW]) (n' := xs.length + 1) rfl) ⟨rfl, rfl, trivial⟩ ⟨rfl, trivial⟩ ⟨rfl, trivial⟩ ?_
  refine R1 d_nilCheckO rfl ?_
  refine RE (d_store (es := 1) (agg := false) (0) ti133 rfl rfl rfl) ⟨rfl, rfl, trivial⟩ ⟨rfl, trivial⟩ trivial ?_
  refine R_end (by kernel_rfl) ?_
  refine K_then ?_
  refine C_reg ?_
  refine R1 d_move rfl ?_
  refine R2 (d_shr (by decide) shr32) rfl rfl ?_
  refine RE (d_store (es := 1) (agg := false) (0) ti121 rfl rfl rfl) ⟨rfl, rfl, trivial⟩ ⟨rfl, trivial⟩ trivial ?_
  refine R_nil (by kernel_rfl) ?_
  exact E_retG0 LentC.mk' rfl (.inr rfl) ⟨rfl, rfl, rfl, rfl, trivial⟩ ⟨⟨rfl, (SupX.lit rfl)⟩, ⟨rfl, (SupX.lit rfl)⟩, ⟨rfl, (SupX.lit rfl)⟩, ⟨rfl, sup_rW⟩, trivial⟩ rfl
theorem c_plus (a b : Nat) (ha : (dig 4294967296 a).length ≤ 100000) (hb : (dig 4294967296 b).length ≤ 100000) :
    Ct Tryz.prog 182 [tN a, tN b] (tN (a + b)) := by
  refine Ct.intro Tryz.func182 rfl Tryz.ntmps182 rfl ?_
  intro w F
  refine C_seq ?_
  refine C_reg ?_
  refine R1 d_assign rfl ?_
  refine R_nil (by kernel_rfl) ?_
  refine K_then ?_
  refine C_join (fun (fm : (Nat) × (Nat)) => (fun (p : Nat) (q : Nat) => p + q = a + b ∧ (dig 4294967296 q).length ≤ (dig 4294967296 p).length ∧ (dig 4294967296 p).length ≤ 100000) fm.1 fm.2) (fun (fm : (Nat) × (Nat)) => (fun (p : Nat) (q : Nat) => upd (upd (fun _ => none) 0 (some (.val (tN p)))) 1 (some (.val (tN q)))) fm.1 fm.2) (fun (fm : (Nat) × (Nat)) => (fun (p : Nat) (q : Nat) => fun _ => none) fm.1 fm.2) (nm []) ?_ ?_
  ·
    refine C_seq ?_
    refine C_reg ?_
    refine R1 d_move rfl ?_
    refine R1 (d_len Tryz.underlying133) rfl ?_
    refine R1 d_move rfl ?_
    refine R1 (d_len Tryz.underlying133) rfl ?_
    refine R2 d_lss rfl rfl ?_
    refine R_nil (by kernel_rfl) ?_
    refine K_then ?_
    refine C_if rfl (fun h104 => ?_) (fun h104 => ?_)
    ·
      refine C_reg ?_
      refine R1 d_move rfl ?_
      refine R1 d_move rfl ?_
      refine R1 d_assign rfl ?_
      refine R1 d_assign rfl ?_
      refine R_nil (by kernel_rfl) ?_
      exact K_fam ((b, a)) (by dsimp only; exact ⟨Nat.add_comm _ _, by omega, by omega⟩) (Sub.cons rfl (Sub.cons rfl Sub.nil)) SubK.nil (SupG.val (SupG.val SupG.nil)) SupH.nil (lkOk rfl)
    ·
      refine C_skip ?_
      exact K_fam ((a, b)) (by dsimp only; exact ⟨rfl, by omega, by omega⟩) (Sub.cons rfl (Sub.cons rfl Sub.nil)) SubK.nil (SupG.val (SupG.val SupG.nil)) SupH.nil (lkOk rfl)
  ·
    intro fm hj104
    obtain ⟨p, q⟩ := fm
    replace hj104 : p + q = a + b ∧ (dig 4294967296 q).length ≤ (dig 4294967296 p).length ∧ (dig 4294967296 p).length ≤ 100000 := hj104
    show wc _ _ _ _ (upd (upd (fun _ => none) 0 (some (.val (tN p)))) 1 (some (.val (tN q)))) (fun _ => none) _
    obtain ⟨hpq, hqp, hp⟩ := hj104
    refine C_seq ?_
    refine C_reg ?_
    refine R1 d_move rfl ?_
    refine R1 (d_len Tryz.underlying133) rfl ?_
    refine R2 (d_add (by first | exact wr64 (by omega) (by omega))) rfl rfl ?_
    refine RE (d_makeO (k := 20) (t := tE (.int .u32 0)) (ts := rW .u32 []) 0 ((dig 4294967296 p).length + 1) Tryz.underlying133 el186 (fun _ _ => rfl) rfl rfl (by omega) (by omega) (by omega) (by omega) rfl) ⟨rfl, rfl, trivial⟩ trivial ⟨rfl, trivial⟩ ?_
    refine RE (d_alloc (k := 5) (n := 1) (agg := false) zr133.1 zr133.2 rfl) trivial trivial ⟨rfl, trivial⟩ ?_
    refine RE (d_store (es := 1) (agg := false) (0) ti133 rfl rfl rfl) ⟨rfl, rfl, trivial⟩ ⟨rfl, trivial⟩ trivial ?_
    refine R_nil (by kernel_rfl) ?_
    refine K_then ?_
    refine C_seq ?_
    refine C_reg ?_
    refine RE (d_callGX (fun j => cond (Nat.beq j 1) 21 (cond (Nat.beq j 9) 5 (1021))) c_collector fi236 rfl (krN (ρ := fun j => cond (Nat.beq j 1) 21 (cond (Nat.beq j 9) 5 (1021)))) (krC (ρ := fun j => cond (Nat.beq j 1) 21 (cond (Nat.beq j 9) 5 (1021))) (k := 1) rfl (krC (ρ := fun j => cond (Nat.beq j 1) 21 (cond (Nat.beq j 9) 5 (1021))) (k := 3) rfl (krN (ρ := fun j => cond (Nat.beq j 1) 21 (cond (Nat.beq j 9) 5 (1021)))))) ⟨⟨rfl, (SupX.lit rfl)⟩, ⟨rfl, (SupX.lit rfl)⟩, trivial⟩ rfl) ⟨rfl, trivial⟩ trivial ⟨rfl, rfl, trivial⟩ ?_
    refine R1 d_assign rfl ?_
    refine R_nil (by kernel_rfl) ?_
    refine K_then ?_
    refine C_seq ?_
    refine C_seq ?_
    refine C_reg ?_
    refine R1 d_move rfl ?_
    refine R1 (d_len Tryz.underlying133) rfl ?_
    refine R1 d_move rfl ?_
    refine R_nil (by kernel_rfl) ?_
    refine K_then ?_
    refine C_block ?_
    refine C_loop (fun (fm : (Nat) × (List Nat) × (Nat)) => (fun (i : Nat) (cs : List Nat) (c : Nat) => i ≤ (dig 4294967296 p).length ∧ cs.length = i ∧ Dig 4294967296 cs ∧ val 4294967296 cs + c * 4294967296 ^ i = p % 4294967296 ^ i + q % 4294967296 ^ i ∧ c ≤ 1) fm.1 fm.2.1 fm.2.2) (fun (fm : (Nat) × (List Nat) × (Nat)) => (fun (i : Nat) (cs : List Nat) (c : Nat) => upd (upd (upd (upd (upd (upd (fun _ => none) 1 (some (.val (tN q)))) 5 (some (.own (.ptr 5 0)))) 6 (some (.own (.fn 250 [.ptr 1021 0, .ptr 21 0])))) 22 (some (.val (tN p)))) 23 (some (.val (tI (dig 4294967296 p).length)))) 24 (some (.val (tI i)))) fm.1 fm.2.1 fm.2.2) (fun (fm : (Nat) × (List Nat) × (Nat)) => (fun (i : Nat) (cs : List Nat) (c : Nat) => upd (upd (upd (upd (fun _ => none) 5 (some (⟨133, 1, false, [.own (.sl 20 1 0 cs.length)]⟩))) 20 (some (⟨186, 1, false, rW .u32 cs⟩))) 21 (some (⟨331, 1, false, [.own (.ptr 5 0)]⟩))) 1021 (some (⟨121, 1, false, [.val (tE (.int .u64 (c : Int)))]⟩))) fm.1 fm.2.1 fm.2.2) (nm [5, 20, 21, 1021]) (fun (fm : (Nat) × (List Nat) × (Nat)) => (fun (i : Nat) (cs : List Nat) (c : Nat) => (dig 4294967296 p).length - i) fm.1 fm.2.1 fm.2.2) ((0, [], 0)) (by dsimp only; exact ⟨Nat.zero_le _, rfl, Dig.nil _, by simp [val, Nat.mod_one], by omega⟩) (Sub.int rfl (by first | omega | rfl | (dsimp only; omega)) (Sub.int rfl (by first | omega | rfl | (dsimp only; omega)) (Sub.cons rfl (Sub.cons rfl (Sub.cons rfl (Sub.cons rfl Sub.nil)))))) (SubK.cons rfl (SubK.cons rfl ((SubK.consI rfl ImpK.refl) (SubK.cons rfl SubK.nil)))) (SupG.val (SupG.val (SupG.val (SupG.own rfl (SupG.own rfl (SupG.val SupG.nil)))))) (SupH.cons rfl (supJL rfl) (SupH.cons rfl (supJL rfl) (SupH.cons rfl (supJ sup_rW) (SupH.cons rfl (supJL rfl) SupH.nil)))) (lkOk rfl) ?_
    intro fm hI
    obtain ⟨i, cs, c⟩ := fm
    replace hI : i ≤ (dig 4294967296 p).length ∧ cs.length = i ∧ Dig 4294967296 cs ∧ val 4294967296 cs + c * 4294967296 ^ i = p % 4294967296 ^ i + q % 4294967296 ^ i ∧ c ≤ 1 := hI
    show wc _ _ _ _ (upd (upd (upd (upd (upd (upd (fun _ => none) 1 (some (.val (tN q)))) 5 (some (.own (.ptr 5 0)))) 6 (some (.own (.fn 250 [.ptr 1021 0, .ptr 21 0])))) 22 (some (.val (tN p)))) 23 (some (.val (tI (dig 4294967296 p).length)))) 24 (some (.val (tI i)))) (upd (upd (upd (upd (fun _ => none) 5 (some (⟨133, 1, false, [.own (.sl 20 1 0 cs.length)]⟩))) 20 (some (⟨186, 1, false, rW .u32 cs⟩))) 21 (some (⟨331, 1, false, [.own (.ptr 5 0)]⟩))) 1021 (some (⟨121, 1, false, [.val (tE (.int .u64 (c : Int)))]⟩))) _
    obtain ⟨hi, hl, hD, hv, hc⟩ := hI
    have hx := dig_getD two_le_W p i
    have hx1 := (dig_Dig two_le_W p).getD (by omega) i
    have hy1 := (dig_Dig two_le_W q).getD (by omega) i
    refine C_seq ?_
    refine C_reg ?_
    refine R2 d_lss rfl rfl ?_
    refine R_nil (by kernel_rfl) ?_
    refine K_then ?_
    refine C_seq ?_
    refine C_if rfl (fun h109 => ?_) (fun h109 => ?_)
    ·
      refine C_skip ?_
      refine K_then ?_
      refine C_seq ?_
      refine C_block ?_
      refine C_seq ?_
      refine C_reg ?_
      refine R1 d_move rfl ?_
      refine R2 (d_indexP sl133 (i) (by omega) (gN (by omega))) rfl rfl ?_
      refine R1 (d_loadP ti186) rfl ?_
      refine R1 d_assign rfl ?_
      refine R1 d_assign rfl ?_
      refine R_nil (by kernel_rfl) ?_
      refine K_then ?_
      refine C_seq ?_
      refine C_reg ?_
      refine R1 d_move rfl ?_
      refine R1 (d_convert Tryz.underlying121 (isS Tryz.underlying186) (by first | exact wu64 (by omega) (by omega) | exact mu64)) rfl ?_
      refine R1 d_assign rfl ?_
      refine R_nil (by kernel_rfl) ?_
      refine K_then ?_
      refine C_seq ?_
      refine C_seq ?_
      refine C_reg ?_
      refine R1 d_move rfl ?_
      refine R1 d_move rfl ?_
      refine R1 (d_len Tryz.underlying133) rfl ?_
      refine R2 d_lss rfl rfl ?_
      refine R_nil (by kernel_rfl) ?_
      refine K_then ?_
      refine C_if rfl (fun h111 => ?_) (fun h111 => ?_)
      ·
        have hy := dig_getD two_le_W q i
        refine C_reg ?_
        refine R1 d_move rfl ?_
        refine R1 d_move rfl ?_
        refine R1 d_move rfl ?_
        refine R2 (d_indexP sl133 (i) (by omega) (gN (by omega))) rfl rfl ?_
        refine R1 (d_loadP ti186) rfl ?_
        refine R1 (d_convert Tryz.underlying121 (isS Tryz.underlying186) (by first | exact wu64 (by omega) (by omega) | exact mu64)) rfl ?_
        refine R2 (d_add (r := (((dig 4294967296 p).getD i 0 + (dig 4294967296 q).getD i 0 : Nat) : Int)) (by rw [wu64 (by omega) (by omega)]; omega)) rfl rfl ?_
        refine R1 d_assign rfl ?_
        refine R_nil (by kernel_rfl) ?_
        refine K_then ?_
        refine C_reg ?_
        refine R1 d_move rfl ?_
        refine R1 d_move rfl ?_
        refine RE (d_callCX (ps := [.val (tE (.int .u64 ((_ : Nat) : Int)))]) (caps := [.ptr 3 0, .ptr 1 0]) (fun j => cond (Nat.beq j 9) 5 (cond (Nat.beq j 1) 21 (cond (Nat.beq j 3) 1021 (cond (Nat.beq j 14) 44 (20))))) (c_collect _ _ _ (by omega) (by omega)) fi250 rfl (krC (ρ := fun j => cond (Nat.beq j 9) 5 (cond (Nat.beq j 1) 21 (cond (Nat.beq j 3) 1021 (cond (Nat.beq j 14) 44 (20))))) (k := 3) rfl (krC (ρ := fun j => cond (Nat.beq j 9) 5 (cond (Nat.beq j 1) 21 (cond (Nat.beq j 3) 1021 (cond (Nat.beq j 14) 44 (20))))) (k := 1) rfl (krC (ρ := fun j => cond (Nat.beq j 9) 5 (cond (Nat.beq j 1) 21 (cond (Nat.beq j 3) 1021 (cond (Nat.beq j 14) 44 (20))))) (k := 9) rfl (krC (ρ := fun j => cond (Nat.beq j 9) 5 (cond (Nat.beq j 1) 21 (cond (Nat.beq j 3) 1021 (cond (Nat.beq j 14) 44 (20))))) (k := 8) ren_rW (krN (ρ := fun j => cond (Nat.beq j 9) 5 (cond (Nat.beq j 1) 21 (cond (Nat.beq j 3) 1021 (cond (Nat.beq j 14) 44 (20)))))))))) (krC (ρ := fun j => cond (Nat.beq j 9) 5 (cond (Nat.beq j 1) 21 (cond (Nat.beq j 3) 1021 (cond (Nat.beq j 14) 44 (20))))) (k := 3) rfl (krC (ρ := fun j => cond (Nat.beq j 9) 5 (cond (Nat.beq j 1) 21 (cond (Nat.beq j 3) 1021 (cond (Nat.beq j 14) 44 (20))))) (k := 1) rfl (krC (ρ := fun j => cond (Nat.beq j 9) 5 (cond (Nat.beq j 1) 21 (cond (Nat.beq j 3) 1021 (cond (Nat.beq j 14) 44 (20))))) (k := 9) rfl (krC (ρ := fun j => cond (Nat.beq j 9) 5 (cond (Nat.beq j 1) 21 (cond (Nat.beq j 3) 1021 (cond (Nat.beq j 14) 44 (20))))) (k := 14) ren_rW (krN (ρ := fun j => cond (Nat.beq j 9) 5 (cond (Nat.beq j 1) 21 (cond (Nat.beq j 3) 1021 (cond (Nat.beq j 14) 44 (20)))))))))) ⟨⟨rfl, (SupX.lit rfl)⟩, ⟨rfl, (SupX.lit rfl)⟩, ⟨rfl, (SupX.lit rfl)⟩, ⟨rfl, sup_rW⟩, trivial⟩ rfl) ⟨rfl, rfl, trivial⟩ ⟨rfl, rfl, rfl, rfl, trivial⟩ ⟨rfl, trivial⟩ ?_
        refine R_nil (by kernel_rfl) ?_
        refine K_norB ?_
        refine K_then ?_
        refine C_reg ?_
        refine R2 (d_add (by first | exact wr64 (by omega) (by omega))) rfl rfl ?_
        refine R1 d_move rfl ?_
        refine R_nil (by kernel_rfl) ?_
        obtain ⟨n1, n2, n3, n4⟩ := plus_next (s := ((dig 4294967296 p).getD i 0 + (dig 4294967296 q).getD i 0)) hl hD hv hx hy (by omega) hc
        exact K_famR (l := [5, 20, 21, 1021]) (fun j => cond (Nat.beq j 20) 44 (j)) ((i + 1, cs ++ [(((dig 4294967296 p).getD i 0 + (dig 4294967296 q).getD i 0) + c) % 4294967296], (((dig 4294967296 p).getD i 0 + (dig 4294967296 q).getD i 0) + c) / 4294967296)) ⟨(by dsimp only; exact ⟨by omega, n1, n2, n3, n4⟩), (by dsimp only; omega)⟩ (SubR.int rfl (by first | omega | rfl | (dsimp only; omega)) (SubR.int rfl (by first | omega | rfl | (dsimp only; omega)) (SubR.cons rfl (SubR.cons rfl (SubR.cons rfl (SubR.cons rfl SubR.nil)))))) (SubKR.cons rfl (SubKR.cons rfl ((SubKR.consI rfl (ImpK.of ren_rW.symm)) ((SubKR.consI rfl (ImpK.of (by dsimp only; rw [List.length_append]; rfl))) SubKR.nil)))) (SupG.val (SupG.val (SupG.val (SupG.own rfl (SupG.own rfl (SupG.val SupG.nil)))))) (SupH.cons rfl (supJL rfl) (SupH.cons rfl (supJL rfl) (SupH.cons rfl (supJ sup_rW) (SupH.cons rfl (supJL rfl) SupH.nil)))) (lkOk rfl) rfl rfl (fun _ h => by cases h)
      ·
        have hy := (dig_out two_le_W (v := q) (i := i) (by omega)).symm
        refine C_skip ?_
        refine K_then ?_
        refine C_reg ?_
        refine R1 d_move rfl ?_
        refine R1 d_move rfl ?_
        refine RE (d_callCX (ps := [.val (tE (.int .u64 ((_ : Nat) : Int)))]) (caps := [.ptr 3 0, .ptr 1 0]) (fun j => cond (Nat.beq j 9) 5 (cond (Nat.beq j 1) 21 (cond (Nat.beq j 3) 1021 (cond (Nat.beq j 14) 44 (20))))) (c_collect _ _ _ (by omega) (by omega)) fi250 rfl (krC (ρ := fun j => cond (Nat.beq j 9) 5 (cond (Nat.beq j 1) 21 (cond (Nat.beq j 3) 1021 (cond (Nat.beq j 14) 44 (20))))) (k := 3) rfl (krC (ρ := fun j => cond (Nat.beq j 9) 5 (cond (Nat.beq j 1) 21 (cond (Nat.beq j 3) 1021 (cond (Nat.beq j 14) 44 (20))))) (k := 1) rfl (krC (ρ := fun j => cond (Nat.beq j 9) 5 (cond (Nat.beq j 1) 21 (cond (Nat.beq j 3) 1021 (cond (Nat.beq j 14) 44 (20))))) (k := 9) rfl (krC (ρ := fun j => cond (Nat.beq j 9) 5 (cond (Nat.beq j 1) 21 (cond (Nat.beq j 3) 1021 (cond (Nat.beq j 14) 44 (20))))) (k := 8) ren_rW (krN (ρ := fun j => cond (Nat.beq j 9) 5 (cond (Nat.beq j 1) 21 (cond (Nat.beq j 3) 1021 (cond (Nat.beq j 14) 44 (20)))))))))) (krC (ρ := fun j => cond (Nat.beq j 9) 5 (cond (Nat.beq j 1) 21 (cond (Nat.beq j 3) 1021 (cond (Nat.beq j 14) 44 (20))))) (k := 3) rfl (krC (ρ := fun j => cond (Nat.beq j 9) 5 (cond (Nat.beq j 1) 21 (cond (Nat.beq j 3) 1021 (cond (Nat.beq j 14) 44 (20))))) (k := 1) rfl (krC (ρ := fun j => cond (Nat.beq j 9) 5 (cond (Nat.beq j 1) 21 (cond (Nat.beq j 3) 1021 (cond (Nat.beq j 14) 44 (20))))) (k := 9) rfl (krC (ρ := fun j => cond (Nat.beq j 9) 5 (cond (Nat.beq j 1) 21 (cond (Nat.beq j 3) 1021 (cond (Nat.beq j 14) 44 (20))))) (k := 14) ren_rW (krN (ρ := fun j => cond (Nat.beq j 9) 5 (cond (Nat.beq j 1) 21 (cond (Nat.beq j 3) 1021 (cond (Nat.beq j 14) 44 (20)))))))))) ⟨⟨rfl, (SupX.lit rfl)⟩, ⟨rfl, (SupX.lit rfl)⟩, ⟨rfl, (SupX.lit rfl)⟩, ⟨rfl, sup_rW⟩, trivial⟩ rfl) ⟨rfl, rfl, trivial⟩ ⟨rfl, rfl, rfl, rfl, trivial⟩ ⟨rfl, trivial⟩ ?_
        refine R_nil (by kernel_rfl) ?_
        refine K_norB ?_
        refine K_then ?_
        refine C_reg ?_
        refine R2 (d_add (by first | exact wr64 (by omega) (by omega))) rfl rfl ?_
        refine R1 d_move rfl ?_
        refine R_nil (by kernel_rfl) ?_
        obtain ⟨n1, n2, n3, n4⟩ := plus_next (s := (dig 4294967296 p).getD i 0) hl hD hv hx hy (by omega) hc
        exact K_famR (l := [5, 20, 21, 1021]) (fun j => cond (Nat.beq j 20) 44 (j)) ((i + 1, cs ++ [((dig 4294967296 p).getD i 0 + c) % 4294967296], ((dig 4294967296 p).getD i 0 + c) / 4294967296)) ⟨(by dsimp only; exact ⟨by omega, n1, n2, n3, n4⟩), (by dsimp only; omega)⟩ (SubR.int rfl (by first | omega | rfl | (dsimp only; omega)) (SubR.int rfl (by first | omega | rfl | (dsimp only; omega)) (SubR.cons rfl (SubR.cons rfl (SubR.cons rfl (SubR.cons rfl SubR.nil)))))) (SubKR.cons rfl (SubKR.cons rfl ((SubKR.consI rfl (ImpK.of ren_rW.symm)) ((SubKR.consI rfl (ImpK.of (by dsimp only; rw [List.length_append]; rfl))) SubKR.nil)))) (SupG.val (SupG.val (SupG.val (SupG.own rfl (SupG.own rfl (SupG.val SupG.nil)))))) (SupH.cons rfl (supJL rfl) (SupH.cons rfl (supJL rfl) (SupH.cons rfl (supJ sup_rW) (SupH.cons rfl (supJL rfl) SupH.nil)))) (lkOk rfl) rfl rfl (fun _ h => by cases h)
    ·
      refine C_exit ?_
      refine K_exT ?_
      refine K_exT ?_
      refine K_exB ?_
      refine K_then ?_
      refine C_seq ?_
      refine C_reg ?_
      refine R1 d_move rfl ?_
      refine RE (d_callCX (ps := [.val (tE (.int .u64 ((_ : Nat) : Int)))]) (caps := [.ptr 3 0, .ptr 1 0]) (fun j => cond (Nat.beq j 9) 5 (cond (Nat.beq j 1) 21 (cond (Nat.beq j 3) 1021 (cond (Nat.beq j 14) 47 (20))))) (c_collect 0 _ _ (by omega) (by omega)) fi250 rfl (krC (ρ := fun j => cond (Nat.beq j 9) 5 (cond (Nat.beq j 1) 21 (cond (Nat.beq j 3) 1021 (cond (Nat.beq j 14) 47 (20))))) (k := 3) rfl (krC (ρ := fun j => cond (Nat.beq j 9) 5 (cond (Nat.beq j 1) 21 (cond (Nat.beq j 3) 1021 (cond (Nat.beq j 14) 47 (20))))) (k := 1) rfl (krC (ρ := fun j => cond (Nat.beq j 9) 5 (cond (Nat.beq j 1) 21 (cond (Nat.beq j 3) 1021 (cond (Nat.beq j 14) 47 (20))))) (k := 9) rfl (krC (ρ := fun j => cond (Nat.beq j 9) 5 (cond (Nat.beq j 1) 21 (cond (Nat.beq j 3) 1021 (cond (Nat.beq j 14) 47 (20))))) (k := 8) ren_rW (krN (ρ := fun j => cond (Nat.beq j 9) 5 (cond (Nat.beq j 1) 21 (cond (Nat.beq j 3) 1021 (cond (Nat.beq j 14) 47 (20)))))))))) (krC (ρ := fun j => cond (Nat.beq j 9) 5 (cond (Nat.beq j 1) 21 (cond (Nat.beq j 3) 1021 (cond (Nat.beq j 14) 47 (20))))) (k := 3) rfl (krC (ρ := fun j => cond (Nat.beq j 9) 5 (cond (Nat.beq j 1) 21 (cond (Nat.beq j 3) 1021 (cond (Nat.beq j 14) 47 (20))))) (k := 1) rfl (krC (ρ := fun j => cond (Nat.beq j 9) 5 (cond (Nat.beq j 1) 21 (cond (Nat.beq j 3) 1021 (cond (Nat.beq j 14) 47 (20))))) (k := 9) rfl (krC (ρ := fun j => cond (Nat.beq j 9) 5 (cond (Nat.beq j 1) 21 (cond (Nat.beq j 3) 1021 (cond (Nat.beq j 14) 47 (20))))) (k := 14) ren_rW (krN (ρ := fun j => cond (Nat.beq j 9) 5 (cond (Nat.beq j 1) 21 (cond (Nat.beq j 3) 1021 (cond (Nat.beq j 14) 47 (20)))))))))) ⟨⟨rfl, (SupX.lit rfl)⟩, ⟨rfl, (SupX.lit rfl)⟩, ⟨rfl, (SupX.lit rfl)⟩, ⟨rfl, sup_rW⟩, trivial⟩ rfl) ⟨rfl, rfl, trivial⟩ ⟨rfl, rfl, rfl, rfl, trivial⟩ ⟨rfl, trivial⟩ ?_
      refine R_nil (by kernel_rfl) ?_
      refine K_then ?_
      refine C_seq ?_
      refine C_reg ?_
      refine RE (Does.giveL (k := 47) (es := 1) (off := 0) (len := cs.length + 1) (xs := cs ++ [(0 + c) % 4294967296]) (f := fun n : Nat => tE (.int .u32 n)) (ts := rW .u32 (cs ++ [(0 + c) % 4294967296])) (d_load (ts := [.own (.sl 47 1 0 (cs.length + 1))]) (0) ti133 rfl rfl) (fun _ h => h) (rW_all (by simp)) (by simp)) ⟨rfl, trivial⟩ ⟨rfl, rfl, trivial⟩ trivial ?_
      refine RE (d_call (c_trim _) fi184 rfl) ⟨rfl, trivial⟩ trivial trivial ?_
      refine R1 d_assign rfl ?_
      refine R_nil (by kernel_rfl) ?_
      refine K_then ?_
      refine C_ret ?_
      exact E_ret1 Plain.mk' rfl rfl (Le.of (by rw [plus_end (n := (dig 4294967296 p).length) (by omega) (lt_len two_le_W p) ((len_le_iff two_le_W q _).1 hqp) hD (by rw [← show i = (dig 4294967296 p).length by omega]; exact hv) hc, hpq]))
end An.S

/- Multiplying and dividing words by words, shifting: plain numbers. -/
namespace An
open Go
theorem wadd64 {x y : Nat} (h : x + y < 18446744073709551616) : IntKind.u64.wrap ((x : Int) + (y : Int)) = ((x + y : Nat) : Int) := by
  rw [wu64 (by omega) (by omega)]; omega
theorem wmul64 {x y : Nat} (h : x * y < 18446744073709551616) : IntKind.u64.wrap ((x : Int) * (y : Int)) = ((x * y : Nat) : Int) := by
  rw [← Int.natCast_mul]; exact wu64 (by omega) (by omega)
theorem wsub64 {x y : Nat} (h : y ≤ x) (hx : x < 18446744073709551616) : IntKind.u64.wrap ((x : Int) - (y : Int)) = ((x - y : Nat) : Int) := by
  rw [wu64 (by omega) (by omega)]; omega
theorem cut32 {m : Nat} : IntKind.u32.wrap (m : Int) = ((m % 4294967296 : Nat) : Int) := by rw [mu32]; omega
theorem mul_lt32 {x y : Nat} (hx : x < 4294967296) (hy : y < 4294967296) : x * y ≤ 18446744065119617025 := by
  have := Nat.mul_le_mul (show x ≤ 4294967295 by omega) (show y ≤ 4294967295 by omega)
  omega
/-- A step of a multiplication by a word. -/
theorem mul_step {B T T0 c i j w y x s b : Nat} (h : T + c * B ^ (i + j) = T0 + x * B ^ i * (b % B ^ j)) (hs : s = x * y + w + c) (hy : y = b / B ^ j % B) :
    T + B ^ (i + j) * (s % B) + s / B * B ^ (i + j + 1) = T0 + B ^ (i + j) * w + x * B ^ i * (b % B ^ (j + 1)) := by
  have h1 := Nat.div_add_mod s B
  have e1 : s / B * B ^ (i + j + 1) = B ^ (i + j) * (B * (s / B)) := by rw [Nat.pow_succ, Nat.mul_comm, Nat.mul_assoc]
  have e2 : B ^ (i + j) * (s % B) + B ^ (i + j) * (B * (s / B)) = B ^ (i + j) * (x * y) + B ^ (i + j) * w + B ^ (i + j) * c := by
    rw [← Nat.mul_add, ← Nat.mul_add, ← Nat.mul_add]; congr 1; omega
  have e3 : x * B ^ i * (b % B ^ (j + 1)) = x * B ^ i * (b % B ^ j) + B ^ (i + j) * (x * y) := by
    rw [mod_step, ← hy, Nat.mul_add]; congr 1
    rw [Nat.pow_add]; ac_rfl
  rw [e1, e3]
  rw [Nat.mul_comm c] at h
  omega
theorem times_in {b i j c x y s la : Nat} {w0 vs : List Nat} (hl : vs.length = la) (hD : Dig W vs) (hw : w0.length = la) (hdr : vs.drop (i + j) = w0.drop (i + j)) (hij : i + j < la) (hc : c < W) (hx : x < W) (hy : y = b / W ^ j % W)
    (hs : s = x * y + vs.getD (i + j) 0 + c) (h : val W (vs.take (i + j)) + c * W ^ (i + j) = val W (w0.take (i + j)) + x * W ^ i * (b % W ^ j)) :
    (vs.set (i + j) (s % W)).length = la ∧ Dig W (vs.set (i + j) (s % W)) ∧ (vs.set (i + j) (s % W)).drop (i + (j + 1)) = w0.drop (i + (j + 1)) ∧ s / W < W ∧
      val W ((vs.set (i + j) (s % W)).take (i + (j + 1))) + s / W * W ^ (i + (j + 1)) = val W (w0.take (i + (j + 1))) + x * W ^ i * (b % W ^ (j + 1)) := by
  have hyW : y < W := by rw [hy]; exact Nat.mod_lt _ (by decide)
  have hg : vs.getD (i + j) 0 < W := hD.getD (by decide) _
  refine ⟨by simpa using hl, hD.set (Nat.mod_lt _ (by decide)), by rw [← Nat.add_assoc, drop_set_succ]; exact drop_of_drop hdr (by omega), ?_, ?_⟩
  · have := mul_lt32 hx hyW
    refine Nat.div_lt_of_lt_mul ?_
    show s < 4294967296 * 4294967296
    have : vs.getD (i + j) 0 < 4294967296 := hg
    have : c < 4294967296 := hc
    omega
  · rw [← Nat.add_assoc, val_take_set (by omega), val_take_succ _ w0 _ (by omega), ← getD_of_drop hdr (Nat.le_refl _)]
    exact mul_step h hs hy
theorem times_out {a b i c la lb : Nat} {w0 vs : List Nat} (hi : i < la) (hw : w0.length = la + lb) (hl : vs.length = la + lb) (hD : Dig W vs) (hdr : vs.drop (i + lb) = w0.drop (i + lb)) (hz : w0.drop (i + lb) = List.replicate (la - i) 0) (hc : c < W)
    (h0 : val W (w0.take (i + lb)) = a % W ^ i * b) (hb : b < W ^ lb) (h : val W (vs.take (i + lb)) + c * W ^ (i + lb) = val W (w0.take (i + lb)) + a / W ^ i % W * W ^ i * (b % W ^ lb)) :
    (vs.set (i + lb) c).length = la + lb ∧ Dig W (vs.set (i + lb) c) ∧ (vs.set (i + lb) c).drop (i + 1 + lb) = List.replicate (la - (i + 1)) 0 ∧ val W ((vs.set (i + lb) c).take (i + 1 + lb)) = a % W ^ (i + 1) * b := by
  refine ⟨by simpa using hl, hD.set hc, ?_, ?_⟩
  · rw [show i + 1 + lb = i + lb + 1 by omega, drop_set_succ, drop_of_drop (j := i + lb + 1) hdr (by omega), ← List.drop_drop, hz, List.drop_replicate]; congr 1
  · rw [show i + 1 + lb = i + lb + 1 by omega, val_take_set (by omega), Nat.mul_comm _ c, h, h0, mod_step, Nat.mod_eq_of_lt hb, Nat.add_mul]
    congr 1
    rw [Nat.mul_comm (W ^ i)]
theorem times_end {a b la lb : Nat} {ws : List Nat} (hl : ws.length = la + lb) (hD : Dig W ws) (ha : a < W ^ la) (h : val W (ws.take (la + lb)) = a % W ^ la * b) : trimL ws = dig W (a * b) := by
  rw [trimL_eq_dig two_le_W hD]
  rw [← hl, List.take_length, Nat.mod_eq_of_lt ha] at h
  rw [h]
/-! A division by a word. -/
theorem dshort_in {a d r k q n : Nat} {qs : List Nat} (hk : k < n) (hl : qs.length = n) (hD : Dig W qs) (hd : 0 < d) (hr : r = a / W ^ (k + 1) % d) (hv : val W (qs.drop (k + 1)) = a / W ^ (k + 1) / d) (hq : (a / W ^ k % W + r * 2 ^ 32) / d = q) :
    (qs.set k q).length = n ∧ Dig W (qs.set k q) ∧ (a / W ^ k % W + r * 2 ^ 32) % d = a / W ^ k % d ∧ val W ((qs.set k q).drop k) = a / W ^ k / d ∧ q < W := by
  have e0 : a / W ^ k = W * (a / W ^ (k + 1)) + a / W ^ k % W := div_succ W a k (by decide)
  have hrd : r < d := by rw [hr]; exact Nat.mod_lt _ hd
  have e1 : a / W ^ k = (a / W ^ k % W + r * 2 ^ 32) + d * (W * (a / W ^ (k + 1) / d)) := by
    have h1 := Nat.div_add_mod (a / W ^ (k + 1)) d
    rw [← hr] at h1
    have h2 : W * (a / W ^ (k + 1)) = d * (W * (a / W ^ (k + 1) / d)) + W * r := by
      conv => lhs; rw [← h1]
      rw [Nat.mul_add, Nat.mul_left_comm]
    rw [Nat.mul_comm r]
    have h3 : (2 : Nat) ^ 32 * r = W * r := rfl
    omega
  have hqW : q < W := by
    rw [← hq]; refine Nat.div_lt_of_lt_mul ?_
    have h4 : a / W ^ k % W < W := Nat.mod_lt _ (by decide)
    have h5 : (r + 1) * W ≤ d * W := Nat.mul_le_mul_right _ hrd
    have h6 : (r + 1) * W = r * 2 ^ 32 + W := by rw [Nat.add_mul, Nat.one_mul]
    omega
  refine ⟨by simpa using hl, hD.set hqW, ?_, ?_, hqW⟩
  · conv => rhs; rw [e1, Nat.add_mul_mod_self_left]
  · rw [val_drop_succ _ _ _ (by simpa using (by omega : k < qs.length)), getD_set_self (by omega), drop_set_succ, hv]
    conv => rhs; rw [e1, Nat.add_mul_div_left _ _ hd, hq]
end An

/- Shifting words: plain numbers. -/
namespace An
open Go
theorem shlN64 {m s : Nat} {i : Int} (hi : i = (s : Int)) (hs : s ≤ 64) (h : m * 2 ^ s < 18446744073709551616) : IntKind.u64.wrap ((m : Int) * 2 ^ (min i.toNat IntKind.u64.bits)) = ((m * 2 ^ s : Nat) : Int) := by
  subst hi
  have hb : IntKind.u64.bits = 64 := rfl
  rw [Int.toNat_natCast, hb, Nat.min_eq_left hs]
  have : ((m : Int) * 2 ^ s) = ((m * 2 ^ s : Nat) : Int) := by simp
  rw [this]; exact wu64 (by omega) (by omega)
theorem pow2_le31 {s : Nat} (h : s ≤ 31) : 2 ^ s ≤ 2147483648 := Nat.pow_le_pow_right (by omega) h
theorem shl_lt {x s : Nat} (hx : x < 4294967296) (hs : s ≤ 31) : x * 2 ^ s < 9223372036854775808 := by
  have h1 := pow2_le31 hs
  have h0 : 0 < 2 ^ s := Nat.pow_pos (by omega)
  have h2 : x * 2 ^ s < 4294967296 * 2 ^ s := Nat.mul_lt_mul_of_pos_right hx h0
  have h3 : 4294967296 * 2 ^ s ≤ 4294967296 * 2147483648 := Nat.mul_le_mul_left _ h1
  omega
theorem shl_low (x : Nat) {s : Nat} (hs : s ≤ 31) : x * 2 ^ s % 4294967296 = x % 2 ^ (32 - s) * 2 ^ s := by
  have : (4294967296 : Nat) = 2 ^ (32 - s) * 2 ^ s := by rw [← Nat.pow_add, show 32 - s + s = 32 by omega]
  rw [this, Nat.mul_mod_mul_right]
theorem top_lt {i s a : Nat} {ws : List Nat} (hi : i < ws.length) (h : val W (ws.take (i + 1)) = a % W ^ i * 2 ^ s) : ws.getD i 0 < 2 ^ s := by
  have hp : 0 < W ^ i := Nat.pow_pos (by decide)
  have h0 : 0 < 2 ^ s := Nat.pow_pos (by omega)
  rw [val_take_succ _ _ _ hi] at h
  have h1 : a % W ^ i * 2 ^ s < W ^ i * 2 ^ s := Nat.mul_lt_mul_of_pos_right (Nat.mod_lt _ hp) h0
  have h2 : W ^ i * ws.getD i 0 < W ^ i * 2 ^ s := by omega
  exact Nat.lt_of_mul_lt_mul_left h2
theorem shl_or {v x s : Nat} (hv : v < 2 ^ s) (_hx : x < 4294967296) (hs : s ≤ 31) : bits .or .u32 (v : Int) ((x * 2 ^ s % 4294967296 : Nat) : Int) = ((v + x * 2 ^ s % 4294967296 : Nat) : Int) ∧ v + x * 2 ^ s % 4294967296 < 4294967296 := by
  have hb : IntKind.u32.bits = 32 := rfl
  have h1 : v + x * 2 ^ s % 4294967296 < 4294967296 := by
    rw [shl_low x hs]
    have h2 : x % 2 ^ (32 - s) < 2 ^ (32 - s) := Nat.mod_lt _ (Nat.pow_pos (by omega))
    have h3 : (x % 2 ^ (32 - s) + 1) * 2 ^ s ≤ 2 ^ (32 - s) * 2 ^ s := Nat.mul_le_mul_right _ h2
    rw [← Nat.pow_add, show 32 - s + s = 32 by omega, Nat.add_mul, Nat.one_mul] at h3
    omega
  refine ⟨?_, h1⟩
  rw [shl_low x hs] at h1 ⊢
  exact or_sum v (x % 2 ^ (32 - s)) s rfl rfl hv (wu32 (by omega) (by omega)) (by rw [hb]; omega)
theorem shift_in {a i s n x : Nat} {ws : List Nat} (hi : i < n) (hl : ws.length = n + 1) (hD : Dig W ws) (hs : s ≤ 31) (hx : x = a / W ^ i % W) (hz : ws.drop (i + 1) = List.replicate (n - i) 0) (hv : val W (ws.take (i + 1)) = a % W ^ i * 2 ^ s) :
    ((ws.set i (ws.getD i 0 + x * 2 ^ s % W)).set (i + 1) (x * 2 ^ s / W)).length = n + 1 ∧ Dig W ((ws.set i (ws.getD i 0 + x * 2 ^ s % W)).set (i + 1) (x * 2 ^ s / W)) ∧
      ((ws.set i (ws.getD i 0 + x * 2 ^ s % W)).set (i + 1) (x * 2 ^ s / W)).drop (i + 1 + 1) = List.replicate (n - (i + 1)) 0 ∧
      val W (((ws.set i (ws.getD i 0 + x * 2 ^ s % W)).set (i + 1) (x * 2 ^ s / W)).take (i + 1 + 1)) = a % W ^ (i + 1) * 2 ^ s := by
  have hxW : x < W := by rw [hx]; exact Nat.mod_lt _ (by decide)
  have ht := top_lt (by omega) hv
  have h1 := (shl_or ht hxW hs).2
  have h2 := shl_lt hxW hs
  refine ⟨by simpa using hl, (hD.set h1).set (Nat.div_lt_of_lt_mul (by show _ < 4294967296 * 4294967296; omega)), ?_, ?_⟩
  · rw [drop_set_succ, List.drop_set_of_lt (by omega), ← List.drop_drop, hz, List.drop_replicate]; congr 1
  · rw [val_take_set (by simpa using (by omega : i + 1 < ws.length)), val_take_set (by omega), mod_step, ← hx, Nat.add_mul, ← hv, val_take_succ _ _ _ (by omega)]
    have h3 := Nat.div_add_mod (x * 2 ^ s) W
    have e : W ^ i * (x * 2 ^ s % W) + W ^ i * (W * (x * 2 ^ s / W)) = W ^ i * x * 2 ^ s := by
      rw [← Nat.mul_add, Nat.add_comm, h3, Nat.mul_assoc]
    have e2 : W ^ (i + 1) * (x * 2 ^ s / W) = W ^ i * (W * (x * 2 ^ s / W)) := by rw [Nat.pow_succ, Nat.mul_assoc]
    rw [Nat.mul_add, e2]; omega
theorem shift_end {a n s : Nat} {ws : List Nat} (hl : ws.length = n + 1) (hD : Dig W ws) (ha : a < W ^ n) (hv : val W (ws.take (n + 1)) = a % W ^ n * 2 ^ s) : ws = dgs W (n + 1) (a * 2 ^ s) := by
  rw [← hl, List.take_length, Nat.mod_eq_of_lt ha] at hv
  rw [← hv, ← hl, dgs_val (by decide) hD]
end An

/- Package whole: products and quotients by a word. -/
namespace An.S
open Go Go.Proofs An
theorem fi248 : FnI Tryz.prog 248 := ⟨_, Tryz.func248, by kernel_rfl, rfl⟩
theorem c_times (a b : Nat) (ha : (dig 4294967296 a).length ≤ 100000) (hb : (dig 4294967296 b).length ≤ 100000) :
    Ct Tryz.prog 126 [tN a, tN b] (tN (a * b)) := by
  refine Ct.intro Tryz.func126 rfl Tryz.ntmps126 rfl ?_
  intro w F
  have hbW := lt_len two_le_W b
  refine C_seq ?_
  refine C_reg ?_
  refine R1 d_assign rfl ?_
  refine R_nil (by kernel_rfl) ?_
  refine K_then ?_
  refine C_seq ?_
  refine C_reg ?_
  refine R1 d_move rfl ?_
  refine R1 (d_len Tryz.underlying133) rfl ?_
  refine R1 d_move rfl ?_
  refine R1 (d_len Tryz.underlying133) rfl ?_
  refine R2 (d_add (by first | exact wr64 (by omega) (by omega))) rfl rfl ?_
  refine RE (d_makeO (k := 17) (t := tE (.int .u32 0)) (ts := rW .u32 (List.replicate (((dig 4294967296 a).length + (dig 4294967296 b).length)) 0)) (((dig 4294967296 a).length + (dig 4294967296 b).length)) (((dig 4294967296 a).length + (dig 4294967296 b).length)) Tryz.underlying133 el186 (fun _ _ => rfl) rfl (by omega) (by omega) (Nat.le_refl _) (by omega) (by omega) (rW_rep _)) ⟨rfl, rfl, trivial⟩ trivial ⟨rfl, trivial⟩ ?_
  refine R1 d_assign rfl ?_
  refine R_nil (by kernel_rfl) ?_
  refine K_then ?_
  refine C_seq ?_
  refine C_seq ?_
  refine C_reg ?_
  refine R1 d_move rfl ?_
  refine R1 (d_len Tryz.underlying133) rfl ?_
  refine R1 d_move rfl ?_
  refine R_nil (by kernel_rfl) ?_
  refine K_then ?_
  refine C_block ?_
  refine C_loop (fun (fm : (Nat) × (List Nat)) => (fun (i : Nat) (ws : List Nat) => i ≤ (dig 4294967296 a).length ∧ ws.length = (dig 4294967296 a).length + (dig 4294967296 b).length ∧ Dig 4294967296 ws ∧ ws.drop (i + (dig 4294967296 b).length) = List.replicate ((dig 4294967296 a).length - i) 0 ∧ val 4294967296 (ws.take (i + (dig 4294967296 b).length)) = a % 4294967296 ^ i * b) fm.1 fm.2) (fun (fm : (Nat) × (List Nat)) => (fun (i : Nat) (ws : List Nat) => upd (upd (upd (upd (upd (fun _ => none) 1 (some (.val (tN b)))) 5 (some (.own (.sl 17 1 0 ((dig 4294967296 a).length + (dig 4294967296 b).length))))) 18 (some (.val (tN a)))) 19 (some (.val (tI (dig 4294967296 a).length)))) 20 (some (.val (tI i)))) fm.1 fm.2) (fun (fm : (Nat) × (List Nat)) => (fun (i : Nat) (ws : List Nat) => upd (fun _ => none) 17 (some (⟨186, 1, false, rW .u32 ws⟩))) fm.1 fm.2) (nm [17]) (fun (fm : (Nat) × (List Nat)) => (fun (i : Nat) (ws : List Nat) => (dig 4294967296 a).length - i) fm.1 fm.2) ((0, List.replicate ((dig 4294967296 a).length + (dig 4294967296 b).length) 0)) (by dsimp only; exact ⟨Nat.zero_le _, by simp, Dig.rep (by decide) _, by rw [List.drop_replicate]; congr 1; omega, by rw [List.take_replicate, val_replicate_zero, Nat.pow_zero, Nat.mod_one, Nat.zero_mul]⟩) (Sub.int rfl (by first | omega | rfl | (dsimp only; omega)) (Sub.int rfl (by first | omega | rfl | (dsimp only; omega)) (Sub.cons rfl (Sub.cons rfl (Sub.cons rfl Sub.nil))))) ((SubK.consI rfl ImpK.refl) SubK.nil) (SupG.val (SupG.val (SupG.val (SupG.own rfl (SupG.val SupG.nil))))) (SupH.cons rfl (supJ sup_rW) SupH.nil) (lkOk rfl) ?_
  intro fm hI
  obtain ⟨i, ws⟩ := fm
  replace hI : i ≤ (dig 4294967296 a).length ∧ ws.length = (dig 4294967296 a).length + (dig 4294967296 b).length ∧ Dig 4294967296 ws ∧ ws.drop (i + (dig 4294967296 b).length) = List.replicate ((dig 4294967296 a).length - i) 0 ∧ val 4294967296 (ws.take (i + (dig 4294967296 b).length)) = a % 4294967296 ^ i * b := hI
  show wc _ _ _ _ (upd (upd (upd (upd (upd (fun _ => none) 1 (some (.val (tN b)))) 5 (some (.own (.sl 17 1 0 ((dig 4294967296 a).length + (dig 4294967296 b).length))))) 18 (some (.val (tN a)))) 19 (some (.val (tI (dig 4294967296 a).length)))) 20 (some (.val (tI i)))) (upd (fun _ => none) 17 (some (⟨186, 1, false, rW .u32 ws⟩))) _
  obtain ⟨hi, hl, hD, hz, hv⟩ := hI
  have hx := dig_getD two_le_W a i
  have hx1 := (dig_Dig two_le_W a).getD (by omega) i
  refine C_seq ?_
  refine C_reg ?_
  refine R2 d_lss rfl rfl ?_
  refine R_nil (by kernel_rfl) ?_
  refine K_then ?_
  refine C_seq ?_
  refine C_if rfl (fun h137 => ?_) (fun h137 => ?_)
  ·
    refine C_skip ?_
    refine K_then ?_
    refine C_seq ?_
    refine C_block ?_
    refine C_seq ?_
    refine C_reg ?_
    refine R1 d_move rfl ?_
    refine R2 (d_indexP sl133 (i) (by omega) (gN (by omega))) rfl rfl ?_
    refine R1 (d_loadP ti186) rfl ?_
    refine R1 d_assign rfl ?_
    refine R1 d_assign rfl ?_
    refine R_nil (by kernel_rfl) ?_
    refine K_then ?_
    refine C_seq ?_
    refine C_reg ?_
    refine R1 d_assign rfl ?_
    refine R_nil (by kernel_rfl) ?_
    refine K_then ?_
    refine C_seq ?_
    refine C_seq ?_
    refine C_reg ?_
    refine R1 d_move rfl ?_
    refine R1 (d_len Tryz.underlying133) rfl ?_
    refine R1 d_move rfl ?_
    refine R_nil (by kernel_rfl) ?_
    refine K_then ?_
    refine C_block ?_
    refine C_loop (fun (fm : (Nat) × (List Nat) × (Nat)) => (fun (j : Nat) (vs : List Nat) (c : Nat) => j ≤ (dig 4294967296 b).length ∧ vs.length = (dig 4294967296 a).length + (dig 4294967296 b).length ∧ Dig 4294967296 vs ∧ vs.drop (i + j) = ws.drop (i + j) ∧ c < 4294967296 ∧ val 4294967296 (vs.take (i + j)) + c * 4294967296 ^ (i + j) = val 4294967296 (ws.take (i + j)) + (dig 4294967296 a).getD i 0 * 4294967296 ^ i * (b % 4294967296 ^ j)) fm.1 fm.2.1 fm.2.2) (fun (fm : (Nat) × (List Nat) × (Nat)) => (fun (j : Nat) (vs : List Nat) (c : Nat) => upd (upd (upd (upd (upd (upd (upd (upd (upd (upd (upd (fun _ => none) 1 (some (.val (tN b)))) 5 (some (.own (.sl 17 1 0 ((dig 4294967296 a).length + (dig 4294967296 b).length))))) 6 (some (.val (tI i)))) 7 (some (.val (tE (.int .u32 ((dig 4294967296 a).getD i 0 : Nat)))))) 8 (some (.val (tE (.int .u64 (c : Int)))))) 18 (some (.val (tN a)))) 19 (some (.val (tI (dig 4294967296 a).length)))) 20 (some (.val (tI i)))) 25 (some (.val (tN b)))) 26 (some (.val (tI (dig 4294967296 b).length)))) 27 (some (.val (tI j)))) fm.1 fm.2.1 fm.2.2) (fun (fm : (Nat) × (List Nat) × (Nat)) => (fun (j : Nat) (vs : List Nat) (c : Nat) => upd (fun _ => none) 17 (some (⟨186, 1, false, rW .u32 vs⟩))) fm.1 fm.2.1 fm.2.2) (nm [17]) (fun (fm : (Nat) × (List Nat) × (Nat)) => (fun (j : Nat) (vs : List Nat) (c : Nat) => (dig 4294967296 b).length - j) fm.1 fm.2.1 fm.2.2) ((0, ws, 0)) (by dsimp only; exact ⟨Nat.zero_le _, hl, hD, rfl, by omega, by rw [Nat.pow_zero, Nat.mod_one]; omega⟩) (Sub.int rfl (by first | omega | rfl | (dsimp only; omega)) (Sub.int rfl (by first | omega | rfl | (dsimp only; omega)) (Sub.cons rfl (Sub.int rfl (by first | omega | rfl | (dsimp only; omega)) (Sub.int rfl (by first | omega | rfl | (dsimp only; omega)) (Sub.cons rfl (Sub.int rfl (by first | omega | rfl | (dsimp only; omega)) (Sub.int rfl (by first | omega | rfl | (dsimp only; omega)) (Sub.int rfl (by first | omega | rfl | (dsimp only; omega)) (Sub.cons rfl (Sub.cons rfl Sub.nil))))))))))) ((SubK.consI rfl ImpK.refl) SubK.nil) (SupG.val (SupG.val (SupG.val (SupG.val (SupG.val (SupG.val (SupG.val (SupG.val (SupG.val (SupG.own rfl (SupG.val SupG.nil))))))))))) (SupH.cons rfl (supJ sup_rW) SupH.nil) (lkOk rfl) ?_
    intro fm hJ
    obtain ⟨j, vs, c⟩ := fm
    replace hJ : j ≤ (dig 4294967296 b).length ∧ vs.length = (dig 4294967296 a).length + (dig 4294967296 b).length ∧ Dig 4294967296 vs ∧ vs.drop (i + j) = ws.drop (i + j) ∧ c < 4294967296 ∧ val 4294967296 (vs.take (i + j)) + c * 4294967296 ^ (i + j) = val 4294967296 (ws.take (i + j)) + (dig 4294967296 a).getD i 0 * 4294967296 ^ i * (b % 4294967296 ^ j) := hJ
    show wc _ _ _ _ (upd (upd (upd (upd (upd (upd (upd (upd (upd (upd (upd (fun _ => none) 1 (some (.val (tN b)))) 5 (some (.own (.sl 17 1 0 ((dig 4294967296 a).length + (dig 4294967296 b).length))))) 6 (some (.val (tI i)))) 7 (some (.val (tE (.int .u32 ((dig 4294967296 a).getD i 0 : Nat)))))) 8 (some (.val (tE (.int .u64 (c : Int)))))) 18 (some (.val (tN a)))) 19 (some (.val (tI (dig 4294967296 a).length)))) 20 (some (.val (tI i)))) 25 (some (.val (tN b)))) 26 (some (.val (tI (dig 4294967296 b).length)))) 27 (some (.val (tI j)))) (upd (fun _ => none) 17 (some (⟨186, 1, false, rW .u32 vs⟩))) _
    obtain ⟨hj, kl, kD, kdr, kc, kv⟩ := hJ
    have hy := dig_getD two_le_W b j
    have hy1 := (dig_Dig two_le_W b).getD (by omega) j
    have hw1 := kD.getD (by omega) (i + j)
    have hxy := mul_lt32 hx1 hy1
    refine C_seq ?_
    refine C_reg ?_
    refine R2 d_lss rfl rfl ?_
    refine R_nil (by kernel_rfl) ?_
    refine K_then ?_
    refine C_seq ?_
    refine C_if rfl (fun h139 => ?_) (fun h139 => ?_)
    ·
      refine C_skip ?_
      refine K_then ?_
      refine C_seq ?_
      refine C_block ?_
      refine C_seq ?_
      refine C_reg ?_
      refine R1 d_move rfl ?_
      refine R2 (d_indexP sl133 (j) (by omega) (gN (by omega))) rfl rfl ?_
      refine R1 (d_loadP ti186) rfl ?_
      refine R1 d_assign rfl ?_
      refine R1 d_assign rfl ?_
      refine R_nil (by kernel_rfl) ?_
      refine K_then ?_
      refine C_seq ?_
      refine C_reg ?_
      refine R1 d_move rfl ?_
      refine R1 (d_convert Tryz.underlying121 (isS Tryz.underlying186) (by first | exact wu64 (by omega) (by omega) | exact mu64)) rfl ?_
      refine R1 d_move rfl ?_
      refine R1 (d_convert Tryz.underlying121 (isS Tryz.underlying186) (by first | exact wu64 (by omega) (by omega) | exact mu64)) rfl ?_
      refine R2 (d_mul (wmul64 (by omega))) rfl rfl ?_
      refine R1 d_move rfl ?_
      refine R1 d_move rfl ?_
      refine R1 d_move rfl ?_
      refine R2 (d_add (by first | exact wr64 (by omega) (by omega))) rfl rfl ?_
      refine R2 (d_indexO sl133 (by omega) (by omega) rfl) rfl rfl ?_
      refine RE (d_load (i + j) ti186 (rW_get (by omega)) (by omega)) ⟨rfl, trivial⟩ ⟨rfl, trivial⟩ trivial ?_
      refine R1 (d_convert Tryz.underlying121 (isS Tryz.underlying186) (by first | exact wu64 (by omega) (by omega) | exact mu64)) rfl ?_
      refine R2 (d_add (wadd64 (by omega))) rfl rfl ?_
      refine R1 d_move rfl ?_
      refine R2 (d_add (wadd64 (by omega))) rfl rfl ?_
      refine R1 d_assign rfl ?_
      refine R_nil (by kernel_rfl) ?_
      refine K_then ?_
      refine C_seq ?_
      refine C_reg ?_
      refine R1 d_move rfl ?_
      refine R1 d_move rfl ?_
      refine R1 d_move rfl ?_
      refine R2 (d_add (by first | exact wr64 (by omega) (by omega))) rfl rfl ?_
      refine R1 d_move rfl ?_
      refine R1 (d_convert Tryz.underlying186 (isS Tryz.underlying121) cut32) rfl ?_
      refine R2 (d_indexO sl133 (by omega) (by omega) rfl) rfl rfl ?_
      refine RE (d_store (i + j) ti186 (rW_lt (by omega)) (by omega) (rW_set (m := _) rfl)) ⟨rfl, rfl, trivial⟩ ⟨rfl, trivial⟩ trivial ?_
      refine R_nil (by kernel_rfl) ?_
      refine K_then ?_
      refine C_reg ?_
      refine R1 d_move rfl ?_
      refine R2 (d_shr (by decide) shr32) rfl rfl ?_
      refine R1 d_assign rfl ?_
      refine R_nil (by kernel_rfl) ?_
      refine K_norB ?_
      refine K_then ?_
      refine C_reg ?_
      refine R2 (d_add (by first | exact wr64 (by omega) (by omega))) rfl rfl ?_
      refine R1 d_move rfl ?_
      refine R_nil (by kernel_rfl) ?_
      obtain ⟨n1, n2, n3, n4, n5⟩ := times_in (s := (dig 4294967296 a).getD i 0 * (dig 4294967296 b).getD j 0 + vs.getD (i + j) 0 + c) kl kD hl kdr (by omega) kc hx1 hy rfl kv
      exact K_fam ((j + 1, vs.set (i + j) (((dig 4294967296 a).getD i 0 * (dig 4294967296 b).getD j 0 + vs.getD (i + j) 0 + c) % 4294967296), ((dig 4294967296 a).getD i 0 * (dig 4294967296 b).getD j 0 + vs.getD (i + j) 0 + c) / 4294967296)) ⟨(by dsimp only; exact ⟨by omega, n1, n2, n3, n4, n5⟩), (by dsimp only; omega)⟩ (Sub.int rfl (by first | omega | rfl | (dsimp only; omega)) (Sub.int rfl (by first | omega | rfl | (dsimp only; omega)) (Sub.cons rfl (Sub.int rfl (by first | omega | rfl | (dsimp only; omega)) (Sub.int rfl (by first | omega | rfl | (dsimp only; omega)) (Sub.cons rfl (Sub.int rfl (by first | omega | rfl | (dsimp only; omega)) (Sub.int rfl (by first | omega | rfl | (dsimp only; omega)) (Sub.int rfl (by first | omega | rfl | (dsimp only; omega)) (Sub.cons rfl (Sub.cons rfl Sub.nil))))))))))) ((SubK.consI rfl ImpK.refl) SubK.nil) (SupG.val (SupG.val (SupG.val (SupG.val (SupG.val (SupG.val (SupG.val (SupG.val (SupG.val (SupG.own rfl (SupG.val SupG.nil))))))))))) (SupH.cons rfl (supJ sup_rW) SupH.nil) (lkOk rfl)
    ·
      have hjb : j = (dig 4294967296 b).length := by omega
      refine C_exit ?_
      refine K_exT ?_
      refine K_exT ?_
      refine K_exB ?_
      refine K_then ?_
      refine C_reg ?_
      refine R1 d_move rfl ?_
      refine R1 d_move rfl ?_
      refine R1 d_move rfl ?_
      refine R1 (d_len Tryz.underlying133) rfl ?_
      refine R2 (d_add (by first | exact wr64 (by omega) (by omega))) rfl rfl ?_
      refine R1 d_move rfl ?_
      refine R1 (d_convert Tryz.underlying186 (isS Tryz.underlying121) (wu32 (by omega) (by omega))) rfl ?_
      refine R2 (d_indexO sl133 (by omega) (by omega) rfl) rfl rfl ?_
      refine RE (d_store (i + (dig 4294967296 b).length) ti186 (rW_lt (by omega)) (by omega) (rW_set (m := _) rfl)) ⟨rfl, rfl, trivial⟩ ⟨rfl, trivial⟩ trivial ?_
      refine R_nil (by kernel_rfl) ?_
      refine K_norB ?_
      refine K_then ?_
      refine C_reg ?_
      refine R2 (d_add (by first | exact wr64 (by omega) (by omega))) rfl rfl ?_
      refine R1 d_move rfl ?_
      refine R_nil (by kernel_rfl) ?_
      obtain ⟨n1, n2, n3, n4⟩ := times_out (by omega) hl kl kD (by rw [← hjb]; exact kdr) hz kc hv hbW (by rw [← hjb, ← hx]; exact kv)
      exact K_fam ((i + 1, vs.set (i + (dig 4294967296 b).length) c)) ⟨(by dsimp only; exact ⟨by omega, n1, n2, n3, n4⟩), (by dsimp only; omega)⟩ (Sub.int rfl (by first | omega | rfl | (dsimp only; omega)) (Sub.int rfl (by first | omega | rfl | (dsimp only; omega)) (Sub.cons rfl (Sub.cons rfl (Sub.cons rfl Sub.nil))))) ((SubK.consI rfl ImpK.refl) SubK.nil) (SupG.val (SupG.val (SupG.val (SupG.own rfl (SupG.val SupG.nil))))) (SupH.cons rfl (supJ sup_rW) SupH.nil) (lkOk rfl)
  ·
    refine C_exit ?_
    refine K_exT ?_
    refine K_exT ?_
    refine K_exB ?_
    refine K_then ?_
    refine C_seq ?_
    refine C_reg ?_
    refine RE (d_moveS (fun _ h => h) (rW_all hl) hl) ⟨rfl, trivial⟩ ⟨rfl, trivial⟩ trivial ?_
    refine RE (d_call (c_trim _) fi184 rfl) ⟨rfl, trivial⟩ trivial trivial ?_
    refine R1 d_assign rfl ?_
    refine R_nil (by kernel_rfl) ?_
    refine K_then ?_
    refine C_ret ?_
    exact E_ret1 Plain.mk' rfl rfl (Le.of (congrArg tWs (times_end hl hD (lt_len two_le_W a) (by rw [← show i = (dig 4294967296 a).length by omega]; exact hv))))
theorem c_divideShort (a d : Nat) (ha : (dig 4294967296 a).length ≤ 100000) (hd : 0 < d) (hdW : d < 4294967296) :
    Ct Tryz.prog 232 [tN a, tE (.int .u32 (d : Int))] (tT [tN (a / d), tE (.int .u32 ((a % d : Nat) : Int))]) := by
  refine Ct.intro Tryz.func232 rfl Tryz.ntmps232 rfl ?_
  intro w F
  refine C_seq ?_
  refine C_reg ?_
  refine R1 d_assign rfl ?_
  refine R1 d_assign rfl ?_
  refine R_nil (by kernel_rfl) ?_
  refine K_then ?_
  refine C_seq ?_
  refine C_reg ?_
  refine R1 d_move rfl ?_
  refine R1 (d_len Tryz.underlying133) rfl ?_
  refine RE (d_makeO (k := 11) (t := tE (.int .u32 0)) (ts := rW .u32 (List.replicate ((dig 4294967296 a).length) 0)) ((dig 4294967296 a).length) ((dig 4294967296 a).length) Tryz.underlying133 el186 (fun _ _ => rfl) rfl (by omega) (by omega) (Nat.le_refl _) (by omega) (by omega) (rW_rep _)) ⟨rfl, rfl, trivial⟩ trivial ⟨rfl, trivial⟩ ?_
  refine R1 d_assign rfl ?_
  refine R_nil (by kernel_rfl) ?_
  refine K_then ?_
  refine C_seq ?_
  refine C_reg ?_
  refine R1 d_assign rfl ?_
  refine R_nil (by kernel_rfl) ?_
  refine K_then ?_
  refine C_seq ?_
  refine C_seq ?_
  refine C_reg ?_
  refine R1 d_move rfl ?_
  refine R1 (d_len Tryz.underlying133) rfl ?_
  refine R2 (d_sub (by first | exact wr64 (by omega) (by omega))) rfl rfl ?_
  refine R1 d_assign rfl ?_
  refine R_nil (by kernel_rfl) ?_
  refine K_then ?_
  refine C_block ?_
  refine C_loop (fun (fm : (Nat) × (List Nat)) => (fun (k : Nat) (qs : List Nat) => k ≤ (dig 4294967296 a).length ∧ qs.length = (dig 4294967296 a).length ∧ Dig 4294967296 qs ∧ val 4294967296 (qs.drop k) = a / 4294967296 ^ k / d) fm.1 fm.2) (fun (fm : (Nat) × (List Nat)) => (fun (k : Nat) (qs : List Nat) => upd (upd (upd (upd (upd (fun _ => none) 0 (some (.val (tN a)))) 1 (some (.val (tE (.int .u32 (d : Int)))))) 6 (some (.own (.sl 11 1 0 (dig 4294967296 a).length)))) 7 (some (.val (tE (.int .u32 ((a / 4294967296 ^ k % d : Nat) : Int)))))) 8 (some (.val (tI ((k : Int) - 1))))) fm.1 fm.2) (fun (fm : (Nat) × (List Nat)) => (fun (k : Nat) (qs : List Nat) => upd (fun _ => none) 11 (some (⟨186, 1, false, rW .u32 qs⟩))) fm.1 fm.2) (nm [11]) (fun (fm : (Nat) × (List Nat)) => (fun (k : Nat) (qs : List Nat) => k) fm.1 fm.2) (((dig 4294967296 a).length, List.replicate (dig 4294967296 a).length 0)) (by dsimp only; exact ⟨Nat.le_refl _, by simp, Dig.rep (by decide) _, by rw [Nat.div_eq_of_lt (lt_len two_le_W a), Nat.zero_div, List.drop_replicate, val_replicate_zero]⟩) (Sub.int rfl (by first | omega | rfl | (dsimp only; omega)) (Sub.le rfl (Le.int (by rw [Nat.div_eq_of_lt (lt_len two_le_W a), Nat.zero_mod]; rfl)) (Sub.cons rfl (Sub.int rfl (by first | omega | rfl | (dsimp only; omega)) (Sub.cons rfl Sub.nil))))) ((SubK.consI rfl ImpK.refl) SubK.nil) (SupG.val (SupG.val (SupG.own rfl (SupG.val (SupG.val SupG.nil))))) (SupH.cons rfl (supJ sup_rW) SupH.nil) (lkOk rfl) ?_
  intro fm hI
  obtain ⟨k, qs⟩ := fm
  replace hI : k ≤ (dig 4294967296 a).length ∧ qs.length = (dig 4294967296 a).length ∧ Dig 4294967296 qs ∧ val 4294967296 (qs.drop k) = a / 4294967296 ^ k / d := hI
  show wc _ _ _ _ (upd (upd (upd (upd (upd (fun _ => none) 0 (some (.val (tN a)))) 1 (some (.val (tE (.int .u32 (d : Int)))))) 6 (some (.own (.sl 11 1 0 (dig 4294967296 a).length)))) 7 (some (.val (tE (.int .u32 ((a / 4294967296 ^ k % d : Nat) : Int)))))) 8 (some (.val (tI ((k : Int) - 1))))) (upd (fun _ => none) 11 (some (⟨186, 1, false, rW .u32 qs⟩))) _
  obtain ⟨hk, hl, hD, hv⟩ := hI
  have hr : a / 4294967296 ^ k % d < d := Nat.mod_lt _ hd
  refine C_seq ?_
  refine C_seq ?_
  refine C_reg ?_
  refine R1 d_move rfl ?_
  refine R2 d_geq rfl rfl ?_
  refine R_nil (by kernel_rfl) ?_
  refine K_then ?_
  refine C_if rfl (fun h166 => ?_) (fun h166 => ?_)
  ·
    have hx := dig_getD two_le_W a (k - 1)
    have hx1 := (dig_Dig two_le_W a).getD (by omega) (k - 1)
    obtain ⟨n1, n2, n3, n4, n5⟩ := dshort_in (k := k - 1) (by omega) hl hD hd rfl (by rw [show k - 1 + 1 = k by omega]; exact hv) (by rw [show k - 1 + 1 = k by omega, ← hx])
    rw [show k - 1 + 1 = k by omega] at n3
    refine C_skip ?_
    refine K_then ?_
    refine C_seq ?_
    refine C_block ?_
    refine C_reg ?_
    refine R1 d_move rfl ?_
    refine R1 d_move rfl ?_
    refine R1 d_move rfl ?_
    refine R1 d_move rfl ?_
    refine R1 d_move rfl ?_
    refine R2 (d_indexP sl133 (k - 1) (by omega) (gN (by omega))) rfl rfl ?_
    refine R1 (d_loadP ti186) rfl ?_
    refine R1 d_move rfl ?_

    refine RE (d_call (c_Div32 _ _ _ _ _ (by omega) (by omega) (by omega) rfl rfl) fi248 rfl) ⟨rfl, rfl, rfl, trivial⟩ trivial trivial ?_
    refine R1 d_move rfl ?_
    refine R1 (d_extract rfl) rfl ?_
    refine R1 (d_extract rfl) rfl ?_
    refine R2 (d_indexO sl133 (by omega) (by omega) rfl) rfl rfl ?_
    refine RE (d_store (k - 1) ti186 (rW_lt (by omega)) (by omega) (rW_set (m := _) rfl)) ⟨rfl, rfl, trivial⟩ ⟨rfl, trivial⟩ trivial ?_
    refine R1 d_assign rfl ?_
    refine R_nil (by kernel_rfl) ?_
    refine K_norB ?_
    refine K_then ?_
    refine C_reg ?_
    refine R1 d_move rfl ?_
    refine R2 (d_sub (by first | exact wr64 (by omega) (by omega))) rfl rfl ?_
    refine R1 d_assign rfl ?_
    refine R_nil (by kernel_rfl) ?_
    exact K_fam ((k - 1, qs.set (k - 1) (((dig 4294967296 a).getD (k - 1) 0 + a / 4294967296 ^ k % d * 2 ^ 32) / d))) ⟨(by dsimp only; exact ⟨by omega, n1, n2, n4⟩), (by dsimp only; omega)⟩ (Sub.int rfl (by first | omega | rfl | (dsimp only; omega)) (Sub.le rfl (Le.int (by dsimp only; rw [hx, n3])) (Sub.cons rfl (Sub.int rfl (by first | omega | rfl | (dsimp only; omega)) (Sub.cons rfl Sub.nil))))) ((SubK.consI rfl ImpK.refl) SubK.nil) (SupG.val (SupG.val (SupG.own rfl (SupG.val (SupG.val SupG.nil))))) (SupH.cons rfl (supJ sup_rW) SupH.nil) (lkOk rfl)
  ·
    refine C_exit ?_
    refine K_exT ?_
    refine K_exT ?_
    refine K_exB ?_
    refine K_then ?_
    refine C_seq ?_
    refine C_reg ?_
    refine RE (d_moveS (fun _ h => h) (rW_all hl) hl) ⟨rfl, trivial⟩ ⟨rfl, trivial⟩ trivial ?_
    refine RE (d_call (c_trim _) fi184 rfl) ⟨rfl, trivial⟩ trivial trivial ?_
    refine R1 d_move rfl ?_
    refine R1 d_assign rfl ?_
    refine R1 d_assign rfl ?_
    refine R_nil (by kernel_rfl) ?_
    refine K_then ?_
    refine C_ret ?_
    exact E_ret2 Plain.mk' rfl rfl rfl (Le.of (by rw [trimL_eq_dig two_le_W hD, show val 4294967296 qs = a / d by rw [show k = 0 by omega] at hv; simpa using hv])) (Le.int (by rw [show k = 0 by omega, Nat.pow_zero, Nat.div_one]))
theorem c_shifted (a s : Nat) (ha : (dig 4294967296 a).length ≤ 100000) (hs : s ≤ 31) :
    CtG Tryz.prog 234 [] [.val (tN a), .val (tI s)] (.own (.sl 12 1 0 ((dig 4294967296 a).length + 1))) [(12, ⟨186, 1, false, rW .u32 (dgs 4294967296 ((dig 4294967296 a).length + 1) (a * 2 ^ s))⟩)] [12] := by
  refine CtG.intro [] Tryz.func234 rfl Tryz.ntmps234 rfl rfl trivial ?_
  intro w F η
  refine C_seq ?_
  refine C_reg ?_
  refine R1 d_assign rfl ?_
  refine R_nil (by kernel_rfl) ?_
  refine K_then ?_
  refine C_seq ?_
  refine C_reg ?_
  refine R1 d_move rfl ?_
  refine R1 (d_len Tryz.underlying133) rfl ?_
  refine R2 (d_add (by first | exact wr64 (by omega) (by omega))) rfl rfl ?_
  refine RE (d_makeO (k := 12) (t := tE (.int .u32 0)) (ts := rW .u32 (List.replicate ((dig 4294967296 a).length + 1) 0)) ((dig 4294967296 a).length + 1) ((dig 4294967296 a).length + 1) Tryz.underlying133 el186 (fun _ _ => rfl) rfl (by omega) (by omega) (Nat.le_refl _) (by omega) (by omega) (rW_rep _)) ⟨rfl, rfl, trivial⟩ trivial ⟨rfl, trivial⟩ ?_
  refine R1 d_assign rfl ?_
  refine R_nil (by kernel_rfl) ?_
  refine K_then ?_
  refine C_seq ?_
  refine C_seq ?_
  refine C_reg ?_
  refine R1 d_move rfl ?_
  refine R1 (d_len Tryz.underlying133) rfl ?_
  refine R1 d_move rfl ?_
  refine R_nil (by kernel_rfl) ?_
  refine K_then ?_
  refine C_block ?_
  refine C_loop (fun (fm : (Nat) × (List Nat)) => (fun (i : Nat) (ws : List Nat) => i ≤ (dig 4294967296 a).length ∧ ws.length = (dig 4294967296 a).length + 1 ∧ Dig 4294967296 ws ∧ ws.drop (i + 1) = List.replicate ((dig 4294967296 a).length - i) 0 ∧ val 4294967296 (ws.take (i + 1)) = a % 4294967296 ^ i * 2 ^ s) fm.1 fm.2) (fun (fm : (Nat) × (List Nat)) => (fun (i : Nat) (ws : List Nat) => upd (upd (upd (upd (upd (fun _ => none) 1 (some (.val (tI s)))) 5 (some (.own (.sl 12 1 0 ((dig 4294967296 a).length + 1))))) 13 (some (.val (tN a)))) 14 (some (.val (tI (dig 4294967296 a).length)))) 15 (some (.val (tI i)))) fm.1 fm.2) (fun (fm : (Nat) × (List Nat)) => (fun (i : Nat) (ws : List Nat) => upd (fun _ => none) 12 (some (⟨186, 1, false, rW .u32 ws⟩))) fm.1 fm.2) (nm [12]) (fun (fm : (Nat) × (List Nat)) => (fun (i : Nat) (ws : List Nat) => (dig 4294967296 a).length - i) fm.1 fm.2) ((0, List.replicate ((dig 4294967296 a).length + 1) 0)) (by dsimp only; exact ⟨Nat.zero_le _, by simp, Dig.rep (by decide) _, by rw [List.drop_replicate]; congr 1, by rw [List.take_replicate, val_replicate_zero, Nat.pow_zero, Nat.mod_one, Nat.zero_mul]⟩) (Sub.int rfl (by first | omega | rfl | (dsimp only; omega)) (Sub.int rfl (by first | omega | rfl | (dsimp only; omega)) (Sub.cons rfl (Sub.cons rfl (Sub.int rfl (by first | omega | rfl | (dsimp only; omega)) Sub.nil))))) ((SubK.consI rfl ImpK.refl) SubK.nil) (SupG.val (SupG.val (SupG.val (SupG.own rfl (SupG.val SupG.nil))))) (SupH.cons rfl (supJ sup_rW) SupH.nil) (lkOk rfl) ?_
  intro fm hI
  obtain ⟨i, ws⟩ := fm
  replace hI : i ≤ (dig 4294967296 a).length ∧ ws.length = (dig 4294967296 a).length + 1 ∧ Dig 4294967296 ws ∧ ws.drop (i + 1) = List.replicate ((dig 4294967296 a).length - i) 0 ∧ val 4294967296 (ws.take (i + 1)) = a % 4294967296 ^ i * 2 ^ s := hI
  show wc _ _ _ _ (upd (upd (upd (upd (upd (fun _ => none) 1 (some (.val (tI s)))) 5 (some (.own (.sl 12 1 0 ((dig 4294967296 a).length + 1))))) 13 (some (.val (tN a)))) 14 (some (.val (tI (dig 4294967296 a).length)))) 15 (some (.val (tI i)))) (upd (fun _ => none) 12 (some (⟨186, 1, false, rW .u32 ws⟩))) _
  obtain ⟨hi, hl, hD, hz, hv⟩ := hI
  have hx := dig_getD two_le_W a i
  have hx1 := (dig_Dig two_le_W a).getD (by omega) i
  refine C_seq ?_
  refine C_reg ?_
  refine R2 d_lss rfl rfl ?_
  refine R_nil (by kernel_rfl) ?_
  refine K_then ?_
  refine C_seq ?_
  refine C_if rfl (fun h175 => ?_) (fun h175 => ?_)
  ·
    refine C_skip ?_
    refine K_then ?_
    refine C_seq ?_
    refine C_block ?_
    refine C_seq ?_
    refine C_reg ?_
    refine R1 d_move rfl ?_
    refine R2 (d_indexP sl133 (i) (by omega) (gN (by omega))) rfl rfl ?_
    refine R1 (d_loadP ti186) rfl ?_
    refine R1 d_assign rfl ?_
    refine R1 d_assign rfl ?_
    refine R_nil (by kernel_rfl) ?_
    refine K_then ?_
    refine C_seq ?_
    refine C_reg ?_
    refine R1 d_move rfl ?_
    refine R1 (d_convert Tryz.underlying121 (isS Tryz.underlying186) (by first | exact wu64 (by omega) (by omega) | exact mu64)) rfl ?_
    refine R1 d_move rfl ?_
    have hw := shl_lt hx1 hs
    have ht := top_lt (by omega) hv
    obtain ⟨ho, hoW⟩ := shl_or ht hx1 hs
    refine R2 (d_shl (by omega) (shlN64 (s := s) rfl (by omega) (by omega))) rfl rfl ?_
    refine R1 d_assign rfl ?_
    refine R_nil (by kernel_rfl) ?_
    refine K_then ?_
    refine C_seq ?_
    refine C_reg ?_
    refine R1 d_move rfl ?_
    refine R1 d_move rfl ?_
    refine R2 (d_indexO sl133 (by omega) (by omega) rfl) rfl rfl ?_
    refine RE (d_load (i) ti186 (rW_get (by omega)) (by omega)) ⟨rfl, trivial⟩ ⟨rfl, trivial⟩ trivial ?_
    refine R1 d_move rfl ?_
    refine R1 (d_convert Tryz.underlying186 (isS Tryz.underlying121) cut32) rfl ?_
    refine R2 (d_or ho) rfl rfl ?_
    refine R2 (d_indexO sl133 (by omega) (by omega) rfl) rfl rfl ?_
    refine RE (d_store (i) ti186 (rW_lt (by omega)) (by omega) (rW_set (m := _) rfl)) ⟨rfl, rfl, trivial⟩ ⟨rfl, trivial⟩ trivial ?_
    refine R_nil (by kernel_rfl) ?_
    refine K_then ?_
    refine C_reg ?_
    refine R1 d_move rfl ?_
    refine R1 d_move rfl ?_
    refine R2 (d_add (by first | exact wr64 (by omega) (by omega))) rfl rfl ?_
    refine R1 d_move rfl ?_
    refine R2 (d_shr (by decide) shr32) rfl rfl ?_
    refine R1 (d_convert Tryz.underlying186 (isS Tryz.underlying121) (wu32 (by omega) (by omega))) rfl ?_
    refine R2 (d_indexO sl133 (by omega) (by omega) rfl) rfl rfl ?_
    refine RE (d_store (i + 1) ti186 (rW_lt (by rw [List.length_set]; omega)) (by omega) (rW_set (m := _) rfl)) ⟨rfl, rfl, trivial⟩ ⟨rfl, trivial⟩ trivial ?_
    refine R_nil (by kernel_rfl) ?_
    refine K_norB ?_
    refine K_then ?_
    refine C_reg ?_
    refine R2 (d_add (by first | exact wr64 (by omega) (by omega))) rfl rfl ?_
    refine R1 d_move rfl ?_
    refine R_nil (by kernel_rfl) ?_
    obtain ⟨n1, n2, n3, n4⟩ := shift_in (by omega) hl hD hs hx hz hv
    exact K_fam ((i + 1, (ws.set i (ws.getD i 0 + (dig 4294967296 a).getD i 0 * 2 ^ s % 4294967296)).set (i + 1) ((dig 4294967296 a).getD i 0 * 2 ^ s / 4294967296))) ⟨(by dsimp only; exact ⟨by omega, n1, n2, n3, n4⟩), (by dsimp only; omega)⟩ (Sub.int rfl (by first | omega | rfl | (dsimp only; omega)) (Sub.int rfl (by first | omega | rfl | (dsimp only; omega)) (Sub.cons rfl (Sub.cons rfl (Sub.int rfl (by first | omega | rfl | (dsimp only; omega)) Sub.nil))))) ((SubK.consI rfl ImpK.refl) SubK.nil) (SupG.val (SupG.val (SupG.val (SupG.own rfl (SupG.val SupG.nil))))) (SupH.cons rfl (supJ sup_rW) SupH.nil) (lkOk rfl)
  ·
    refine C_exit ?_
    refine K_exT ?_
    refine K_exT ?_
    refine K_exB ?_
    refine K_then ?_
    refine C_seq ?_
    refine C_reg ?_
    refine R1 d_move rfl ?_
    refine R1 d_assign rfl ?_
    refine R_nil (by kernel_rfl) ?_
    refine K_then ?_
    refine C_ret ?_
    have hA : i = (dig 4294967296 a).length := by omega
    subst hA
    have hw := shift_end hl hD (lt_len two_le_W a) hv
    subst hw
    exact E_retG1 LentC.mk' rfl rfl Imp.refl ⟨rfl, trivial⟩ rfl ⟨⟨rfl, sup_rW⟩, trivial⟩ rfl
end An.S

/- One digit of a long division, estimated from the first digits; what is left is computed by subtracting. -/
namespace An
theorem quo_le {P U V m w q : Nat} (hV : w * P ≤ V) (hU : U < (m + 1) * P) (hq : q * V ≤ U) : q * w ≤ m := by
  have h1 : q * w * P ≤ U := by
    rw [Nat.mul_assoc]
    exact Nat.le_trans (Nat.mul_le_mul_left _ hV) hq
  have h2 : q * w < m + 1 := Nat.lt_of_mul_lt_mul_right (Nat.lt_of_le_of_lt h1 hU)
  omega
theorem quo_ge {P U V m w d : Nat} (hV0 : 0 < V) (hV : V ≤ (w + 1) * P) (hU : m * P ≤ U) (hd : d * w ≤ m) (hdP : d * P ≤ V) : d ≤ U / V + 1 := by
  rcases Nat.eq_zero_or_pos d with h0 | h0
  · rw [h0]; exact Nat.zero_le _
  have h1 : d * V ≤ U + V := by
    have h2 : d * V ≤ d * ((w + 1) * P) := Nat.mul_le_mul_left _ hV
    have h3 : d * ((w + 1) * P) = d * w * P + d * P := by rw [← Nat.mul_assoc, Nat.mul_add, Nat.add_mul, Nat.mul_one]
    have h4 : d * w * P ≤ m * P := Nat.mul_le_mul_right _ hd
    omega
  have h5 : (d - 1) * V ≤ U := by
    have : d * V = (d - 1) * V + V := by
      obtain ⟨e, rfl⟩ : ∃ e, d = e + 1 := ⟨d - 1, by omega⟩
      rw [Nat.add_sub_cancel, Nat.add_mul, Nat.one_mul]
    omega
  have h6 := (Nat.le_div_iff_mul_le hV0).2 h5
  exact Nat.sub_le_iff_le_add.1 h6
/-- A step of the subtraction of d * v. -/
theorem msub_step {B d u v c b w b' T Tu Tv X p : Nat} (hp : p = d * v + c) (hw : w + p % B + b = u + B * b') (h : T + d * Tv = Tu + (c + b) * X) :
    T + X * w + d * (Tv + X * v) = Tu + X * u + (p / B + b') * (X * B) := by
  have h1 := Nat.div_add_mod p B
  have h2 : X * w + X * (p % B) + X * b = X * u + X * (B * b') := by rw [← Nat.mul_add, ← Nat.mul_add, ← Nat.mul_add, hw]
  have h3 : X * p = X * (d * v) + X * c := by rw [hp, Nat.mul_add]
  have h4 : X * p = X * (B * (p / B)) + X * (p % B) := by rw [← Nat.mul_add, h1]
  have e1 : d * (Tv + X * v) = d * Tv + X * (d * v) := by rw [Nat.mul_add, Nat.mul_left_comm]
  have e2 : (p / B + b') * (X * B) = X * (B * (p / B)) + X * (B * b') := by
    rw [Nat.add_mul]; congr 1
    · rw [Nat.mul_comm, Nat.mul_assoc]
    · rw [Nat.mul_comm, Nat.mul_assoc]
  have e3 : (c + b) * X = X * c + X * b := by rw [Nat.mul_comm, Nat.mul_add]
  rw [e1, e2]; rw [e3] at h
  omega
end An

/- One digit of a long division: the laws. Plain numbers. -/
namespace An
open Go
theorem wquo64 {a b : Nat} (ha : a < 18446744073709551616) : IntKind.u64.wrap ((a : Int).tdiv (b : Int)) = ((a / b : Nat) : Int) := by
  rw [Int.tdiv_eq_ediv_of_nonneg (by omega)]
  have h : (a : Int) / (b : Int) = ((a / b : Nat) : Int) := (Int.natCast_ediv a b).symm
  rw [h]
  have := Nat.div_le_self a b
  generalize a / b = q at *
  exact wu64 (by omega) (by omega)
theorem wrem64 {a b : Nat} : (a : Int).tmod (b : Int) = ((a % b : Nat) : Int) := by
  rw [Int.tmod_eq_emod_of_nonneg (by omega)]
  exact (Int.natCast_emod a b).symm
theorem shr63 {m : Nat} : ((m : Nat) : Int).fdiv (2 ^ (min (63 : Int).toNat IntKind.u64.bits)) = ((m / 9223372036854775808 : Nat) : Int) := by
  have e : (2 : Int) ^ (min (63 : Int).toNat IntKind.u64.bits) = ((9223372036854775808 : Nat) : Int) := by decide
  rw [e, Int.fdiv_eq_ediv_of_nonneg _ (by omega)]; rfl
theorem val_top1 {l : List Nat} {k : Nat} (h : l.length = k + 1) : val W l = val W (l.take k) + W ^ k * l.getD k 0 := by
  rw [← val_take_succ _ _ _ (by omega), ← h, List.take_length]
theorem val_take_lt {l : List Nat} (hD : Dig W l) {k : Nat} (hk : k ≤ l.length) : val W (l.take k) < W ^ k := by
  have := val_lt (hD.take k)
  rwa [List.length_take, Nat.min_eq_left hk] at this
/-- What is known of the two numbers. -/
structure Two (m : Nat) (u v : List Nat) : Prop where
  lu : u.length = m + 3
  lv : v.length = m + 2
  Du : Dig W u
  Dv : Dig W v
  top : 2147483648 ≤ v.getD (m + 1) 0
  lt : val W u < val W v * W
namespace Two
variable {m : Nat} {u v : List Nat} (t : Two m u v)
include t
theorem hV1 : v.getD (m + 1) 0 * (W * W ^ m) ≤ val W v ∧ val W v < (v.getD (m + 1) 0 + 1) * (W * W ^ m) := by
  have h1 := val_top1 t.lv
  have h2 := val_take_lt t.Dv (k := m + 1) (by rw [t.lv]; omega)
  rw [h1, Nat.add_mul, Nat.one_mul, show W * W ^ m = W ^ (m + 1) by rw [Nat.pow_succ, Nat.mul_comm], Nat.mul_comm (v.getD (m + 1) 0)]
  omega
theorem pos : 0 < val W v := by
  have h1 := t.hV1.1
  have h2 : 0 < W * W ^ m := Nat.mul_pos (by decide) (Nat.pow_pos (by decide))
  have h3 := Nat.mul_le_mul_right (W * W ^ m) (show 1 ≤ v.getD (m + 1) 0 by have := t.top; omega)
  omega
theorem hV2 : (v.getD (m + 1) 0 * W + v.getD m 0) * W ^ m ≤ val W v ∧ val W v ≤ (v.getD (m + 1) 0 * W + v.getD m 0 + 1) * W ^ m := by
  have h1 := val_top1 t.lv
  have h2 := val_take_succ W v m (by rw [t.lv]; omega)
  have h3 := val_take_lt t.Dv (k := m) (by rw [t.lv]; omega)
  have e : v.getD (m + 1) 0 * W * W ^ m = W ^ (m + 1) * v.getD (m + 1) 0 := by rw [Nat.pow_succ]; ac_rfl
  rw [Nat.add_mul, Nat.add_mul, Nat.add_mul, Nat.one_mul, e, h1, h2, Nat.mul_comm (v.getD m 0)]
  omega
theorem hU : (u.getD (m + 1) 0 + u.getD (m + 2) 0 * 4294967296) * (W * W ^ m) ≤ val W u ∧ val W u < (u.getD (m + 1) 0 + u.getD (m + 2) 0 * 4294967296 + 1) * (W * W ^ m) ∧
    ((u.getD (m + 1) 0 + u.getD (m + 2) 0 * 4294967296) * W + u.getD m 0) * W ^ m ≤ val W u ∧ val W u < ((u.getD (m + 1) 0 + u.getD (m + 2) 0 * 4294967296) * W + u.getD m 0 + 1) * W ^ m := by
  have h1 := val_top1 t.lu
  have h2 := val_take_succ W u (m + 1) (by rw [t.lu]; omega)
  have h3 := val_take_lt t.Du (k := m + 1) (by rw [t.lu]; omega)
  have h4 := val_take_succ W u m (by rw [t.lu]; omega)
  have h5 := val_take_lt t.Du (k := m) (by rw [t.lu]; omega)
  have e0 : W * W ^ m = W ^ (m + 1) := by rw [Nat.pow_succ, Nat.mul_comm]
  have e1 : u.getD (m + 2) 0 * 4294967296 * (W * W ^ m) = W ^ (m + 2) * u.getD (m + 2) 0 := by
    rw [Nat.pow_succ, Nat.pow_succ]; show u.getD (m + 2) 0 * W * (W * W ^ m) = _; ac_rfl
  have e2 : (u.getD (m + 1) 0 + u.getD (m + 2) 0 * 4294967296) * (W * W ^ m) = W ^ (m + 1) * u.getD (m + 1) 0 + W ^ (m + 2) * u.getD (m + 2) 0 := by
    rw [Nat.add_mul, e1, e0, Nat.mul_comm (W ^ (m + 1))]
  have e3 : (u.getD (m + 1) 0 + u.getD (m + 2) 0 * 4294967296) * W * W ^ m = (u.getD (m + 1) 0 + u.getD (m + 2) 0 * 4294967296) * (W * W ^ m) := Nat.mul_assoc _ _ _
  refine ⟨?_, ?_, ?_, ?_⟩
  · rw [e2, h1, h2]; omega
  · rw [Nat.add_mul, Nat.one_mul, e2, h1, h2, e0]; omega
  · rw [Nat.add_mul, e3, e2, h1, h2, h4, Nat.mul_comm (u.getD m 0)]; omega
  · rw [Nat.add_mul, Nat.one_mul, Nat.add_mul, e3, e2, h1, h2, h4, Nat.mul_comm (u.getD m 0)]; omega
theorem q_lt : val W u / val W v < W := Nat.div_lt_of_lt_mul t.lt
/-- The first estimate. -/
theorem est0 : val W u / val W v ≤ (u.getD (m + 1) 0 + u.getD (m + 2) 0 * 4294967296) / v.getD (m + 1) 0 := by
  have h := quo_le t.hV1.1 t.hU.2.1 (Nat.div_mul_le_self (val W u) (val W v))
  exact (Nat.le_div_iff_mul_le (by have := t.top; omega)).2 h
theorem est1 : (u.getD (m + 1) 0 + u.getD (m + 2) 0 * 4294967296) / v.getD (m + 1) 0 ≤ 4294967297 := by
  have h1 := t.hV1.2
  have h2 := t.hU.1
  have h3 := t.lt
  have hp : 0 < W * W ^ m := Nat.mul_pos (by decide) (Nat.pow_pos (by decide))
  have h4 : (u.getD (m + 1) 0 + u.getD (m + 2) 0 * 4294967296) * (W * W ^ m) < (v.getD (m + 1) 0 + 1) * W * (W * W ^ m) := by
    refine Nat.lt_of_le_of_lt h2 (Nat.lt_of_lt_of_le h3 ?_)
    rw [Nat.mul_assoc, Nat.mul_comm W, ← Nat.mul_assoc]
    exact Nat.mul_le_mul_right _ (Nat.le_of_lt h1)
  have h5 := Nat.lt_of_mul_lt_mul_right h4
  have h6 : (u.getD (m + 1) 0 + u.getD (m + 2) 0 * 4294967296) / v.getD (m + 1) 0 < 4294967298 := by
    refine Nat.div_lt_of_lt_mul ?_
    have := t.top
    have h7 : (v.getD (m + 1) 0 + 1) * W = v.getD (m + 1) 0 * 4294967296 + 4294967296 := by rw [Nat.add_mul, Nat.one_mul]
    rw [h7] at h5
    generalize v.getD (m + 1) 0 = x at *
    generalize u.getD (m + 1) 0 + u.getD (m + 2) 0 * 4294967296 = y at *
    have h8 : x * 4294967298 = x * 4294967296 + 2 * x := by rw [Nat.mul_comm 2, ← Nat.mul_add]
    rw [h8]
    clear h1 h2 h3 h4 h7 h8
    omega
  exact Nat.le_of_lt_succ h6
/-- An estimate that is too great is made less by 1. -/
theorem dec {d r : Nat} (hq : val W u / val W v ≤ d) (hd : d * v.getD (m + 1) 0 + r = u.getD (m + 1) 0 + u.getD (m + 2) 0 * 4294967296) (hg : 4294967296 ≤ d ∨ u.getD m 0 + r * 2 ^ 32 < d * v.getD m 0) :
    val W u / val W v ≤ d - 1 ∧ (d - 1) * v.getD (m + 1) 0 + (r + v.getD (m + 1) 0) = u.getD (m + 1) 0 + u.getD (m + 2) 0 * 4294967296 ∧ 1 ≤ d := by
  have h0 := t.q_lt
  have h1 : 1 ≤ d := by
    rcases hg with hg | hg
    · omega
    · rcases Nat.eq_zero_or_pos d with h | h
      · rw [h, Nat.zero_mul] at hg; omega
      · exact h
  refine ⟨?_, ?_, h1⟩
  · rcases hg with hg | hg
    · have : val W u / val W v < 4294967296 := h0
      omega
    · rcases Nat.lt_or_eq_of_le hq with h1 | h1
      · omega
      · exfalso
        have h2 := quo_le t.hV2.1 t.hU.2.2.2 (Nat.div_mul_le_self (val W u) (val W v))
        rw [h1, ← hd, Nat.mul_add, ← Nat.mul_assoc, Nat.add_mul] at h2
        have e : r * W = r * 2 ^ 32 := rfl
        omega
  · obtain ⟨e, rfl⟩ : ∃ e, d = e + 1 := ⟨d - 1, by omega⟩
    rw [Nat.add_mul, Nat.one_mul] at hd
    rw [Nat.add_sub_cancel]; omega
/-- The estimate is good. -/
theorem good {d r : Nat} (hd : d * v.getD (m + 1) 0 + r = u.getD (m + 1) 0 + u.getD (m + 2) 0 * 4294967296) (hdW : d ≤ 4294967296) (hg : d * v.getD m 0 ≤ u.getD m 0 + r * 2 ^ 32) : d ≤ val W u / val W v + 1 := by
  refine quo_ge (P := W ^ m) t.pos t.hV2.2 t.hU.2.2.1 ?_ ?_
  · rw [← hd, Nat.mul_add, ← Nat.mul_assoc, Nat.add_mul]
    have e : r * W = r * 2 ^ 32 := rfl
    omega
  · refine Nat.le_trans ?_ t.hV1.1
    have h1 : d * W ^ m ≤ W * W ^ m := Nat.mul_le_mul_right _ hdW
    have h2 := Nat.mul_le_mul_right (W * W ^ m) (show 1 ≤ v.getD (m + 1) 0 by have := t.top; omega)
    omega
theorem good2 {d r : Nat} (hd : d * v.getD (m + 1) 0 + r = u.getD (m + 1) 0 + u.getD (m + 2) 0 * 4294967296) (hdW : d ≤ 4294967296) (hr : 4294967296 ≤ r) : d ≤ val W u / val W v + 1 := by
  refine t.good hd hdW ?_
  have h1 : v.getD m 0 < W := t.Dv.getD (by decide) m
  have h2 : d * v.getD m 0 ≤ 4294967296 * v.getD m 0 := Nat.mul_le_mul_right _ hdW
  have h3 : 4294967296 * v.getD m 0 ≤ 4294967296 * 4294967295 := Nat.mul_le_mul_left _ (by have : v.getD m 0 < 4294967296 := h1; omega)
  omega
end Two
/-! The subtraction. -/
def dif64 (x y b : Nat) : Nat := (x + 18446744073709551616 - y - b) % 18446744073709551616
theorem dif64_eq {x y b : Nat} (hy : y < 4294967296) (hb : b ≤ 1) : IntKind.u64.wrap (IntKind.u64.wrap ((x : Int) - (y : Int)) - (b : Int)) = ((dif64 x y b : Nat) : Int) := by
  rw [mu64, mu64, dif64]; omega
theorem dif64_lt (x y b : Nat) : dif64 x y b < 18446744073709551616 := Nat.mod_lt _ (by decide)
theorem dif64_top {x y b : Nat} (hx : x < 4294967296) (hy : y < 4294967296) (hb : b ≤ 1) : dif64 x y b / 9223372036854775808 = if x < y + b then 1 else 0 := by
  rw [dif64]; split <;> omega
theorem dif64_low {x y b : Nat} (hx : x < 4294967296) (hy : y < 4294967296) (hb : b ≤ 1) : dif64 x y b % 4294967296 + y + b = x + W * (dif64 x y b / 9223372036854775808) := by
  rw [dif64_top hx hy hb, dif64]; show _ = x + 4294967296 * _; split <;> omega
theorem dif64_le {x y b : Nat} (hx : x < 4294967296) (hy : y < 4294967296) (hb : b ≤ 1) : dif64 x y b / 9223372036854775808 ≤ 1 := by
  rw [dif64_top hx hy hb]; split <;> omega
theorem prod_lt {d v c : Nat} (hd : d ≤ 4294967296) (hv : v < 4294967296) (hc : c < 4294967296) : d * v ≤ 18446744069414584320 ∧ d * v + c < 18446744073709551616 := by
  have h1 : d * v ≤ 4294967296 * 4294967295 := Nat.mul_le_mul hd (by omega)
  omega
theorem msub_in {n d c b i : Nat} {u v ws : List Nat} (hi : i < n) (lu : u.length = n + 1) (lv : v.length = n) (Dv : Dig W v) (hl : ws.length = n + 1) (hD : Dig W ws) (hdr : ws.drop i = u.drop i) (hd : d ≤ 4294967296) (hc : c < 4294967296) (hb : b ≤ 1)
    (hv : val W (ws.take i) + d * val W (v.take i) = val W (u.take i) + (c + b) * W ^ i) :
    let p := d * v.getD i 0 + c
    let e := dif64 (ws.getD i 0) (p % 4294967296) b
    (ws.set i (e % 4294967296)).length = n + 1 ∧ Dig W (ws.set i (e % 4294967296)) ∧ (ws.set i (e % 4294967296)).drop (i + 1) = u.drop (i + 1) ∧ p / 4294967296 < 4294967296 ∧ e / 9223372036854775808 ≤ 1 ∧
      val W ((ws.set i (e % 4294967296)).take (i + 1)) + d * val W (v.take (i + 1)) = val W (u.take (i + 1)) + (p / 4294967296 + e / 9223372036854775808) * W ^ (i + 1) := by
  intro p e
  have hvi : v.getD i 0 < 4294967296 := Dv.getD (by decide) i
  have hwi : ws.getD i 0 < 4294967296 := hD.getD (by decide) i
  have hp := prod_lt hd hvi hc
  have hpm : p % 4294967296 < 4294967296 := Nat.mod_lt _ (by decide)
  refine ⟨by simpa using hl, hD.set (Nat.mod_lt _ (by decide)), by rw [drop_set_succ]; exact drop_of_drop hdr (by omega), Nat.div_lt_of_lt_mul hp.2, dif64_le hwi hpm hb, ?_⟩
  rw [val_take_set (by omega), val_take_succ _ v _ (by omega), val_take_succ _ u _ (by omega), Nat.pow_succ]
  refine msub_step (p := p) rfl ?_ hv
  rw [← getD_of_drop hdr (Nat.le_refl _)]
  exact dif64_low hwi hpm hb
/-- Behind the subtraction. -/
theorem msub_end {n d c b : Nat} {u v ws : List Nat} (lu : u.length = n + 1) (lv : v.length = n) (hl : ws.length = n + 1) (hD : Dig W ws) (hdr : ws.drop n = u.drop n) (hc : c < 4294967296) (hb : b ≤ 1)
    (hv : val W (ws.take n) + d * val W (v.take n) = val W (u.take n) + (c + b) * W ^ n) :
    let e := dif64 (ws.getD n 0) c b
    (ws.set n (e % 4294967296)).length = n + 1 ∧ Dig W (ws.set n (e % 4294967296)) ∧ val W (ws.set n (e % 4294967296)) + d * val W v = val W u + e / 9223372036854775808 * W ^ (n + 1) ∧ e / 9223372036854775808 ≤ 1 := by
  intro e
  have hwi : ws.getD n 0 < 4294967296 := hD.getD (by decide) n
  have h1 := dif64_low hwi hc hb
  have hlen : (ws.set n (e % 4294967296)).length = n + 1 := by simpa using hl
  refine ⟨hlen, hD.set (Nat.mod_lt _ (by decide)), ?_, dif64_le hwi hc hb⟩
  have h2 := val_take_set (B := W) (l := ws) (i := n) (d := e % 4294967296) (by omega)
  rw [← hlen, List.take_length] at h2
  have h3 := val_top1 lu
  rw [← getD_of_drop hdr (Nat.le_refl _)] at h3
  have h4 : v.take n = v := by rw [← lv]; exact List.take_length
  rw [h4] at hv
  rw [h2, h3]
  have h5 : W ^ n * (e % 4294967296) + W ^ n * c + W ^ n * b = W ^ n * ws.getD n 0 + W ^ n * (W * (e / 9223372036854775808)) := by
    rw [← Nat.mul_add, ← Nat.mul_add, ← Nat.mul_add, h1]
  have h6 : e / 9223372036854775808 * W ^ (n + 1) = W ^ n * (W * (e / 9223372036854775808)) := by rw [Nat.pow_succ, Nat.mul_comm, Nat.mul_assoc]
  rw [h6]
  rw [Nat.mul_comm (c + b), Nat.mul_add] at hv
  omega
/-- Nothing was borrowed: the estimate is the quotient. -/
theorem step_same {m d : Nat} {u v zs : List Nat} (t : Two m u v) (hl : zs.length = m + 3) (hD : Dig W zs) (hq : val W u / val W v ≤ d) (h : val W zs + d * val W v = val W u + 0 * W ^ (m + 3)) : d = val W u / val W v ∧ zs = dgs W (m + 3) (val W u % val W v) := by
  have h0 : d ≤ val W u / val W v := (Nat.le_div_iff_mul_le t.pos).2 (by omega)
  have h1 : d = val W u / val W v := by omega
  refine ⟨h1, ?_⟩
  have h2 : val W zs = val W u % val W v := by
    have := Nat.div_add_mod (val W u) (val W v)
    rw [← h1, Nat.mul_comm] at this
    omega
  rw [← h2, ← hl, dgs_val (by decide) hD]
theorem step_more {m d : Nat} {u v zs : List Nat} (t : Two m u v) (hD : Dig W zs) (hl : zs.length = m + 3) (hq : d ≤ val W u / val W v + 1) (hq0 : val W u / val W v ≤ d) (h : val W zs + d * val W v = val W u + 1 * W ^ (m + 3)) :
    d = val W u / val W v + 1 ∧ val W zs + val W v = W ^ (m + 3) + val W u % val W v := by
  have hz := val_lt hD
  rw [hl] at hz
  have h0 : val W u < d * val W v := by omega
  have h1 : val W u / val W v < d := (Nat.div_lt_iff_lt_mul t.pos).2 h0
  have h2 : d = val W u / val W v + 1 := by omega
  refine ⟨h2, ?_⟩
  have := Nat.div_add_mod (val W u) (val W v)
  rw [h2, Nat.add_mul, Nat.one_mul, Nat.mul_comm] at h
  omega
/-! The addition. -/
theorem addb_in {n i b : Nat} {zs ws v : List Nat} (hi : i < n) (lw : ws.length = n + 1) (lv : v.length = n) (hl : zs.length = n + 1) (hD : Dig W zs) (hdr : zs.drop i = ws.drop i) (Dv : Dig W v) (hb : b ≤ 1)
    (hv : val W (zs.take i) + b * W ^ i = val W (ws.take i) + val W (v.take i)) :
    let s := zs.getD i 0 + v.getD i 0 + b
    (zs.set i (s % 4294967296)).length = n + 1 ∧ Dig W (zs.set i (s % 4294967296)) ∧ (zs.set i (s % 4294967296)).drop (i + 1) = ws.drop (i + 1) ∧ s / 4294967296 ≤ 1 ∧
      val W ((zs.set i (s % 4294967296)).take (i + 1)) + s / 4294967296 * W ^ (i + 1) = val W (ws.take (i + 1)) + val W (v.take (i + 1)) := by
  intro s
  have hvi : v.getD i 0 < 4294967296 := Dv.getD (by decide) i
  have hwi : zs.getD i 0 < 4294967296 := hD.getD (by decide) i
  have h1 := Nat.div_add_mod s 4294967296
  refine ⟨by simpa using hl, hD.set (Nat.mod_lt _ (by decide)), by rw [drop_set_succ]; exact drop_of_drop hdr (by omega), by omega, ?_⟩
  rw [val_take_set (by omega), val_take_succ _ v _ (by omega), val_take_succ _ ws _ (by omega), ← getD_of_drop hdr (Nat.le_refl _)]
  have h2 : W ^ i * (s % 4294967296) + W ^ i * (W * (s / 4294967296)) = W ^ i * zs.getD i 0 + W ^ i * v.getD i 0 + W ^ i * b := by
    rw [← Nat.mul_add, ← Nat.mul_add, ← Nat.mul_add]; congr 1; show _ + 4294967296 * _ = _; omega
  have h3 : s / 4294967296 * W ^ (i + 1) = W ^ i * (W * (s / 4294967296)) := by rw [Nat.pow_succ, Nat.mul_comm, Nat.mul_assoc]
  rw [h3]
  rw [Nat.mul_comm b] at hv
  omega
theorem addb_end {m b r : Nat} {zs ws v : List Nat} (lw : ws.length = m + 3) (lv : v.length = m + 2) (hl : zs.length = m + 3) (hD : Dig W zs) (hdr : zs.drop (m + 2) = ws.drop (m + 2)) (hb : b ≤ 1)
    (hv : val W (zs.take (m + 2)) + b * W ^ (m + 2) = val W (ws.take (m + 2)) + val W (v.take (m + 2))) (h : val W ws + val W v = W ^ (m + 3) + r) :
    zs.set (m + 2) ((zs.getD (m + 2) 0 + b) % 4294967296) = dgs W (m + 3) r := by
  have hlen : (zs.set (m + 2) ((zs.getD (m + 2) 0 + b) % 4294967296)).length = m + 3 := by simpa using hl
  have hDz : Dig W (zs.set (m + 2) ((zs.getD (m + 2) 0 + b) % 4294967296)) := hD.set (Nat.mod_lt _ (by decide))
  have h2 := val_take_set (B := W) (l := zs) (i := m + 2) (d := (zs.getD (m + 2) 0 + b) % 4294967296) (by omega)
  rw [← hlen, List.take_length] at h2
  have h4 : v.take (m + 2) = v := by rw [← lv]; exact List.take_length
  rw [h4] at hv
  have h3 := val_top1 lw
  rw [← getD_of_drop hdr (Nat.le_refl _)] at h3
  have h5 := Nat.div_add_mod (zs.getD (m + 2) 0 + b) 4294967296
  have h6 : W ^ (m + 2) * ((zs.getD (m + 2) 0 + b) % 4294967296) + W ^ (m + 2) * (4294967296 * ((zs.getD (m + 2) 0 + b) / 4294967296)) = W ^ (m + 2) * zs.getD (m + 2) 0 + W ^ (m + 2) * b := by
    rw [← Nat.mul_add, ← Nat.mul_add]; congr 1; omega
  have hwi : zs.getD (m + 2) 0 < 4294967296 := hD.getD (by decide) _
  have h7 : val W (zs.set (m + 2) ((zs.getD (m + 2) 0 + b) % 4294967296)) < W ^ (m + 3) := by
    have := val_lt hDz; rwa [hlen] at this
  have h8 : W ^ (m + 3) = W ^ (m + 2) * 4294967296 := Nat.pow_succ ..
  have hval : val W (zs.set (m + 2) ((zs.getD (m + 2) 0 + b) % 4294967296)) = r := by
    rw [Nat.mul_comm b] at hv
    rcases Nat.lt_or_ge (zs.getD (m + 2) 0 + b) 4294967296 with h9 | h9
    · rw [Nat.div_eq_of_lt h9, Nat.mul_zero] at h6
      omega
    · have h10 : (zs.getD (m + 2) 0 + b) / 4294967296 = 1 := by omega
      rw [h10, Nat.mul_one, ← h8] at h6
      omega
  rw [← hval, ← hlen, dgs_val (by decide) hDz]
end An

/- Package whole: long division. -/
namespace An.S
open Go Go.Proofs An
theorem fi249 : FnI Tryz.prog 249 := ⟨_, Tryz.func249, by kernel_rfl, rfl⟩
theorem c_divideStep (p u q v : List Nat) (m : Nat) (t : Two m u v) (hm : m ≤ 100000) :
    CtG Tryz.prog 235 [(9, ⟨186, 1, false, rW .u32 (p ++ (u ++ q))⟩)] [.own (.sl 9 1 p.length (m + 3)), .val (tWs v)] (.val (tE (.int .u32 ((val 4294967296 u / val 4294967296 v : Nat) : Int)))) [(9, ⟨186, 1, false, rW .u32 (p ++ (dgs 4294967296 (m + 3) (val 4294967296 u % val 4294967296 v) ++ q))⟩)] [] := by
  refine CtG.intro [9] Tryz.func235 rfl Tryz.ntmps235 rfl rfl ⟨⟨rfl, sup_rW⟩, trivial⟩ ?_
  intro w F η
  have lu := t.lu
  have lv := t.lv
  have htop := t.top
  have hv1 : v.getD (m + 1) 0 < 4294967296 := t.Dv.getD (by decide) (m + 1)
  have hv0 : v.getD m 0 < 4294967296 := t.Dv.getD (by decide) m
  have hu2 : u.getD (m + 2) 0 < 4294967296 := t.Du.getD (by decide) (m + 2)
  have hu1 : u.getD (m + 1) 0 < 4294967296 := t.Du.getD (by decide) (m + 1)
  have hu0 : u.getD m 0 < 4294967296 := t.Du.getD (by decide) m
  have hqW : val 4294967296 u / val 4294967296 v < 4294967296 := t.q_lt
  refine C_seq ?_
  refine C_reg ?_
  refine R1 d_assign rfl ?_
  refine R_nil (by kernel_rfl) ?_
  refine K_then ?_
  refine C_seq ?_
  refine C_reg ?_
  refine R1 d_move rfl ?_
  refine R1 (d_len Tryz.underlying133) rfl ?_
  refine R1 d_assign rfl ?_
  refine R_nil (by kernel_rfl) ?_
  refine K_then ?_
  refine C_seq ?_
  refine C_draw mixed ?_
  refine R1 d_move rfl ?_
  refine R1 d_move rfl ?_
  refine R2 (d_indexO sl133 (by omega) (by omega) rfl) rfl rfl ?_
  refine RE (d_load (p.length + (m + 2)) ti186 (rM_get (by omega)) (by omega)) ⟨rfl, trivial⟩ ⟨rfl, trivial⟩ trivial ?_
  refine R1 (d_convert Tryz.underlying121 (isS Tryz.underlying186) (by first | exact wu64 (by omega) (by omega) | exact mu64)) rfl ?_
  refine R2 (d_shl (by decide) (shl32 (by omega))) rfl rfl ?_
  refine R1 d_move rfl ?_
  refine R1 d_move rfl ?_
  refine R2 (d_sub (by first | exact wr64 (by omega) (by omega))) rfl rfl ?_
  refine R2 (d_indexO sl133 (by omega) (by omega) rfl) rfl rfl ?_
  refine RE (d_load (p.length + (m + 1)) ti186 (rM_get (by omega)) (by omega)) ⟨rfl, trivial⟩ ⟨rfl, trivial⟩ trivial ?_
  refine R1 (d_convert Tryz.underlying121 (isS Tryz.underlying186) (by first | exact wu64 (by omega) (by omega) | exact mu64)) rfl ?_
  refine R2 (d_or (r := (((u.getD (m + 1) 0 + u.getD (m + 2) 0 * 4294967296) : Nat) : Int)) (or32 (by omega) (by omega))) rfl rfl ?_
  refine R1 d_assign rfl ?_
  refine R_end (by kernel_rfl) ?_
  refine K_then ?_
  refine C_seq ?_
  refine C_reg ?_
  refine R1 d_move rfl ?_
  refine R1 d_move rfl ?_
  refine R2 (d_sub (by first | exact wr64 (by omega) (by omega))) rfl rfl ?_
  refine R2 (d_indexP sl133 (m + 1) (by omega) (gN (by omega))) rfl rfl ?_
  refine R1 (d_loadP ti186) rfl ?_
  refine R1 (d_convert Tryz.underlying121 (isS Tryz.underlying186) (by first | exact wu64 (by omega) (by omega) | exact mu64)) rfl ?_
  refine R1 d_assign rfl ?_
  refine R_nil (by kernel_rfl) ?_
  refine K_then ?_
  refine C_seq ?_
  refine C_draw mixed ?_
  refine R1 d_move rfl ?_
  refine R1 d_move rfl ?_
  refine R2 (d_quo (r := (((u.getD (m + 1) 0 + u.getD (m + 2) 0 * 4294967296) / v.getD (m + 1) 0 : Nat) : Int)) (by omega) (wquo64 (by omega))) rfl rfl ?_
  refine R1 d_move rfl ?_
  refine R1 d_move rfl ?_
  refine R2 (d_rem (by omega) wrem64) rfl rfl ?_
  refine R1 d_assign rfl ?_
  refine R1 d_assign rfl ?_
  refine R_end (by kernel_rfl) ?_
  refine K_then ?_
  refine C_join (fun (d : Nat) => val 4294967296 u / val 4294967296 v ≤ d ∧ d ≤ val 4294967296 u / val 4294967296 v + 1) (fun (d : Nat) => upd (upd (upd (upd (fun _ => none) 0 (some (.own (.sl 9 1 p.length (m + 3))))) 1 (some (.val (tWs v)))) 5 (some (.val (tI v.length)))) 8 (some (.val (tE (.int .u64 ((d : Nat) : Int)))))) (fun (d : Nat) => upd (fun _ => none) 9 (some (⟨186, 1, false, rW .u32 (p ++ (u ++ q))⟩))) (nm [9]) ?_ ?_
  ·
    refine C_block ?_
    refine C_loop (fun (fm : (Nat) × (Nat)) => (fun (d : Nat) (r : Nat) => val 4294967296 u / val 4294967296 v ≤ d ∧ d * v.getD (m + 1) 0 + r = (u.getD (m + 1) 0 + u.getD (m + 2) 0 * 4294967296) ∧ r < 4294967296 ∧ d ≤ 4294967297) fm.1 fm.2) (fun (fm : (Nat) × (Nat)) => (fun (d : Nat) (r : Nat) => upd (upd (upd (upd (upd (upd (fun _ => none) 0 (some (.own (.sl 9 1 p.length (m + 3))))) 1 (some (.val (tWs v)))) 5 (some (.val (tI v.length)))) 7 (some (.val (tE (.int .u64 ((v.getD (m + 1) 0 : Nat) : Int)))))) 8 (some (.val (tE (.int .u64 ((d : Nat) : Int)))))) 9 (some (.val (tE (.int .u64 ((r : Nat) : Int)))))) fm.1 fm.2) (fun (fm : (Nat) × (Nat)) => (fun (d : Nat) (r : Nat) => upd (fun _ => none) 9 (some (⟨186, 1, false, rW .u32 (p ++ (u ++ q))⟩))) fm.1 fm.2) (nm [9]) (fun (fm : (Nat) × (Nat)) => (fun (d : Nat) (r : Nat) => d) fm.1 fm.2) (((u.getD (m + 1) 0 + u.getD (m + 2) 0 * 4294967296) / v.getD (m + 1) 0, (u.getD (m + 1) 0 + u.getD (m + 2) 0 * 4294967296) % v.getD (m + 1) 0)) (by dsimp only; exact ⟨t.est0, Nat.div_add_mod' _ _, Nat.lt_trans (Nat.mod_lt _ (by omega)) hv1, t.est1⟩) (Sub.int rfl (by first | omega | rfl | (dsimp only; omega)) (Sub.int rfl (by first | omega | rfl | (dsimp only; omega)) (Sub.int rfl (by first | omega | rfl | (dsimp only; omega)) (Sub.int rfl (by first | omega | rfl | (dsimp only; omega)) (Sub.cons rfl (Sub.cons rfl Sub.nil)))))) ((SubK.consI rfl ImpK.refl) SubK.nil) (SupG.val (SupG.val (SupG.val (SupG.val (SupG.val (SupG.own rfl SupG.nil)))))) (SupH.cons rfl (supJ sup_rW) SupH.nil) (lkOk rfl) ?_
    intro fm hI
    obtain ⟨d, r⟩ := fm
    replace hI : val 4294967296 u / val 4294967296 v ≤ d ∧ d * v.getD (m + 1) 0 + r = (u.getD (m + 1) 0 + u.getD (m + 2) 0 * 4294967296) ∧ r < 4294967296 ∧ d ≤ 4294967297 := hI
    show wc _ _ _ _ (upd (upd (upd (upd (upd (upd (fun _ => none) 0 (some (.own (.sl 9 1 p.length (m + 3))))) 1 (some (.val (tWs v)))) 5 (some (.val (tI v.length)))) 7 (some (.val (tE (.int .u64 ((v.getD (m + 1) 0 : Nat) : Int)))))) 8 (some (.val (tE (.int .u64 ((d : Nat) : Int)))))) 9 (some (.val (tE (.int .u64 ((r : Nat) : Int)))))) (upd (fun _ => none) 9 (some (⟨186, 1, false, rW .u32 (p ++ (u ++ q))⟩))) _
    obtain ⟨hq, hd, hr, hdW⟩ := hI
    refine C_seq ?_
    refine C_seq ?_
    refine C_draw mixed ?_
    refine R1 d_move rfl ?_
    refine R2 d_geq rfl rfl ?_
    refine R1 d_move rfl ?_
    refine RGcaseD (t := 49) rfl (fun h213 => ?_) (fun h213 => ?_)
    ·
      have hdec := t.dec hq hd (.inl (by omega))
      refine RGoff (decide_eq_true h213) rfl rfl ?_
      refine RGoff (decide_eq_true h213) rfl rfl ?_
      refine RGoff (decide_eq_true h213) rfl rfl ?_
      refine RGoff (decide_eq_true h213) rfl rfl ?_
      refine RGoff (decide_eq_true h213) rfl rfl ?_
      refine RGoff (decide_eq_true h213) rfl rfl ?_
      refine RGoff (decide_eq_true h213) rfl rfl ?_
      refine RGoff (decide_eq_true h213) rfl rfl ?_
      refine RGoff (decide_eq_true h213) rfl rfl ?_
      refine RGoff (decide_eq_true h213) rfl rfl ?_
      refine RGoff (decide_eq_true h213) rfl rfl ?_
      refine RGoff (decide_eq_true h213) rfl rfl ?_
      refine RGoff (decide_eq_true h213) rfl rfl ?_
      refine RGoff (decide_eq_true h213) rfl rfl ?_
      refine RGoff (decide_eq_true h213) rfl rfl ?_
      refine RGoff (decide_eq_true h213) rfl rfl ?_
      refine RGoff (decide_eq_true h213) rfl rfl ?_
      refine RGoff (decide_eq_true h213) rfl rfl ?_
      refine R2 (d_pickT (decide_eq_true h213)) rfl rfl ?_
      refine R_end (by kernel_rfl) ?_
      refine K_then ?_
      refine C_bT rfl rfl ?_
      refine C_skip ?_
      refine K_then ?_
      refine C_block ?_
      refine C_seq ?_
      refine C_reg ?_
      refine R1 d_move rfl ?_
      refine R2 (d_sub (r := ((d - 1 : Nat) : Int)) (by rw [wu64 (by omega) (by omega)]; omega)) rfl rfl ?_
      refine R1 d_assign rfl ?_
      refine R_nil (by kernel_rfl) ?_
      refine K_then ?_
      refine C_seq ?_
      refine C_reg ?_
      refine R1 d_move rfl ?_
      refine R1 d_move rfl ?_
      refine R2 (d_add (wadd64 (by omega))) rfl rfl ?_
      refine R1 d_assign rfl ?_
      refine R_nil (by kernel_rfl) ?_
      refine K_then ?_
      refine C_seq ?_
      refine C_reg ?_
      refine R1 d_move rfl ?_
      refine R2 d_geq rfl rfl ?_
      refine R_nil (by kernel_rfl) ?_
      refine K_then ?_
      refine C_if rfl (fun h216 => ?_) (fun h216 => ?_)
      ·
        refine C_exit ?_
        refine K_exO rfl ?_
        refine K_exT ?_
        refine K_exB ?_
        exact K_fam (d - 1) ⟨hdec.1, t.good2 hdec.2.1 (by omega) (by omega)⟩ (Sub.int rfl (by first | omega | rfl | (dsimp only; omega)) (Sub.int rfl (by first | omega | rfl | (dsimp only; omega)) (Sub.cons rfl (Sub.cons rfl Sub.nil)))) ((SubK.consI rfl ImpK.refl) SubK.nil) (SupG.val (SupG.val (SupG.val (SupG.own rfl SupG.nil)))) (SupH.cons rfl (supJ sup_rW) SupH.nil) (lkOk rfl)
      ·
        refine C_skip ?_
        refine K_norB ?_
        exact K_fam ((d - 1, r + v.getD (m + 1) 0)) ⟨(by dsimp only; exact ⟨hdec.1, hdec.2.1, by omega, by omega⟩), (by dsimp only; omega)⟩ (Sub.int rfl (by first | omega | rfl | (dsimp only; omega)) (Sub.int rfl (by first | omega | rfl | (dsimp only; omega)) (Sub.int rfl (by first | omega | rfl | (dsimp only; omega)) (Sub.int rfl (by first | omega | rfl | (dsimp only; omega)) (Sub.cons rfl (Sub.cons rfl Sub.nil)))))) ((SubK.consI rfl ImpK.refl) SubK.nil) (SupG.val (SupG.val (SupG.val (SupG.val (SupG.val (SupG.own rfl SupG.nil)))))) (SupH.cons rfl (supJ sup_rW) SupH.nil) (lkOk rfl)
    ·
      refine RGon (decide_eq_false h213) rfl d_move rfl ⟨rfl, trivial⟩ trivial trivial ?_
      refine RGon (decide_eq_false h213) rfl d_move rfl ⟨rfl, trivial⟩ trivial trivial ?_
      refine RGon (decide_eq_false h213) rfl d_move rfl ⟨rfl, trivial⟩ trivial trivial ?_
      refine RGon (decide_eq_false h213) rfl (d_sub (by first | exact wr64 (by omega) (by omega))) rfl ⟨rfl, rfl, trivial⟩ trivial trivial ?_
      refine RGon (decide_eq_false h213) rfl (d_indexP sl133 (m) (by omega) (gN (by omega))) rfl ⟨rfl, rfl, trivial⟩ trivial trivial ?_
      refine RGon (decide_eq_false h213) rfl (d_loadP ti186) rfl ⟨rfl, trivial⟩ trivial trivial ?_
      refine RGon (decide_eq_false h213) rfl (d_convert Tryz.underlying121 (isS Tryz.underlying186) (by first | exact wu64 (by omega) (by omega) | exact mu64)) rfl ⟨rfl, trivial⟩ trivial trivial ?_
      have hdv := mul_lt32 (x := d) (y := v.getD m 0) (by omega) (by omega)
      refine RGon (decide_eq_false h213) rfl (d_mul (wmul64 (by omega))) rfl ⟨rfl, rfl, trivial⟩ trivial trivial ?_
      refine RGon (decide_eq_false h213) rfl d_move rfl ⟨rfl, trivial⟩ trivial trivial ?_
      refine RGon (decide_eq_false h213) rfl (d_shl (by decide) (shl32 (by omega))) rfl ⟨rfl, rfl, trivial⟩ trivial trivial ?_
      refine RGon (decide_eq_false h213) rfl d_move rfl ⟨rfl, trivial⟩ trivial trivial ?_
      refine RGon (decide_eq_false h213) rfl d_move rfl ⟨rfl, trivial⟩ trivial trivial ?_
      refine RGon (decide_eq_false h213) rfl (d_sub (by first | exact wr64 (by omega) (by omega))) rfl ⟨rfl, rfl, trivial⟩ trivial trivial ?_
      refine RGon (decide_eq_false h213) rfl (d_indexO sl133 (by omega) (by omega) rfl) rfl ⟨rfl, rfl, trivial⟩ trivial trivial ?_
      refine RGon (decide_eq_false h213) rfl (d_load (p.length + (m)) ti186 (rM_get (by omega)) (by omega)) rfl ⟨rfl, trivial⟩ ⟨rfl, trivial⟩ trivial ?_
      refine RGon (decide_eq_false h213) rfl (d_convert Tryz.underlying121 (isS Tryz.underlying186) (by first | exact wu64 (by omega) (by omega) | exact mu64)) rfl ⟨rfl, trivial⟩ trivial trivial ?_
      refine RGon (decide_eq_false h213) rfl (d_or (or32 (by omega) (by omega))) rfl ⟨rfl, rfl, trivial⟩ trivial trivial ?_
      refine RGon (decide_eq_false h213) rfl d_gtr rfl ⟨rfl, rfl, trivial⟩ trivial trivial ?_
      refine R2 (d_pickF (decide_eq_false h213)) rfl rfl ?_
      refine R_end (by kernel_rfl) ?_
      refine K_then ?_
      refine C_if rfl (fun h213_2 => ?_) (fun h213_2 => ?_)
      ·
        have hdec := t.dec hq hd (.inr (by omega))
        refine C_skip ?_
        refine K_then ?_
        refine C_block ?_
        refine C_seq ?_
        refine C_reg ?_
        refine R1 d_move rfl ?_
        refine R2 (d_sub (r := ((d - 1 : Nat) : Int)) (by rw [wu64 (by omega) (by omega)]; omega)) rfl rfl ?_
        refine R1 d_assign rfl ?_
        refine R_nil (by kernel_rfl) ?_
        refine K_then ?_
        refine C_seq ?_
        refine C_reg ?_
        refine R1 d_move rfl ?_
        refine R1 d_move rfl ?_
        refine R2 (d_add (wadd64 (by omega))) rfl rfl ?_
        refine R1 d_assign rfl ?_
        refine R_nil (by kernel_rfl) ?_
        refine K_then ?_
        refine C_seq ?_
        refine C_reg ?_
        refine R1 d_move rfl ?_
        refine R2 d_geq rfl rfl ?_
        refine R_nil (by kernel_rfl) ?_
        refine K_then ?_
        refine C_if rfl (fun h216 => ?_) (fun h216 => ?_)
        ·
          refine C_exit ?_
          refine K_exO rfl ?_
          refine K_exT ?_
          refine K_exB ?_
          exact K_fam (d - 1) ⟨hdec.1, t.good2 hdec.2.1 (by omega) (by omega)⟩ (Sub.int rfl (by first | omega | rfl | (dsimp only; omega)) (Sub.int rfl (by first | omega | rfl | (dsimp only; omega)) (Sub.cons rfl (Sub.cons rfl Sub.nil)))) ((SubK.consI rfl ImpK.refl) SubK.nil) (SupG.val (SupG.val (SupG.val (SupG.own rfl SupG.nil)))) (SupH.cons rfl (supJ sup_rW) SupH.nil) (lkOk rfl)
        ·
          refine C_skip ?_
          refine K_norB ?_
          exact K_fam ((d - 1, r + v.getD (m + 1) 0)) ⟨(by dsimp only; exact ⟨hdec.1, hdec.2.1, by omega, by omega⟩), (by dsimp only; omega)⟩ (Sub.int rfl (by first | omega | rfl | (dsimp only; omega)) (Sub.int rfl (by first | omega | rfl | (dsimp only; omega)) (Sub.int rfl (by first | omega | rfl | (dsimp only; omega)) (Sub.int rfl (by first | omega | rfl | (dsimp only; omega)) (Sub.cons rfl (Sub.cons rfl Sub.nil)))))) ((SubK.consI rfl ImpK.refl) SubK.nil) (SupG.val (SupG.val (SupG.val (SupG.val (SupG.val (SupG.own rfl SupG.nil)))))) (SupH.cons rfl (supJ sup_rW) SupH.nil) (lkOk rfl)
      ·
        refine C_exit ?_
        refine K_exT ?_
        refine K_exT ?_
        refine K_exB ?_
        exact K_fam (d) ⟨hq, t.good hd (by omega) (by omega)⟩ (Sub.int rfl (by first | omega | rfl | (dsimp only; omega)) (Sub.int rfl (by first | omega | rfl | (dsimp only; omega)) (Sub.cons rfl (Sub.cons rfl Sub.nil)))) ((SubK.consI rfl ImpK.refl) SubK.nil) (SupG.val (SupG.val (SupG.val (SupG.own rfl SupG.nil)))) (SupH.cons rfl (supJ sup_rW) SupH.nil) (lkOk rfl)
  ·
    intro d hj213
    obtain ⟨eq1, eq2⟩ := hj213
    have hd4 : d ≤ 4294967296 := by omega
    refine C_seq ?_
    refine C_reg ?_
    refine R1 d_assign rfl ?_
    refine R1 d_assign rfl ?_
    refine R_nil (by kernel_rfl) ?_
    refine K_then ?_
    refine C_seq ?_
    refine C_seq ?_
    refine C_reg ?_
    refine R1 d_move rfl ?_
    refine R1 (d_len Tryz.underlying133) rfl ?_
    refine R1 d_move rfl ?_
    refine R_nil (by kernel_rfl) ?_
    refine K_then ?_
    refine C_block ?_
    refine C_loop (fun (fm : (Nat) × (List Nat) × (Nat) × (Nat)) => (fun (i : Nat) (ws : List Nat) (c : Nat) (b : Nat) => i ≤ m + 2 ∧ ws.length = m + 2 + 1 ∧ Dig 4294967296 ws ∧ ws.drop i = u.drop i ∧ c < 4294967296 ∧ b ≤ 1 ∧ val 4294967296 (ws.take i) + d * val 4294967296 (v.take i) = val 4294967296 (u.take i) + (c + b) * 4294967296 ^ i) fm.1 fm.2.1 fm.2.2.1 fm.2.2.2) (fun (fm : (Nat) × (List Nat) × (Nat) × (Nat)) => (fun (i : Nat) (ws : List Nat) (c : Nat) (b : Nat) => upd (upd (upd (upd (upd (upd (upd (upd (upd (fun _ => none) 0 (some (.own (.sl 9 1 p.length (m + 3))))) 1 (some (.val (tWs v)))) 5 (some (.val (tI v.length)))) 8 (some (.val (tE (.int .u64 ((d : Nat) : Int)))))) 10 (some (.val (tE (.int .u64 ((c : Nat) : Int)))))) 11 (some (.val (tE (.int .u64 ((b : Nat) : Int)))))) 76 (some (.val (tWs v)))) 77 (some (.val (tI v.length)))) 78 (some (.val (tI i)))) fm.1 fm.2.1 fm.2.2.1 fm.2.2.2) (fun (fm : (Nat) × (List Nat) × (Nat) × (Nat)) => (fun (i : Nat) (ws : List Nat) (c : Nat) (b : Nat) => upd (fun _ => none) 9 (some (⟨186, 1, false, rW .u32 (p ++ (ws ++ q))⟩))) fm.1 fm.2.1 fm.2.2.1 fm.2.2.2) (nm [9]) (fun (fm : (Nat) × (List Nat) × (Nat) × (Nat)) => (fun (i : Nat) (ws : List Nat) (c : Nat) (b : Nat) => m + 2 - i) fm.1 fm.2.1 fm.2.2.1 fm.2.2.2) ((0, u, 0, 0)) (by dsimp only; exact ⟨Nat.zero_le _, lu, t.Du, rfl, by omega, by omega, by simp [val]⟩) (Sub.int rfl (by first | omega | rfl | (dsimp only; omega)) (Sub.int rfl (by first | omega | rfl | (dsimp only; omega)) (Sub.cons rfl (Sub.int rfl (by first | omega | rfl | (dsimp only; omega)) (Sub.int rfl (by first | omega | rfl | (dsimp only; omega)) (Sub.int rfl (by first | omega | rfl | (dsimp only; omega)) (Sub.int rfl (by first | omega | rfl | (dsimp only; omega)) (Sub.cons rfl (Sub.cons rfl Sub.nil))))))))) ((SubK.consI rfl ImpK.refl) SubK.nil) (SupG.val (SupG.val (SupG.val (SupG.val (SupG.val (SupG.val (SupG.val (SupG.val (SupG.own rfl SupG.nil))))))))) (SupH.cons rfl (supJ sup_rW) SupH.nil) (lkOk rfl) ?_
    intro fm hI
    obtain ⟨i, ws, c, b⟩ := fm
    replace hI : i ≤ m + 2 ∧ ws.length = m + 2 + 1 ∧ Dig 4294967296 ws ∧ ws.drop i = u.drop i ∧ c < 4294967296 ∧ b ≤ 1 ∧ val 4294967296 (ws.take i) + d * val 4294967296 (v.take i) = val 4294967296 (u.take i) + (c + b) * 4294967296 ^ i := hI
    show wc _ _ _ _ (upd (upd (upd (upd (upd (upd (upd (upd (upd (fun _ => none) 0 (some (.own (.sl 9 1 p.length (m + 3))))) 1 (some (.val (tWs v)))) 5 (some (.val (tI v.length)))) 8 (some (.val (tE (.int .u64 ((d : Nat) : Int)))))) 10 (some (.val (tE (.int .u64 ((c : Nat) : Int)))))) 11 (some (.val (tE (.int .u64 ((b : Nat) : Int)))))) 76 (some (.val (tWs v)))) 77 (some (.val (tI v.length)))) 78 (some (.val (tI i)))) (upd (fun _ => none) 9 (some (⟨186, 1, false, rW .u32 (p ++ (ws ++ q))⟩))) _
    obtain ⟨hi, hl, hD, hdr, hc, hb, hv⟩ := hI
    have hvi : v.getD i 0 < 4294967296 := t.Dv.getD (by decide) i
    have hwi := hD.getD (by decide) i
    have hpr := prod_lt hd4 hvi hc
    have hwn := hD.getD (by decide) (m + 2)
    refine C_seq ?_
    refine C_reg ?_
    refine R2 d_lss rfl rfl ?_
    refine R_nil (by kernel_rfl) ?_
    refine K_then ?_
    refine C_seq ?_
    refine C_if rfl (fun h221 => ?_) (fun h221 => ?_)
    ·
      refine C_skip ?_
      refine K_then ?_
      refine C_seq ?_
      refine C_block ?_
      refine C_seq ?_
      refine C_reg ?_
      refine R1 d_move rfl ?_
      refine R2 (d_indexP sl133 (i) (by omega) (gN (by omega))) rfl rfl ?_
      refine R1 (d_loadP ti186) rfl ?_
      refine R1 d_assign rfl ?_
      refine R1 d_assign rfl ?_
      refine R_nil (by kernel_rfl) ?_
      refine K_then ?_
      refine C_seq ?_
      refine C_reg ?_
      refine R1 d_move rfl ?_
      refine R1 d_move rfl ?_
      refine R1 (d_convert Tryz.underlying121 (isS Tryz.underlying186) (by first | exact wu64 (by omega) (by omega) | exact mu64)) rfl ?_
      refine R2 (d_mul (wmul64 (by omega))) rfl rfl ?_
      refine R1 d_move rfl ?_
      refine R2 (d_add (wadd64 (by omega))) rfl rfl ?_
      refine R1 d_assign rfl ?_
      refine R_nil (by kernel_rfl) ?_
      refine K_then ?_
      refine C_seq ?_
      refine C_reg ?_
      refine R1 d_move rfl ?_
      refine R2 (d_shr (by decide) shr32) rfl rfl ?_
      refine R1 d_assign rfl ?_
      refine R_nil (by kernel_rfl) ?_
      refine K_then ?_
      refine C_seq ?_
      refine C_reg ?_
      refine R1 d_move rfl ?_
      refine R1 d_move rfl ?_
      refine R2 (d_indexO sl133 (by omega) (by omega) rfl) rfl rfl ?_
      refine RE (d_load (p.length + (i)) ti186 (rM_get (by omega)) (by omega)) ⟨rfl, trivial⟩ ⟨rfl, trivial⟩ trivial ?_
      refine R1 (d_convert Tryz.underlying121 (isS Tryz.underlying186) (by first | exact wu64 (by omega) (by omega) | exact mu64)) rfl ?_
      refine R1 d_move rfl ?_
      refine R1 (d_convert Tryz.underlying186 (isS Tryz.underlying121) cut32) rfl ?_
      refine R1 (d_convert Tryz.underlying121 (isS Tryz.underlying186) (by first | exact wu64 (by omega) (by omega) | exact mu64)) rfl ?_
      refine R2 (d_sub rfl) rfl rfl ?_
      refine R1 d_move rfl ?_
      refine R2 (d_sub (dif64_eq (by omega) (by omega))) rfl rfl ?_
      refine R1 d_assign rfl ?_
      refine R_nil (by kernel_rfl) ?_
      refine K_then ?_
      refine C_seq ?_
      refine C_reg ?_
      refine R1 d_move rfl ?_
      refine R1 d_move rfl ?_
      refine R1 d_move rfl ?_
      refine R1 (d_convert Tryz.underlying186 (isS Tryz.underlying121) cut32) rfl ?_
      refine R2 (d_indexO sl133 (by omega) (by omega) rfl) rfl rfl ?_
      refine RE (d_store (p.length + (i)) ti186 (rM_lt (by omega)) (by omega) (rM_set (m := _) rfl (by omega))) ⟨rfl, rfl, trivial⟩ ⟨rfl, trivial⟩ trivial ?_
      refine R_nil (by kernel_rfl) ?_
      refine K_then ?_
      refine C_reg ?_
      refine R1 d_move rfl ?_
      refine R2 (d_shr (by decide) shr63) rfl rfl ?_
      refine R1 d_assign rfl ?_
      refine R_nil (by kernel_rfl) ?_
      refine K_norB ?_
      refine K_then ?_
      refine C_reg ?_
      refine R2 (d_add (by first | exact wr64 (by omega) (by omega))) rfl rfl ?_
      refine R1 d_move rfl ?_
      refine R_nil (by kernel_rfl) ?_
      obtain ⟨n1, n2, n3, n4, n5, n6⟩ := msub_in (n := m + 2) (by omega) lu lv t.Dv hl hD hdr hd4 hc hb hv
      exact K_fam ((i + 1, ws.set i (dif64 (ws.getD i 0) ((d * v.getD i 0 + c) % 4294967296) b % 4294967296), (d * v.getD i 0 + c) / 4294967296, dif64 (ws.getD i 0) ((d * v.getD i 0 + c) % 4294967296) b / 9223372036854775808)) ⟨(by dsimp only; exact ⟨by omega, n1, n2, n3, n4, n5, n6⟩), (by dsimp only; omega)⟩ (Sub.int rfl (by first | omega | rfl | (dsimp only; omega)) (Sub.int rfl (by first | omega | rfl | (dsimp only; omega)) (Sub.cons rfl (Sub.int rfl (by first | omega | rfl | (dsimp only; omega)) (Sub.int rfl (by first | omega | rfl | (dsimp only; omega)) (Sub.int rfl (by first | omega | rfl | (dsimp only; omega)) (Sub.int rfl (by first | omega | rfl | (dsimp only; omega)) (Sub.cons rfl (Sub.cons rfl Sub.nil))))))))) ((SubK.consI rfl ImpK.refl) SubK.nil) (SupG.val (SupG.val (SupG.val (SupG.val (SupG.val (SupG.val (SupG.val (SupG.val (SupG.own rfl SupG.nil))))))))) (SupH.cons rfl (supJ sup_rW) SupH.nil) (lkOk rfl)
    ·
      have him : i = m + 2 := by omega
      subst him
      obtain ⟨y1, y2, y3, y4⟩ := msub_end (n := m + 2) lu lv hl hD hdr hc hb hv
      refine C_exit ?_
      refine K_exT ?_
      refine K_exT ?_
      refine K_exB ?_
      refine K_then ?_
      refine C_seq ?_
      refine C_reg ?_
      refine R1 d_move rfl ?_
      refine R1 d_move rfl ?_
      refine R2 (d_indexO sl133 (by omega) (by omega) rfl) rfl rfl ?_
      refine RE (d_load (p.length + (m + 2)) ti186 (rM_get (by omega)) (by omega)) ⟨rfl, trivial⟩ ⟨rfl, trivial⟩ trivial ?_
      refine R1 (d_convert Tryz.underlying121 (isS Tryz.underlying186) (by first | exact wu64 (by omega) (by omega) | exact mu64)) rfl ?_
      refine R1 d_move rfl ?_
      refine R2 (d_sub rfl) rfl rfl ?_
      refine R1 d_move rfl ?_
      refine R2 (d_sub (dif64_eq (by omega) (by omega))) rfl rfl ?_
      refine R1 d_assign rfl ?_
      refine R_nil (by kernel_rfl) ?_
      refine K_then ?_
      refine C_seq ?_
      refine C_reg ?_
      refine R1 d_move rfl ?_
      refine R1 d_move rfl ?_
      refine R1 d_move rfl ?_
      refine R1 (d_convert Tryz.underlying186 (isS Tryz.underlying121) cut32) rfl ?_
      refine R2 (d_indexO sl133 (by omega) (by omega) rfl) rfl rfl ?_
      refine RE (d_store (p.length + (m + 2)) ti186 (rM_lt (by omega)) (by omega) (rM_set (m := _) rfl (by omega))) ⟨rfl, rfl, trivial⟩ ⟨rfl, trivial⟩ trivial ?_
      refine R_nil (by kernel_rfl) ?_
      refine K_then ?_
      refine C_seq ?_
      refine C_seq ?_
      refine C_reg ?_
      refine R1 d_move rfl ?_
      refine R2 (d_shr (by decide) shr63) rfl rfl ?_
      refine R2 d_eql rfl rfl ?_
      refine R_nil (by kernel_rfl) ?_
      refine K_then ?_
      refine C_if rfl (fun h230 => ?_) (fun h230 => ?_)
      ·
        rw [show dif64 (ws.getD (m + 2) 0) c b / 9223372036854775808 = 0 by omega] at y3
        obtain ⟨z1, z2⟩ := step_same t y1 y2 eq1 y3
        refine C_seq ?_
        refine C_reg ?_
        refine R1 d_move rfl ?_
        refine R1 (d_convert Tryz.underlying186 (isS Tryz.underlying121) cut32) rfl ?_
        refine R1 d_assign rfl ?_
        refine R_nil (by kernel_rfl) ?_
        refine K_then ?_
        refine C_ret ?_
        refine K_retT ?_
        exact E_retG1 LentC.mk' rfl rfl (Imp.int (by have z1 : d = val 4294967296 u / val 4294967296 v := z1; omega)) ⟨(congrArg (fun z => some (HEnt.mk 186 1 false (rW .u32 (p ++ (z ++ q))))) z2), trivial⟩ rfl ⟨⟨rfl, sup_rW⟩, trivial⟩ rfl
      ·
        rw [show dif64 (ws.getD (m + 2) 0) c b / 9223372036854775808 = 1 by omega] at y3
        obtain ⟨z1, z2⟩ := step_more t y2 y1 eq2 eq1 y3
        have hd1 : 1 ≤ d := by rw [z1]; exact Nat.le_add_left 1 _
        refine C_skip ?_
        refine K_then ?_
        refine C_seq ?_
        refine C_reg ?_
        refine R1 d_assign rfl ?_
        refine R_nil (by kernel_rfl) ?_
        refine K_then ?_
        refine C_seq ?_
        refine C_seq ?_
        refine C_reg ?_
        refine R1 d_move rfl ?_
        refine R1 (d_len Tryz.underlying133) rfl ?_
        refine R1 d_move rfl ?_
        refine R_nil (by kernel_rfl) ?_
        refine K_then ?_
        refine C_block ?_
        refine C_loop (fun (fm : (Nat) × (List Nat) × (Nat)) => (fun (i : Nat) (zs : List Nat) (f : Nat) => i ≤ m + 2 ∧ zs.length = m + 2 + 1 ∧ Dig 4294967296 zs ∧ zs.drop i = (ws.set (m + 2) (dif64 (ws.getD (m + 2) 0) c b % 4294967296)).drop i ∧ f ≤ 1 ∧ val 4294967296 (zs.take i) + f * 4294967296 ^ i = val 4294967296 ((ws.set (m + 2) (dif64 (ws.getD (m + 2) 0) c b % 4294967296)).take i) + val 4294967296 (v.take i)) fm.1 fm.2.1 fm.2.2) (fun (fm : (Nat) × (List Nat) × (Nat)) => (fun (i : Nat) (zs : List Nat) (f : Nat) => upd (upd (upd (upd (upd (upd (upd (upd (fun _ => none) 0 (some (.own (.sl 9 1 p.length (m + 3))))) 1 (some (.val (tWs v)))) 5 (some (.val (tI v.length)))) 8 (some (.val (tE (.int .u64 ((d : Nat) : Int)))))) 17 (some (.val (tE (.int .u32 ((f : Nat) : Int)))))) 129 (some (.val (tWs v)))) 130 (some (.val (tI v.length)))) 131 (some (.val (tI i)))) fm.1 fm.2.1 fm.2.2) (fun (fm : (Nat) × (List Nat) × (Nat)) => (fun (i : Nat) (zs : List Nat) (f : Nat) => upd (fun _ => none) 9 (some (⟨186, 1, false, rW .u32 (p ++ (zs ++ q))⟩))) fm.1 fm.2.1 fm.2.2) (nm [9]) (fun (fm : (Nat) × (List Nat) × (Nat)) => (fun (i : Nat) (zs : List Nat) (f : Nat) => m + 2 - i) fm.1 fm.2.1 fm.2.2) ((0, (ws.set (m + 2) (dif64 (ws.getD (m + 2) 0) c b % 4294967296)), 0)) (by dsimp only; exact ⟨Nat.zero_le _, y1, y2, rfl, by omega, by simp [val]⟩) (Sub.int rfl (by first | omega | rfl | (dsimp only; omega)) (Sub.int rfl (by first | omega | rfl | (dsimp only; omega)) (Sub.cons rfl (Sub.int rfl (by first | omega | rfl | (dsimp only; omega)) (Sub.int rfl (by first | omega | rfl | (dsimp only; omega)) (Sub.int rfl (by first | omega | rfl | (dsimp only; omega)) (Sub.cons rfl (Sub.cons rfl Sub.nil)))))))) ((SubK.consI rfl ImpK.refl) SubK.nil) (SupG.val (SupG.val (SupG.val (SupG.val (SupG.val (SupG.val (SupG.val (SupG.own rfl SupG.nil)))))))) (SupH.cons rfl (supJ sup_rW) SupH.nil) (lkOk rfl) ?_
        intro fm hZ
        obtain ⟨i, zs, f⟩ := fm
        replace hZ : i ≤ m + 2 ∧ zs.length = m + 2 + 1 ∧ Dig 4294967296 zs ∧ zs.drop i = (ws.set (m + 2) (dif64 (ws.getD (m + 2) 0) c b % 4294967296)).drop i ∧ f ≤ 1 ∧ val 4294967296 (zs.take i) + f * 4294967296 ^ i = val 4294967296 ((ws.set (m + 2) (dif64 (ws.getD (m + 2) 0) c b % 4294967296)).take i) + val 4294967296 (v.take i) := hZ
        show wc _ _ _ _ (upd (upd (upd (upd (upd (upd (upd (upd (fun _ => none) 0 (some (.own (.sl 9 1 p.length (m + 3))))) 1 (some (.val (tWs v)))) 5 (some (.val (tI v.length)))) 8 (some (.val (tE (.int .u64 ((d : Nat) : Int)))))) 17 (some (.val (tE (.int .u32 ((f : Nat) : Int)))))) 129 (some (.val (tWs v)))) 130 (some (.val (tI v.length)))) 131 (some (.val (tI i)))) (upd (fun _ => none) 9 (some (⟨186, 1, false, rW .u32 (p ++ (zs ++ q))⟩))) _
        clear hi hl hD hdr hc hv
        obtain ⟨hi, hl, hD, hdr, hf, hv⟩ := hZ
        have hvi : v.getD i 0 < 4294967296 := t.Dv.getD (by decide) i
        have hzi := hD.getD (by decide) i
        refine C_seq ?_
        refine C_reg ?_
        refine R2 d_lss rfl rfl ?_
        refine R_nil (by kernel_rfl) ?_
        refine K_then ?_
        refine C_seq ?_
        refine C_if rfl (fun h234 => ?_) (fun h234 => ?_)
        ·
          refine C_skip ?_
          refine K_then ?_
          refine C_seq ?_
          refine C_block ?_
          refine C_seq ?_
          refine C_reg ?_
          refine R1 d_move rfl ?_
          refine R2 (d_indexP sl133 (i) (by omega) (gN (by omega))) rfl rfl ?_
          refine R1 (d_loadP ti186) rfl ?_
          refine R1 d_assign rfl ?_
          refine R1 d_assign rfl ?_
          refine R_nil (by kernel_rfl) ?_
          refine K_then ?_
          refine C_reg ?_
          refine R1 d_move rfl ?_
          refine R1 d_move rfl ?_
          refine R1 d_move rfl ?_
          refine R1 d_move rfl ?_
          refine R2 (d_indexO sl133 (by omega) (by omega) rfl) rfl rfl ?_
          refine RE (d_load (p.length + (i)) ti186 (rM_get (by omega)) (by omega)) ⟨rfl, trivial⟩ ⟨rfl, trivial⟩ trivial ?_
          refine R1 d_move rfl ?_
          refine R1 d_move rfl ?_
          refine RE (d_call (c_Add32 _ _ _ (by omega) (by omega) (by omega)) fi249 rfl) ⟨rfl, rfl, rfl, trivial⟩ trivial trivial ?_
          refine R1 d_move rfl ?_
          refine R1 (d_extract rfl) rfl ?_
          refine R1 (d_extract rfl) rfl ?_
          refine R2 (d_indexO sl133 (by omega) (by omega) rfl) rfl rfl ?_
          refine RE (d_store (p.length + (i)) ti186 (rM_lt (by omega)) (by omega) (rM_set (m := _) rfl (by omega))) ⟨rfl, rfl, trivial⟩ ⟨rfl, trivial⟩ trivial ?_
          refine R1 d_assign rfl ?_
          refine R_nil (by kernel_rfl) ?_
          refine K_norB ?_
          refine K_then ?_
          refine C_reg ?_
          refine R2 (d_add (by first | exact wr64 (by omega) (by omega))) rfl rfl ?_
          refine R1 d_move rfl ?_
          refine R_nil (by kernel_rfl) ?_
          obtain ⟨n1, n2, n3, n4, n5⟩ := addb_in (n := m + 2) (by omega) y1 lv hl hD hdr t.Dv hf hv
          exact K_fam ((i + 1, zs.set i ((zs.getD i 0 + v.getD i 0 + f) % 4294967296), (zs.getD i 0 + v.getD i 0 + f) / 4294967296)) ⟨(by dsimp only; exact ⟨by omega, n1, n2, n3, n4, n5⟩), (by dsimp only; omega)⟩ (Sub.int rfl (by first | omega | rfl | (dsimp only; omega)) (Sub.int rfl (by first | omega | rfl | (dsimp only; omega)) (Sub.cons rfl (Sub.int rfl (by first | omega | rfl | (dsimp only; omega)) (Sub.int rfl (by first | omega | rfl | (dsimp only; omega)) (Sub.int rfl (by first | omega | rfl | (dsimp only; omega)) (Sub.cons rfl (Sub.cons rfl Sub.nil)))))))) ((SubK.consI rfl ImpK.refl) SubK.nil) (SupG.val (SupG.val (SupG.val (SupG.val (SupG.val (SupG.val (SupG.val (SupG.own rfl SupG.nil)))))))) (SupH.cons rfl (supJ sup_rW) SupH.nil) (lkOk rfl)
        ·
          have him : i = m + 2 := by omega
          subst him
          have hfin := addb_end y1 lv hl hD hdr hf hv z2
          refine C_exit ?_
          refine K_exT ?_
          refine K_exT ?_
          refine K_exB ?_
          refine K_then ?_
          refine C_seq ?_
          refine C_reg ?_
          refine R1 d_move rfl ?_
          refine R1 d_move rfl ?_
          refine R2 (d_indexO sl133 (by omega) (by omega) rfl) rfl rfl ?_
          refine RE (d_load (p.length + (m + 2)) ti186 (rM_get (by omega)) (by omega)) ⟨rfl, trivial⟩ ⟨rfl, trivial⟩ trivial ?_
          refine R1 d_move rfl ?_
          refine R2 (d_add (r := (((zs.getD (m + 2) 0 + f) % 4294967296 : Nat) : Int)) (by rw [mu32]; omega)) rfl rfl ?_
          refine R2 (d_indexO sl133 (by omega) (by omega) rfl) rfl rfl ?_
          refine RE (d_store (p.length + (m + 2)) ti186 (rM_lt (by omega)) (by omega) (rM_set (m := _) rfl (by omega))) ⟨rfl, rfl, trivial⟩ ⟨rfl, trivial⟩ trivial ?_
          refine R_nil (by kernel_rfl) ?_
          refine K_then ?_
          refine C_seq ?_
          refine C_reg ?_
          refine R1 d_move rfl ?_
          refine R2 (d_sub (r := ((d - 1 : Nat) : Int)) (by rw [wu64 (by omega) (by omega)]; omega)) rfl rfl ?_
          refine R1 (d_convert Tryz.underlying186 (isS Tryz.underlying121) cut32) rfl ?_
          refine R1 d_assign rfl ?_
          refine R_nil (by kernel_rfl) ?_
          refine K_then ?_
          refine C_ret ?_
          exact E_retG1 LentC.mk' rfl rfl (Imp.int (by have z1 : d = val 4294967296 u / val 4294967296 v + 1 := z1; omega)) ⟨(congrArg (fun z => some (HEnt.mk 186 1 false (rW .u32 (p ++ (z ++ q))))) hfin), trivial⟩ rfl ⟨⟨rfl, sup_rW⟩, trivial⟩ rfl
end An.S

/- Long division: the laws between the steps. Plain numbers. -/
namespace An
open Go
theorem bitLen_spec : ∀ (n x : Nat), x < n → x ≠ 0 → x < 2 ^ 64 → 2 ^ (Lib.bitLen x - 1) ≤ x ∧ x < 2 ^ Lib.bitLen x ∧ 1 ≤ Lib.bitLen x
  | 0, x, h, _, _ => by omega
  | n + 1, x, h, h0, h64 => by
    have h1 := Lib.bitLen_half x h0 h64
    rcases Nat.eq_zero_or_pos (x / 2) with h2 | h2
    · have h3 : x = 1 := by omega
      subst h3
      have h4 : Lib.bitLen 0 = 0 := by decide
      rw [h2, h4] at h1
      rw [h1]; decide
    · obtain ⟨i1, i2, i3⟩ := bitLen_spec n (x / 2) (by omega) (by omega) (by omega)
      rw [h1]
      refine ⟨?_, ?_, by omega⟩
      · have e : 1 + Lib.bitLen (x / 2) - 1 = (Lib.bitLen (x / 2) - 1) + 1 := by omega
        rw [e, Nat.pow_succ]; omega
      · rw [Nat.add_comm, Nat.pow_succ]; omega
theorem lz_spec {x s : Nat} (h0 : 0 < x) (h : x < 4294967296) (hs : 32 - Lib.bitLen x = s) : s ≤ 31 ∧ 2147483648 ≤ x * 2 ^ s ∧ x * 2 ^ s < 4294967296 := by
  obtain ⟨h1, h2, h3⟩ := bitLen_spec (x + 1) x (by omega) (by omega) (by omega)
  have h4 := Lib.bitLen_le x 32 (by decide) h
  have hp : 0 < 2 ^ s := Nat.pow_pos (by omega)
  refine ⟨by omega, ?_, ?_⟩
  · have e : (2147483648 : Nat) = 2 ^ (Lib.bitLen x - 1) * 2 ^ s := by rw [← Nat.pow_add, show Lib.bitLen x - 1 + s = 31 by omega]
    rw [e]; exact Nat.mul_le_mul_right _ h1
  · have e : (4294967296 : Nat) = 2 ^ Lib.bitLen x * 2 ^ s := by rw [← Nat.pow_add, show Lib.bitLen x + s = 32 by omega]
    rw [e]; exact Nat.mul_lt_mul_of_pos_right h2 hp
theorem dgs_split (B x y v : Nat) : dgs B (x + y) v = dgs B x v ++ dgs B y (v / B ^ x) := by
  induction y with
  | zero => rw [Nat.add_zero, dgs_zero, List.append_nil]
  | succ y ih => rw [← Nat.add_assoc, dgs_succ, dgs_succ, ih, List.append_assoc, Nat.div_div_eq_div_mul, ← Nat.pow_add]
theorem take_dgs {B n k v : Nat} (h : k ≤ n) : (dgs B n v).take k = dgs B k v := by
  obtain ⟨d, rfl⟩ : ∃ d, n = k + d := ⟨n - k, by omega⟩
  rw [dgs_split, List.take_left' (dgs_length _ _ _)]
theorem drop_dgs {B n k v : Nat} (h : k ≤ n) : (dgs B n v).drop k = dgs B (n - k) (v / B ^ k) := by
  obtain ⟨d, rfl⟩ : ∃ d, n = k + d := ⟨n - k, by omega⟩
  rw [dgs_split, List.drop_left' (dgs_length _ _ _), show k + d - k = d by omega]
/-- The divisor, shifted. -/
theorem norm {b m s : Nat} (hl : (dig W b).length = m + 2) (hs : 32 - Lib.bitLen ((dig W b).getD (m + 1) 0) = s) :
    s ≤ 31 ∧ b * 2 ^ s < W ^ (m + 2) ∧ 2147483648 ≤ b * 2 ^ s / W ^ (m + 1) % W ∧ W ^ (m + 1) ≤ b ∧ 2147483648 * W ^ (m + 1) ≤ b * 2 ^ s := by
  have hb : b < W ^ (m + 2) := (len_le_iff two_le_W b _).1 (Nat.le_of_eq hl)
  have hb0 : 0 < b := by
    rcases Nat.eq_zero_or_pos b with h | h
    · subst h; rw [dig_zero] at hl; simp at hl
    · exact h
  have hb1 : W ^ (m + 1) ≤ b := by
    have := pow_len_le two_le_W hb0
    rwa [hl] at this
  have hp : 0 < W ^ (m + 1) := Nat.pow_pos (by decide)
  have ht : (dig W b).getD (m + 1) 0 = b / W ^ (m + 1) := by
    rw [dig_getD two_le_W, Nat.mod_eq_of_lt]
    refine Nat.div_lt_of_lt_mul ?_
    rwa [Nat.pow_succ] at hb
  rw [ht] at hs
  have ht0 : 0 < b / W ^ (m + 1) := Nat.div_pos hb1 hp
  have ht1 : b / W ^ (m + 1) < 4294967296 := Nat.div_lt_of_lt_mul (by rwa [Nat.pow_succ] at hb)
  obtain ⟨h1, h2, h3⟩ := lz_spec ht0 ht1 hs
  have h2s : 0 < 2 ^ s := Nat.pow_pos (by omega)
  have h4 : (b / W ^ (m + 1) + 1) * 2 ^ s ≤ 4294967296 := by
    have e : (4294967296 : Nat) = 2 ^ (32 - s) * 2 ^ s := by rw [← Nat.pow_add, show 32 - s + s = 32 by omega]
    rw [e] at h3 ⊢
    exact Nat.mul_le_mul_right _ (Nat.lt_of_mul_lt_mul_right h3)
  have h5 := Nat.div_add_mod b (W ^ (m + 1))
  have h6 := Nat.mod_lt b hp
  have h7 : b * 2 ^ s < W ^ (m + 2) := by
    have e : W ^ (m + 2) = W ^ (m + 1) * 4294967296 := Nat.pow_succ ..
    rw [e]
    have h8 : b < W ^ (m + 1) * (b / W ^ (m + 1) + 1) := by rw [Nat.mul_add, Nat.mul_one]; omega
    have h9 : b * 2 ^ s < W ^ (m + 1) * (b / W ^ (m + 1) + 1) * 2 ^ s := Nat.mul_lt_mul_of_pos_right h8 h2s
    rw [Nat.mul_assoc] at h9
    exact Nat.lt_of_lt_of_le h9 (Nat.mul_le_mul_left _ h4)
  have h10 : 2147483648 * W ^ (m + 1) ≤ b * 2 ^ s := by
    have h11 : b / W ^ (m + 1) * 2 ^ s * W ^ (m + 1) ≤ b * 2 ^ s := by
      rw [Nat.mul_right_comm]
      exact Nat.mul_le_mul_right _ (Nat.div_mul_le_self _ _)
    exact Nat.le_trans (Nat.mul_le_mul_right _ h2) h11
  refine ⟨h1, h7, ?_, hb1, h10⟩
  have h8 : b * 2 ^ s / W ^ (m + 1) < W := Nat.div_lt_of_lt_mul (by rwa [Nat.pow_succ] at h7)
  rw [Nat.mod_eq_of_lt h8]
  exact (Nat.le_div_iff_mul_le hp).2 h10
/-- What remains behind the digits from k on. -/
theorem rem_lt {A B k : Nat} (hB : 0 < B) : A % (W ^ (k + 1) * B) / W ^ k < B * W := by
  have hp : 0 < W ^ k := Nat.pow_pos (by decide)
  refine Nat.div_lt_of_lt_mul ?_
  have h := Nat.mod_lt A (Nat.mul_pos (Nat.pow_pos (n := k + 1) (show 0 < W by decide)) hB)
  have e : W ^ (k + 1) * B = W ^ k * (B * W) := by rw [Nat.pow_succ]; ac_rfl
  rwa [e] at h ⊢
theorem two_of {A B m k : Nat} (hB : B < W ^ (m + 2)) (ht : 2147483648 ≤ B / W ^ (m + 1) % W) (hB0 : 0 < B) : Two m (dgs W (m + 3) (A % (W ^ (k + 1) * B) / W ^ k)) (dgs W (m + 2) B) := by
  have h1 := rem_lt (A := A) (k := k) hB0
  have h2 : A % (W ^ (k + 1) * B) / W ^ k < W ^ (m + 3) := by
    refine Nat.lt_trans h1 ?_
    rw [Nat.pow_succ]
    exact Nat.mul_lt_mul_of_pos_right hB (by decide)
  refine ⟨dgs_length _ _ _, dgs_length _ _ _, dgs_Dig (by decide) _ _, dgs_Dig (by decide) _ _, ?_, ?_⟩
  · rw [dgs_getD (by omega)]; exact ht
  · rw [val_dgs, val_dgs, Nat.mod_eq_of_lt h2, Nat.mod_eq_of_lt hB]; exact h1
/-- The row, cut. -/
theorem row_cut {n R m k : Nat} (hk : k + (m + 3) ≤ n) : dgs W n R = dgs W k R ++ (dgs W (m + 3) (R / W ^ k) ++ dgs W (n - k - (m + 3)) (R / W ^ k / W ^ (m + 3))) := by
  obtain ⟨d, rfl⟩ : ∃ d, n = k + (m + 3 + d) := ⟨n - k - (m + 3), by omega⟩
  rw [dgs_split, dgs_split, show k + (m + 3 + d) - k - (m + 3) = d by omega]
theorem rem_step (A B k : Nat) : A % (W ^ k * B) = A % (W ^ (k + 1) * B) % W ^ k + W ^ k * (A % (W ^ (k + 1) * B) / W ^ k % B) := by
  rw [← Nat.mod_mul]
  have e : W ^ (k + 1) * B = W ^ k * B * W := by rw [Nat.pow_succ]; ac_rfl
  rw [e, Nat.mod_mul_right_mod]
theorem row_join {A B n m k : Nat} (hk : k + (m + 3) ≤ n) (hB : B < W ^ (m + 2)) (hB0 : 0 < B) :
    dgs W k (A % (W ^ (k + 1) * B)) ++ (dgs W (m + 3) (val W (dgs W (m + 3) (A % (W ^ (k + 1) * B) / W ^ k)) % val W (dgs W (m + 2) B)) ++ dgs W (n - k - (m + 3)) (A % (W ^ (k + 1) * B) / W ^ k / W ^ (m + 3))) = dgs W n (A % (W ^ k * B)) := by
  have h1 := rem_lt (A := A) (k := k) hB0
  have h2 : A % (W ^ (k + 1) * B) / W ^ k < W ^ (m + 3) := by
    refine Nat.lt_trans h1 ?_
    rw [Nat.pow_succ]
    exact Nat.mul_lt_mul_of_pos_right hB (by decide)
  have hp : 0 < W ^ k := Nat.pow_pos (by decide)
  rw [val_dgs, val_dgs, Nat.mod_eq_of_lt h2, Nat.mod_eq_of_lt hB, row_cut (n := n) (R := A % (W ^ k * B)) hk]
  have h3 := rem_step A B k
  have h4 : A % (W ^ k * B) / W ^ k = A % (W ^ (k + 1) * B) / W ^ k % B := by
    rw [h3, Nat.add_mul_div_left _ _ hp, Nat.div_eq_of_lt (Nat.mod_lt _ hp), Nat.zero_add]
  have h5 : A % (W ^ k * B) % W ^ k = A % (W ^ (k + 1) * B) % W ^ k := by
    conv => lhs; rw [h3]
    rw [Nat.add_mul_mod_self_left, Nat.mod_mod]
  have h6 : A % (W ^ (k + 1) * B) / W ^ k % B < W ^ (m + 3) := Nat.lt_of_le_of_lt (Nat.mod_le _ _) h2
  rw [h4, dgs_congr h5, Nat.div_eq_of_lt h6, Nat.div_eq_of_lt h2]
theorem quo_step {A B m k : Nat} (hB : B < W ^ (m + 2)) (hB0 : 0 < B) :
    A / (W ^ k * B) = val W (dgs W (m + 3) (A % (W ^ (k + 1) * B) / W ^ k)) / val W (dgs W (m + 2) B) + W * (A / (W ^ (k + 1) * B)) := by
  have h1 := rem_lt (A := A) (k := k) hB0
  have h2 : A % (W ^ (k + 1) * B) / W ^ k < W ^ (m + 3) := by
    refine Nat.lt_trans h1 ?_
    rw [Nat.pow_succ]
    exact Nat.mul_lt_mul_of_pos_right hB (by decide)
  have hp : 0 < W ^ k := Nat.pow_pos (by decide)
  rw [val_dgs, val_dgs, Nat.mod_eq_of_lt h2, Nat.mod_eq_of_lt hB]
  have h3 := Nat.div_add_mod A (W ^ (k + 1) * B)
  conv => lhs; rw [← h3]
  have e : W ^ (k + 1) * B * (A / (W ^ (k + 1) * B)) = W ^ k * (B * (W * (A / (W ^ (k + 1) * B)))) := by rw [Nat.pow_succ]; ac_rfl
  rw [e, ← Nat.div_div_eq_div_mul, Nat.mul_add_div hp, Nat.mul_add_div hB0, Nat.add_comm]
theorem q_in {A B m k n q : Nat} {qs : List Nat} (hB : B < W ^ (m + 2)) (ht : 2147483648 ≤ B / W ^ (m + 1) % W) (hB0 : 0 < B) (hk : k < n) (hl : qs.length = n) (hD : Dig W qs) (hv : val W (qs.drop (k + 1)) = A / (W ^ (k + 1) * B))
    (hq : q = val W (dgs W (m + 3) (A % (W ^ (k + 1) * B) / W ^ k)) / val W (dgs W (m + 2) B)) : (qs.set k q).length = n ∧ Dig W (qs.set k q) ∧ val W ((qs.set k q).drop k) = A / (W ^ k * B) := by
  refine ⟨by simpa using hl, hD.set (hq ▸ (two_of hB ht hB0).q_lt), ?_⟩
  rw [val_drop_succ _ _ _ (by simpa using (by omega : k < qs.length)), getD_set_self (by omega), drop_set_succ, hv, hq]
  exact (quo_step hB hB0).symm
/-- Before the first digit. -/
theorem div_init {a b m s n : Nat} (hs : s ≤ 31) (ha : a < W ^ n) (hn : m + 2 ≤ n) (hB : 2147483648 * W ^ (m + 1) ≤ b * 2 ^ s) : a * 2 ^ s < W ^ (n - (m + 2) + 1) * (b * 2 ^ s) := by
  have h1 := pow2_le31 hs
  have hp : 0 < 2 ^ s := Nat.pow_pos (by omega)
  have h2 : a * 2 ^ s < W ^ n * 2 ^ s := Nat.mul_lt_mul_of_pos_right ha hp
  have h3 : W ^ n * 2 ^ s ≤ W ^ n * 2147483648 := Nat.mul_le_mul_left _ h1
  have h4 : W ^ n * 2147483648 = W ^ (n - (m + 2) + 1) * (2147483648 * W ^ (m + 1)) := by
    have : W ^ n = W ^ (n - (m + 2) + 1) * W ^ (m + 1) := by rw [← Nat.pow_add]; congr 1; omega
    rw [this, Nat.mul_assoc, Nat.mul_comm (W ^ (m + 1))]
  exact Nat.lt_of_lt_of_le h2 (Nat.le_trans h3 (h4 ▸ Nat.mul_le_mul_left _ hB))
/-! The remainder is shifted back. -/
theorem back_word (X s : Nat) (hs : s ≤ 31) : (X % W + X / W % W * 2 ^ 32) / 2 ^ s % W = X / 2 ^ s % W := by
  have e1 : X % W + X / W % W * 2 ^ 32 = X % (W * W) := by
    rw [Nat.mod_mul, Nat.mul_comm (X / W % W)]
  rw [e1]
  have h1 := Nat.div_add_mod X (W * W)
  have hp : 0 < 2 ^ s := Nat.pow_pos (by omega)
  have e2 : W * W * (X / (W * W)) = 2 ^ s * (W * (2 ^ (32 - s) * (X / (W * W)))) := by
    have : W = 2 ^ s * 2 ^ (32 - s) := by rw [← Nat.pow_add, show s + (32 - s) = 32 by omega]
    conv => lhs; rw [Nat.mul_assoc, this]
    conv => rhs; rw [Nat.mul_left_comm W, ← Nat.mul_assoc]
    rw [← this]
  conv => rhs; rw [← h1, e2, Nat.mul_add_div hp, Nat.mul_add_mod]
theorem back_in {r s i n m : Nat} {us : List Nat} (hs : s ≤ 31) (hi : i < m) (hm : m < n) (hl : us.length = n) (hD : Dig W us) (hdr : us.drop i = (dgs W n (r * 2 ^ s)).drop i) (ht : us.take i = dgs W i r) :
    (us.set i ((us.getD i 0 + us.getD (i + 1) 0 * 2 ^ 32) / 2 ^ s % W)).length = n ∧ Dig W (us.set i ((us.getD i 0 + us.getD (i + 1) 0 * 2 ^ 32) / 2 ^ s % W)) ∧ (us.set i ((us.getD i 0 + us.getD (i + 1) 0 * 2 ^ 32) / 2 ^ s % W)).drop (i + 1) = (dgs W n (r * 2 ^ s)).drop (i + 1) ∧
      (us.set i ((us.getD i 0 + us.getD (i + 1) 0 * 2 ^ 32) / 2 ^ s % W)).take (i + 1) = dgs W (i + 1) r := by
  have hp : 0 < 2 ^ s := Nat.pow_pos (by omega)
  refine ⟨by simpa using hl, hD.set (Nat.mod_lt _ (by decide)), by rw [drop_set_succ]; exact drop_of_drop hdr (by omega), ?_⟩
  rw [take_set_succ (by omega), ht, dgs_succ]
  congr 2
  rw [getD_of_drop hdr (Nat.le_refl _), getD_of_drop hdr (Nat.le_succ i), dgs_getD (by omega), dgs_getD (by omega), Nat.pow_succ, ← Nat.div_div_eq_div_mul, back_word _ _ hs, Nat.div_div_eq_div_mul, Nat.mul_comm (W ^ i), ← Nat.div_div_eq_div_mul, Nat.mul_div_cancel _ hp]
end An

/- Package whole: quotient and remainder. -/
namespace An.S
open Go Go.Proofs An
theorem fi92 : FnI Tryz.prog 92 := ⟨_, Tryz.func92, by kernel_rfl, rfl⟩
theorem fi232 : FnI Tryz.prog 232 := ⟨_, Tryz.func232, by kernel_rfl, rfl⟩
theorem fi233 : FnI Tryz.prog 233 := ⟨_, Tryz.func233, by kernel_rfl, rfl⟩
theorem fi234 : FnI Tryz.prog 234 := ⟨_, Tryz.func234, by kernel_rfl, rfl⟩
theorem fi235 : FnI Tryz.prog 235 := ⟨_, Tryz.func235, by kernel_rfl, rfl⟩
theorem cmpN_neg {a b : Nat} : cmpN a b < 0 ↔ a < b := by
  simp only [cmpN]; constructor
  · intro h; split at h
    · assumption
    · split at h <;> simp at h
  · intro h; rw [if_pos h]; decide
theorem trim1 {x : Nat} (hx : x < 4294967296) : trimL [x] = dig 4294967296 x := by
  rw [trimL_eq_dig two_le_W (Dig.cons hx (Dig.nil _)), val_cons, val_nil]; simp
theorem one_word {b : Nat} (h : (dig 4294967296 b).length = 1) : (dig 4294967296 b).getD 0 0 = b := by
  rw [dig_getD two_le_W, Nat.pow_zero, Nat.div_one]
  have := (len_le_iff two_le_W b 1).1 (Nat.le_of_eq h)
  rw [Nat.pow_one] at this
  exact Nat.mod_eq_of_lt this
theorem c_divide (a b : Nat) (hb : 0 < b) (ha : (dig 4294967296 a).length ≤ 100000) (hbl : (dig 4294967296 b).length ≤ 100000) :
    Ct Tryz.prog 181 [tN a, tN b] (tT [tN (a / b), tN (a % b)]) := by
  refine Ct.intro Tryz.func181 rfl Tryz.ntmps181 rfl ?_
  intro w F
  refine C_seq ?_
  refine C_reg ?_
  refine R1 d_assign rfl ?_
  refine R1 d_assign rfl ?_
  refine R_nil (by kernel_rfl) ?_
  refine K_then ?_
  refine C_seq ?_
  refine C_seq ?_
  refine C_reg ?_
  refine R1 d_move rfl ?_
  refine R1 d_move rfl ?_
  refine RE (d_call (c_compare _ _) fi92 rfl) ⟨rfl, rfl, trivial⟩ trivial trivial ?_
  refine R2 d_lss rfl rfl ?_
  refine R_nil (by kernel_rfl) ?_
  refine K_then ?_
  refine C_if rfl (fun h185 => ?_) (fun h185 => ?_)
  ·
    have hab := cmpN_neg.1 h185
    refine C_seq ?_
    refine C_reg ?_
    refine R1 d_move rfl ?_
    refine RE (d_callGX (fun _ => 20) (c_clone32 _ (by omega)) fi231 rfl (krN (ρ := fun _ => 20)) (krC (ρ := fun _ => 20) (k := 2) ren_rW (krN (ρ := fun _ => 20))) ⟨⟨rfl, sup_rW⟩, trivial⟩ rfl) ⟨rfl, trivial⟩ trivial ⟨rfl, trivial⟩ ?_
    refine R1 d_assign rfl ?_
    refine RE (d_assignS (fun _ h => h) (rW_all rfl) rfl) ⟨rfl, trivial⟩ ⟨rfl, trivial⟩ trivial ?_
    refine R_nil (by kernel_rfl) ?_
    refine K_then ?_
    refine C_ret ?_
    refine K_retT ?_
    exact E_ret2 Plain.mk' rfl rfl rfl (leNil (by rw [Nat.div_eq_of_lt hab, dig_zero])) (Le.of (by rw [Nat.mod_eq_of_lt hab]))
  ·
    have hab : b ≤ a := by
      have := mt cmpN_neg.2 h185
      omega
    have hlab := dig_len_mono two_le_W hab
    have hlb := len_pos two_le_W hb
    refine C_skip ?_
    refine K_then ?_
    refine C_seq ?_
    refine C_seq ?_
    refine C_reg ?_
    refine R1 d_move rfl ?_
    refine R1 (d_len Tryz.underlying133) rfl ?_
    refine R2 d_eql rfl rfl ?_
    refine R_nil (by kernel_rfl) ?_
    refine K_then ?_
    refine C_if rfl (fun h188 => ?_) (fun h188 => ?_)
    ·
      have hb0 := one_word (b := b) (by omega)
      have hbW := (dig_Dig two_le_W b).getD (by decide) 0
      refine C_seq ?_
      refine C_reg ?_
      refine R1 d_move rfl ?_
      refine R1 d_move rfl ?_
      refine R2 (d_indexP sl133 (0) (by omega) (gN (by omega))) rfl rfl ?_
      refine R1 (d_loadP ti186) rfl ?_
      refine RE (d_call (c_divideShort _ _ (by omega) (by omega) (by omega)) fi232 rfl) ⟨rfl, rfl, trivial⟩ trivial trivial ?_
      refine R1 d_move rfl ?_
      refine R1 (d_extract rfl) rfl ?_
      refine R1 (d_extract rfl) rfl ?_
      refine R1 d_assign rfl ?_
      refine R1 d_assign rfl ?_
      refine R_nil (by kernel_rfl) ?_
      refine K_then ?_
      refine C_seq ?_
      refine C_reg ?_
      refine R1 d_move rfl ?_
      refine R1 d_move rfl ?_
      refine R1 (d_nums (n := 1) [a % (dig 4294967296 b).getD 0 0] Tryz.underlying133 el186 zf186 rfl rfl rfl) rfl ?_
      refine RE (d_call (c_trim _) fi184 rfl) ⟨rfl, trivial⟩ trivial trivial ?_
      refine R1 d_assign rfl ?_
      refine R1 d_assign rfl ?_
      refine R_nil (by kernel_rfl) ?_
      refine K_then ?_
      refine C_ret ?_
      refine K_retT ?_
      exact E_ret2 Plain.mk' rfl rfl rfl (Le.of (by rw [hb0])) (Le.of (by rw [hb0, trim1 (Nat.lt_trans (Nat.mod_lt _ hb) (hb0 ▸ hbW))]))
    ·
      obtain ⟨m, hm⟩ : ∃ m, (dig 4294967296 b).length = m + 2 := ⟨(dig 4294967296 b).length - 2, by omega⟩
      have ht := (dig_Dig two_le_W b).getD (by decide) (m + 1)
      refine C_skip ?_
      refine K_then ?_
      refine C_seq ?_
      refine C_reg ?_
      refine R1 d_move rfl ?_
      refine R1 (d_len Tryz.underlying133) rfl ?_
      refine R1 d_assign rfl ?_
      refine R_nil (by kernel_rfl) ?_
      refine K_then ?_
      refine C_seq ?_
      refine C_reg ?_
      refine R1 d_move rfl ?_
      refine R1 d_move rfl ?_
      refine R2 (d_sub (by first | exact wr64 (by omega) (by omega))) rfl rfl ?_
      refine R2 (d_indexP sl133 (m + 1) (by omega) (gN (by omega))) rfl rfl ?_
      refine R1 (d_loadP ti186) rfl ?_
      refine RE (d_call (c_LeadingZeros32 _ (by omega)) fi233 rfl) ⟨rfl, trivial⟩ trivial trivial ?_
      refine R1 d_assign rfl ?_
      refine R_nil (by kernel_rfl) ?_
      refine K_then ?_
      refine C_seq ?_
      refine C_reg ?_
      refine R1 d_move rfl ?_
      refine R1 d_move rfl ?_
      generalize hs : 32 - Lib.bitLen ((dig 4294967296 b).getD (m + 1) 0) = s
      obtain ⟨hs31, hBW, hBt, hb1, hB2⟩ := norm hm hs
      have hB0 : 0 < b * 2 ^ s := Nat.mul_pos hb (Nat.pow_pos (by decide))
      refine RE (d_callGX (fun _ => 46) (c_shifted _ _ (by omega) (by omega)) fi234 rfl (krN (ρ := fun _ => 46)) (krC (ρ := fun _ => 46) (k := 12) ren_rW (krN (ρ := fun _ => 46))) ⟨⟨rfl, sup_rW⟩, trivial⟩ rfl) ⟨rfl, rfl, trivial⟩ trivial ⟨rfl, trivial⟩ ?_
      refine R1 d_move rfl ?_
      refine R2 (d_sliceOTo sl133 (m + 2) (by omega) (by omega) rfl) rfl rfl ?_
      refine RE (d_assignS (xs := (dgs 4294967296 (m + 2) (b * 2 ^ s))) (fun _ h => h) (by rw [rW_take, take_dgs (by omega)]) (dgs_length _ _ _)) ⟨rfl, trivial⟩ ⟨rfl, trivial⟩ trivial ?_
      refine R_nil (by kernel_rfl) ?_
      refine K_then ?_
      refine C_seq ?_
      refine C_reg ?_
      refine R1 d_move rfl ?_
      refine R1 d_move rfl ?_
      refine RE (d_callGX (fun _ => 51) (c_shifted _ _ (by omega) (by omega)) fi234 rfl (krN (ρ := fun _ => 51)) (krC (ρ := fun _ => 51) (k := 12) ren_rW (krN (ρ := fun _ => 51))) ⟨⟨rfl, sup_rW⟩, trivial⟩ rfl) ⟨rfl, rfl, trivial⟩ trivial ⟨rfl, trivial⟩ ?_
      refine R1 d_assign rfl ?_
      refine R_nil (by kernel_rfl) ?_
      refine K_then ?_
      refine C_seq ?_
      refine C_reg ?_
      refine R1 d_move rfl ?_
      refine R1 (d_len Tryz.underlying133) rfl ?_
      refine R1 d_move rfl ?_
      refine R2 (d_sub (by first | exact wr64 (by omega) (by omega))) rfl rfl ?_
      refine R2 (d_add (by first | exact wr64 (by omega) (by omega))) rfl rfl ?_
      refine RE (d_makeO (k := 57) (t := tE (.int .u32 0)) (ts := rW .u32 (List.replicate (((dig 4294967296 a).length - (dig 4294967296 b).length + 1)) 0)) (((dig 4294967296 a).length - (dig 4294967296 b).length + 1)) (((dig 4294967296 a).length - (dig 4294967296 b).length + 1)) Tryz.underlying133 el186 (fun _ _ => rfl) rfl (by omega) (by omega) (Nat.le_refl _) (by omega) (by omega) (rW_rep _)) ⟨rfl, rfl, trivial⟩ trivial ⟨rfl, trivial⟩ ?_
      refine R1 d_assign rfl ?_
      refine R_nil (by kernel_rfl) ?_
      refine K_then ?_
      refine C_seq ?_
      refine C_seq ?_
      refine C_reg ?_
      refine R1 d_move rfl ?_
      refine R1 (d_lenO Tryz.underlying133) rfl ?_
      refine R2 (d_sub (by first | exact wr64 (by omega) (by omega))) rfl rfl ?_
      refine R1 d_assign rfl ?_
      refine R_nil (by kernel_rfl) ?_
      refine K_then ?_
      refine C_block ?_
      have hA0 := div_init (n := (dig 4294967296 a).length) hs31 (lt_len two_le_W a) (by omega) hB2
      rw [← hm] at hA0
      refine C_loop (fun (fm : (Nat) × (List Nat)) => (fun (k : Nat) (qs : List Nat) => k ≤ ((dig 4294967296 a).length - (dig 4294967296 b).length + 1) ∧ qs.length = ((dig 4294967296 a).length - (dig 4294967296 b).length + 1) ∧ Dig 4294967296 qs ∧ val 4294967296 (qs.drop k) = (a * 2 ^ s) / (4294967296 ^ k * (b * 2 ^ s))) fm.1 fm.2) (fun (fm : (Nat) × (List Nat)) => (fun (k : Nat) (qs : List Nat) => upd (upd (upd (upd (upd (upd (fun _ => none) 8 (some (.val (tI (dig 4294967296 b).length)))) 9 (some (.val (tI s)))) 10 (some (.val (tWs (dgs 4294967296 (m + 2) (b * 2 ^ s)))))) 11 (some (.own (.sl 51 1 0 ((dig 4294967296 a).length + 1))))) 12 (some (.own (.sl 57 1 0 ((dig 4294967296 a).length - (dig 4294967296 b).length + 1))))) 13 (some (.val (tI ((k : Int) - 1))))) fm.1 fm.2) (fun (fm : (Nat) × (List Nat)) => (fun (k : Nat) (qs : List Nat) => upd (upd (fun _ => none) 51 (some (⟨186, 1, false, rW .u32 (dgs 4294967296 ((dig 4294967296 a).length + 1) ((a * 2 ^ s) % (4294967296 ^ k * (b * 2 ^ s))))⟩))) 57 (some (⟨186, 1, false, rW .u32 qs⟩))) fm.1 fm.2) (nm [51, 57]) (fun (fm : (Nat) × (List Nat)) => (fun (k : Nat) (qs : List Nat) => k) fm.1 fm.2) ((((dig 4294967296 a).length - (dig 4294967296 b).length + 1), List.replicate ((dig 4294967296 a).length - (dig 4294967296 b).length + 1) 0)) (by dsimp only; exact ⟨Nat.le_refl _, by simp, Dig.rep (by decide) _, by rw [List.drop_replicate, val_replicate_zero]; exact (Nat.div_eq_of_lt hA0).symm⟩) (Sub.int rfl (by first | omega | rfl | (dsimp only; omega)) (Sub.cons rfl (Sub.cons rfl (Sub.cons rfl (Sub.int rfl (by first | omega | rfl | (dsimp only; omega)) (Sub.int rfl (by first | omega | rfl | (dsimp only; omega)) Sub.nil)))))) ((SubK.consI rfl ImpK.refl) ((SubK.consI rfl (ImpK.ofTs (by dsimp only; rw [Nat.mod_eq_of_lt hA0]))) SubK.nil)) (SupG.val (SupG.own rfl (SupG.own rfl (SupG.val (SupG.val (SupG.val SupG.nil)))))) (SupH.cons rfl (supJ sup_rW) (SupH.cons rfl (supJ sup_rW) SupH.nil)) (lkOk rfl) ?_
      intro fm hI
      obtain ⟨k, qs⟩ := fm
      replace hI : k ≤ ((dig 4294967296 a).length - (dig 4294967296 b).length + 1) ∧ qs.length = ((dig 4294967296 a).length - (dig 4294967296 b).length + 1) ∧ Dig 4294967296 qs ∧ val 4294967296 (qs.drop k) = (a * 2 ^ s) / (4294967296 ^ k * (b * 2 ^ s)) := hI
      show wc _ _ _ _ (upd (upd (upd (upd (upd (upd (fun _ => none) 8 (some (.val (tI (dig 4294967296 b).length)))) 9 (some (.val (tI s)))) 10 (some (.val (tWs (dgs 4294967296 (m + 2) (b * 2 ^ s)))))) 11 (some (.own (.sl 51 1 0 ((dig 4294967296 a).length + 1))))) 12 (some (.own (.sl 57 1 0 ((dig 4294967296 a).length - (dig 4294967296 b).length + 1))))) 13 (some (.val (tI ((k : Int) - 1))))) (upd (upd (fun _ => none) 51 (some (⟨186, 1, false, rW .u32 (dgs 4294967296 ((dig 4294967296 a).length + 1) ((a * 2 ^ s) % (4294967296 ^ k * (b * 2 ^ s))))⟩))) 57 (some (⟨186, 1, false, rW .u32 qs⟩))) _
      obtain ⟨hk, hl, hD, hv⟩ := hI
      refine C_seq ?_
      refine C_seq ?_
      refine C_reg ?_
      refine R1 d_move rfl ?_
      refine R2 d_geq rfl rfl ?_
      refine R_nil (by kernel_rfl) ?_
      refine K_then ?_
      refine C_if rfl (fun h197 => ?_) (fun h197 => ?_)
      ·
        obtain ⟨j, rfl⟩ : ∃ j, k = j + 1 := ⟨k - 1, by omega⟩
        refine C_key (k := 51) rfl (congrArg (fun z => HEnt.mk 186 1 false (rW .u32 z)) (row_cut (m := m) (k := j) (by omega))) ?_
        refine C_skip ?_
        refine K_then ?_
        refine C_seq ?_
        refine C_block ?_
        refine C_reg ?_
        refine R1 d_move rfl ?_
        refine R1 d_move rfl ?_
        refine R1 d_move rfl ?_
        refine R1 d_move rfl ?_
        refine R1 d_move rfl ?_
        refine R1 d_move rfl ?_
        refine R2 (d_add (by first | exact wr64 (by omega) (by omega))) rfl rfl ?_
        refine R2 (d_add (by first | exact wr64 (by omega) (by omega))) rfl rfl ?_
        refine R3 (d_sliceOFT (off' := (dgs 4294967296 j ((a * 2 ^ s) % (4294967296 ^ (j + 1) * (b * 2 ^ s)))).length) (len' := m + 3) sl133 j (j + (m + 3)) (by omega) (by omega) (by omega) (by omega) (by rw [dgs_length]; omega) (by omega)) rfl rfl rfl ?_
        refine R1 d_move rfl ?_
        refine RE (d_callGX (fun _ => 51) (c_divideStep _ _ _ _ m (two_of hBW hBt hB0) (by omega)) fi235 rfl (krC (ρ := fun _ => 51) (k := 9) ren_rW (krN (ρ := fun _ => 51))) (krC (ρ := fun _ => 51) (k := 9) ren_rW (krN (ρ := fun _ => 51))) ⟨⟨rfl, sup_rW⟩, trivial⟩ rfl) ⟨rfl, rfl, trivial⟩ ⟨rfl, trivial⟩ trivial ?_
        refine R2 (d_indexO sl133 (by omega) (by omega) rfl) rfl rfl ?_
        refine RE (d_store (j) ti186 (rW_lt (by omega)) (by omega) (rW_set (m := _) rfl)) ⟨rfl, rfl, trivial⟩ ⟨rfl, trivial⟩ trivial ?_
        refine R_nil (by kernel_rfl) ?_
        refine K_norB ?_
        refine K_then ?_
        refine C_reg ?_
        refine R1 d_move rfl ?_
        refine R2 (d_sub (by first | exact wr64 (by omega) (by omega))) rfl rfl ?_
        refine R1 d_assign rfl ?_
        refine R_nil (by kernel_rfl) ?_
        obtain ⟨n1, n2, n3⟩ := q_in hBW hBt hB0 (by omega) hl hD hv rfl
        exact K_fam ((j, qs.set j (val 4294967296 (dgs 4294967296 (m + 3) (((a * 2 ^ s) % (4294967296 ^ (j + 1) * (b * 2 ^ s))) / 4294967296 ^ j)) / val 4294967296 (dgs 4294967296 (m + 2) (b * 2 ^ s))))) ⟨(by dsimp only; exact ⟨by omega, n1, n2, n3⟩), (by dsimp only; omega)⟩ (Sub.int rfl (by first | omega | rfl | (dsimp only; omega)) (Sub.cons rfl (Sub.cons rfl (Sub.cons rfl (Sub.int rfl (by first | omega | rfl | (dsimp only; omega)) (Sub.int rfl (by first | omega | rfl | (dsimp only; omega)) Sub.nil)))))) ((SubK.consI rfl ImpK.refl) ((SubK.consI rfl (ImpK.ofTs (by dsimp only; exact congrArg (rW .u32) (row_join (by omega) hBW hB0)))) SubK.nil)) (SupG.val (SupG.own rfl (SupG.own rfl (SupG.val (SupG.val (SupG.val SupG.nil)))))) (SupH.cons rfl (supJ sup_rW) (SupH.cons rfl (supJ sup_rW) SupH.nil)) (lkOk rfl)
      ·
        have hk0 : k = 0 := by omega
        subst hk0
        have hR : ((a * 2 ^ s) % (4294967296 ^ 0 * (b * 2 ^ s))) = a % b * 2 ^ s := by rw [Nat.pow_zero, Nat.one_mul, Nat.mul_mod_mul_right]
        have hQ : val 4294967296 qs = a / b := by
          rw [List.drop_zero, Nat.pow_zero, Nat.one_mul, Nat.mul_div_mul_right _ _ (Nat.pow_pos (by decide))] at hv
          exact hv
        refine C_exit ?_
        refine K_exT ?_
        refine K_exT ?_
        refine K_exB ?_
        refine K_then ?_
        refine C_seq ?_
        refine C_seq ?_
        refine C_reg ?_
        refine R1 d_move rfl ?_
        refine R1 d_move rfl ?_
        refine R_nil (by kernel_rfl) ?_
        refine K_then ?_
        refine C_block ?_
        refine C_loop (fun (fm : (Nat) × (List Nat)) => (fun (i : Nat) (us : List Nat) => i ≤ m + 2 ∧ us.length = (dig 4294967296 a).length + 1 ∧ Dig 4294967296 us ∧ us.drop i = (dgs 4294967296 ((dig 4294967296 a).length + 1) (a % b * 2 ^ s)).drop i ∧ us.take i = dgs 4294967296 i (a % b)) fm.1 fm.2) (fun (fm : (Nat) × (List Nat)) => (fun (i : Nat) (us : List Nat) => upd (upd (upd (upd (upd (upd (fun _ => none) 8 (some (.val (tI (dig 4294967296 b).length)))) 9 (some (.val (tI s)))) 11 (some (.own (.sl 51 1 0 ((dig 4294967296 a).length + 1))))) 12 (some (.own (.sl 57 1 0 ((dig 4294967296 a).length - (dig 4294967296 b).length + 1))))) 77 (some (.val (tI (dig 4294967296 b).length)))) 78 (some (.val (tI i)))) fm.1 fm.2) (fun (fm : (Nat) × (List Nat)) => (fun (i : Nat) (us : List Nat) => upd (upd (fun _ => none) 51 (some (⟨186, 1, false, rW .u32 us⟩))) 57 (some (⟨186, 1, false, rW .u32 qs⟩))) fm.1 fm.2) (nm [51, 57]) (fun (fm : (Nat) × (List Nat)) => (fun (i : Nat) (us : List Nat) => m + 2 - i) fm.1 fm.2) ((0, dgs 4294967296 ((dig 4294967296 a).length + 1) ((a * 2 ^ s) % (4294967296 ^ 0 * (b * 2 ^ s))))) (by dsimp only; exact ⟨Nat.zero_le _, dgs_length _ _ _, dgs_Dig (by decide) _ _, by rw [hR], rfl⟩) (Sub.int rfl (by first | omega | rfl | (dsimp only; omega)) (Sub.int rfl (by first | omega | rfl | (dsimp only; omega)) (Sub.cons rfl (Sub.cons rfl (Sub.int rfl (by first | omega | rfl | (dsimp only; omega)) (Sub.int rfl (by first | omega | rfl | (dsimp only; omega)) Sub.nil)))))) ((SubK.consI rfl ImpK.refl) ((SubK.consI rfl ImpK.refl) SubK.nil)) (SupG.val (SupG.val (SupG.own rfl (SupG.own rfl (SupG.val (SupG.val SupG.nil)))))) (SupH.cons rfl (supJ sup_rW) (SupH.cons rfl (supJ sup_rW) SupH.nil)) (lkOk rfl) ?_
        intro fm hJ
        obtain ⟨i, us⟩ := fm
        replace hJ : i ≤ m + 2 ∧ us.length = (dig 4294967296 a).length + 1 ∧ Dig 4294967296 us ∧ us.drop i = (dgs 4294967296 ((dig 4294967296 a).length + 1) (a % b * 2 ^ s)).drop i ∧ us.take i = dgs 4294967296 i (a % b) := hJ
        show wc _ _ _ _ (upd (upd (upd (upd (upd (upd (fun _ => none) 8 (some (.val (tI (dig 4294967296 b).length)))) 9 (some (.val (tI s)))) 11 (some (.own (.sl 51 1 0 ((dig 4294967296 a).length + 1))))) 12 (some (.own (.sl 57 1 0 ((dig 4294967296 a).length - (dig 4294967296 b).length + 1))))) 77 (some (.val (tI (dig 4294967296 b).length)))) 78 (some (.val (tI i)))) (upd (upd (fun _ => none) 51 (some (⟨186, 1, false, rW .u32 us⟩))) 57 (some (⟨186, 1, false, rW .u32 qs⟩))) _
        obtain ⟨hi, ul, uD, udr, ut⟩ := hJ
        have hu0 := uD.getD (by decide) i
        have hu1 := uD.getD (by decide) (i + 1)
        refine C_seq ?_
        refine C_reg ?_
        refine R2 d_lss rfl rfl ?_
        refine R_nil (by kernel_rfl) ?_
        refine K_then ?_
        refine C_seq ?_
        refine C_if rfl (fun h200 => ?_) (fun h200 => ?_)
        ·
          refine C_skip ?_
          refine K_then ?_
          refine C_seq ?_
          refine C_block ?_
          refine C_seq ?_
          refine C_reg ?_
          refine R1 d_move rfl ?_
          refine R1 d_assign rfl ?_
          refine R_nil (by kernel_rfl) ?_
          refine K_then ?_
          refine C_draw mixed ?_
          refine R1 d_move rfl ?_
          refine R1 d_move rfl ?_
          refine R1 d_move rfl ?_
          refine R1 d_move rfl ?_
          refine R2 (d_add (by first | exact wr64 (by omega) (by omega))) rfl rfl ?_
          refine R2 (d_indexO sl133 (by omega) (by omega) rfl) rfl rfl ?_
          refine RE (d_load (i + 1) ti186 (rW_get (by omega)) (by omega)) ⟨rfl, trivial⟩ ⟨rfl, trivial⟩ trivial ?_
          refine R1 (d_convert Tryz.underlying121 (isS Tryz.underlying186) (by first | exact wu64 (by omega) (by omega) | exact mu64)) rfl ?_
          refine R2 (d_shl (by decide) (shl32 (by omega))) rfl rfl ?_
          refine R1 d_move rfl ?_
          refine R1 d_move rfl ?_
          refine R2 (d_indexO sl133 (by omega) (by omega) rfl) rfl rfl ?_
          refine RE (d_load (i) ti186 (rW_get (by omega)) (by omega)) ⟨rfl, trivial⟩ ⟨rfl, trivial⟩ trivial ?_
          refine R1 (d_convert Tryz.underlying121 (isS Tryz.underlying186) (by first | exact wu64 (by omega) (by omega) | exact mu64)) rfl ?_
          refine R2 (d_or (or32 (by omega) (by omega))) rfl rfl ?_
          refine R1 d_move rfl ?_
          refine R2 (d_shr (by omega) (shrN (s := s) rfl (by show s ≤ 64; omega))) rfl rfl ?_
          refine R1 (d_convert Tryz.underlying186 (isS Tryz.underlying121) cut32) rfl ?_
          refine R2 (d_indexO sl133 (by omega) (by omega) rfl) rfl rfl ?_
          refine RE (d_store (i) ti186 (rW_lt (by omega)) (by omega) (rW_set (m := _) rfl)) ⟨rfl, rfl, trivial⟩ ⟨rfl, trivial⟩ trivial ?_
          refine R_end (by kernel_rfl) ?_
          refine K_norB ?_
          refine K_then ?_
          refine C_reg ?_
          refine R2 (d_add (by first | exact wr64 (by omega) (by omega))) rfl rfl ?_
          refine R1 d_move rfl ?_
          refine R_nil (by kernel_rfl) ?_
          obtain ⟨n1, n2, n3, n4⟩ := back_in (m := m + 2) hs31 (by omega) (by omega) ul uD udr ut
          exact K_fam ((i + 1, us.set i ((us.getD i 0 + us.getD (i + 1) 0 * 2 ^ 32) / 2 ^ s % 4294967296))) ⟨(by dsimp only; exact ⟨by omega, n1, n2, n3, n4⟩), (by dsimp only; omega)⟩ (Sub.int rfl (by first | omega | rfl | (dsimp only; omega)) (Sub.int rfl (by first | omega | rfl | (dsimp only; omega)) (Sub.cons rfl (Sub.cons rfl (Sub.int rfl (by first | omega | rfl | (dsimp only; omega)) (Sub.int rfl (by first | omega | rfl | (dsimp only; omega)) Sub.nil)))))) ((SubK.consI rfl ImpK.refl) ((SubK.consI rfl ImpK.refl) SubK.nil)) (SupG.val (SupG.val (SupG.own rfl (SupG.own rfl (SupG.val (SupG.val SupG.nil)))))) (SupH.cons rfl (supJ sup_rW) (SupH.cons rfl (supJ sup_rW) SupH.nil)) (lkOk rfl)
        ·
          refine C_exit ?_
          refine K_exT ?_
          refine K_exT ?_
          refine K_exB ?_
          refine K_then ?_
          refine C_seq ?_
          refine C_draw mixed ?_
          refine RE (d_moveS (fun _ h => h) (rW_all hl) hl) ⟨rfl, trivial⟩ ⟨rfl, trivial⟩ trivial ?_
          refine RE (d_call (c_trim _) fi184 rfl) ⟨rfl, trivial⟩ trivial trivial ?_
          refine R1 d_move rfl ?_
          refine R1 d_move rfl ?_
          refine RE (Does.giveL (k := 51) (es := 1) (off := 0) (len := m + 2) (xs := us.take (m + 2)) (f := fun n : Nat => tE (.int .u32 n)) (ts := rW .u32 us) (d_sliceOTo sl133 (m + 2) (by omega) (by omega) rfl) (fun _ h => h) rW_take (by rw [List.length_take]; omega)) ⟨rfl, rfl, trivial⟩ ⟨rfl, trivial⟩ trivial ?_
          refine RE (d_call (c_trim _) fi184 rfl) ⟨rfl, trivial⟩ trivial trivial ?_
          refine R1 d_assign rfl ?_
          refine R1 d_assign rfl ?_
          refine R_end (by kernel_rfl) ?_
          refine K_then ?_
          refine C_ret ?_
          exact E_ret2 Plain.mk' rfl rfl rfl (Le.of (by rw [trimL_eq_dig two_le_W hD, hQ])) (Le.of (by rw [show m + 2 = i by omega, ut, dgs_trim two_le_W (Nat.lt_trans (Nat.mod_lt _ hb) (by rw [show i = (dig 4294967296 b).length by omega]; exact lt_len two_le_W b))]))
end An.S

/- The first bits of a number; differences of products. Plain numbers. -/
namespace An
open Go
theorem head_eq (a k s : Nat) (hs : s ≤ 31) : a * 2 ^ s / W ^ (k + 1) = a / W ^ k % W / 2 ^ (32 - s) + a / W ^ (k + 1) * 2 ^ s := by
  have hp : 0 < 2 ^ s := Nat.pow_pos (by omega)
  have hq : 0 < 2 ^ (32 - s) := Nat.pow_pos (by omega)
  have e1 : W ^ (k + 1) = W ^ k * 2 ^ (32 - s) * 2 ^ s := by
    rw [Nat.mul_assoc, ← Nat.pow_add, show 32 - s + s = 32 by omega, Nat.pow_succ]
  have e2 : a / W ^ k = a / W ^ k % W + 2 ^ (32 - s) * (a / W ^ (k + 1) * 2 ^ s) := by
    have h := Nat.div_add_mod (a / W ^ k) W
    have e4 : a / W ^ k / W = a / W ^ (k + 1) := by rw [Nat.div_div_eq_div_mul, ← Nat.pow_succ]
    rw [e4] at h
    have e5 : W = 2 ^ (32 - s) * 2 ^ s := by rw [← Nat.pow_add, show 32 - s + s = 32 by omega]
    have e3 : 2 ^ (32 - s) * (a / W ^ (k + 1) * 2 ^ s) = W * (a / W ^ (k + 1)) := by
      generalize a / W ^ (k + 1) = z
      rw [e5]; ac_rfl
    rw [e3, Nat.add_comm]; exact h.symm
  conv => lhs; rw [e1, Nat.mul_div_mul_right _ _ hp, ← Nat.div_div_eq_div_mul, e2, Nat.add_mul_div_left _ _ hq]
theorem head_top {a k : Nat} (h : a < W ^ (k + 3)) : a / W ^ (k + 1) = a / W ^ (k + 1) % W + a / W ^ (k + 2) % W * 2 ^ 32 := by
  have h1 := Nat.div_add_mod (a / W ^ (k + 1)) W
  have e : a / W ^ (k + 1) / W = a / W ^ (k + 2) := by rw [Nat.div_div_eq_div_mul, ← Nat.pow_succ]
  rw [e] at h1
  have h2 : a / W ^ (k + 2) < W := Nat.div_lt_of_lt_mul (by rwa [Nat.pow_succ] at h)
  rw [Nat.mod_eq_of_lt h2, Nat.mul_comm (a / W ^ (k + 2))]
  show _ = _ + W * _
  omega
theorem head_lt {a n s : Nat} (hn : 2 ≤ n) (h : a * 2 ^ s < W ^ n) : a * 2 ^ s / W ^ (n - 2) < 18446744073709551616 := by
  refine Nat.div_lt_of_lt_mul ?_
  have e : W ^ n = W ^ (n - 2) * 18446744073709551616 := by
    rw [show (18446744073709551616 : Nat) = W ^ 2 by decide, ← Nat.pow_add]; congr 1; omega
  rwa [e] at h
/-- A step of a difference. -/
theorem diff_step {B u v a b T br x y i d X Y br' : Nat} (_hB : 0 < B) (h : T + v * (b % B ^ i) + x * B ^ i = u * (a % B ^ i) + y * B ^ i + br * B ^ i) (hX : X = x + u * (a / B ^ i % B)) (hY : Y = y + v * (b / B ^ i % B)) (hd : d + Y % B + br = X % B + B * br') :
    T + B ^ i * d + v * (b % B ^ (i + 1)) + X / B * B ^ (i + 1) = u * (a % B ^ (i + 1)) + Y / B * B ^ (i + 1) + br' * B ^ (i + 1) := by
  have h1 := Nat.div_add_mod X B
  have h2 := Nat.div_add_mod Y B
  rw [mod_step, mod_step, Nat.pow_succ]
  generalize a / B ^ i % B = ai at *
  generalize b / B ^ i % B = bi at *
  generalize B ^ i = P at *
  generalize a % P = al at *
  generalize b % P = bl at *
  generalize X / B = xq at *
  generalize X % B = xr at *
  generalize Y / B = yq at *
  generalize Y % B = yr at *
  grind
theorem carry_step {B u a x i : Nat} (hB : 0 < B) (hx : x = u * (a % B ^ i) / B ^ i) : (x + u * (a / B ^ i % B)) / B = u * (a % B ^ (i + 1)) / B ^ (i + 1) := by
  have hp : 0 < B ^ i := Nat.pow_pos hB
  rw [Nat.pow_succ, ← Nat.div_div_eq_div_mul, ← Nat.pow_succ, mod_step, Nat.mul_add, ← Nat.mul_assoc, Nat.mul_comm u (B ^ i), Nat.mul_assoc, Nat.add_mul_div_left _ _ hp, ← hx]
theorem carry_lt {u a x i : Nat} (hu : u < 4294967296) (hx : x = u * (a % W ^ i) / W ^ i) : x < 4294967296 := by
  have hp : 0 < W ^ i := Nat.pow_pos (by decide)
  rw [hx]
  refine Nat.div_lt_of_lt_mul ?_
  have h1 : a % W ^ i < W ^ i := Nat.mod_lt _ hp
  have h2 : u * (a % W ^ i) ≤ 4294967295 * (a % W ^ i) := Nat.mul_le_mul_right _ (by omega)
  omega
theorem diff_in {u v a b n i x y br : Nat} {ws : List Nat} (hi : i < n) (hl : ws.length = n) (hD : Dig W ws) (hx : x = u * (a % W ^ i) / W ^ i) (hy : y = v * (b % W ^ i) / W ^ i)
    (h : val W (ws.take i) + v * (b % W ^ i) + x * W ^ i = u * (a % W ^ i) + y * W ^ i + br * W ^ i) {X Y d br' : Nat} (hX : X = x + u * (a / W ^ i % W)) (hY : Y = y + v * (b / W ^ i % W)) (hd : d + Y % W + br = X % W + W * br') (hdW : d < W) :
    (ws.set i d).length = n ∧ Dig W (ws.set i d) ∧ X / W = u * (a % W ^ (i + 1)) / W ^ (i + 1) ∧ Y / W = v * (b % W ^ (i + 1)) / W ^ (i + 1) ∧
      val W ((ws.set i d).take (i + 1)) + v * (b % W ^ (i + 1)) + X / W * W ^ (i + 1) = u * (a % W ^ (i + 1)) + Y / W * W ^ (i + 1) + br' * W ^ (i + 1) := by
  refine ⟨by simpa using hl, hD.set hdW, by rw [hX]; exact carry_step (by decide) hx, by rw [hY]; exact carry_step (by decide) hy, ?_⟩
  rw [val_take_set (by omega)]
  exact diff_step (by decide) h hX hY hd
theorem diff_end {u v a b n x y br : Nat} {ws : List Nat} (hl : ws.length = n + 1) (hD : Dig W ws) (ha : a < W ^ n) (hb : b < W ^ n) (hu : u < 4294967296) (hv : v < 4294967296) (hx : x = u * (a % W ^ (n + 1)) / W ^ (n + 1)) (hy : y = v * (b % W ^ (n + 1)) / W ^ (n + 1))
    (h : val W (ws.take (n + 1)) + v * (b % W ^ (n + 1)) + x * W ^ (n + 1) = u * (a % W ^ (n + 1)) + y * W ^ (n + 1) + br * W ^ (n + 1)) (hle : v * b ≤ u * a) : trimL ws = dig W (u * a - v * b) := by
  have hp : 0 < W ^ n := Nat.pow_pos (by decide)
  have e : W ^ (n + 1) = W ^ n * 4294967296 := Nat.pow_succ ..
  have l1 : ∀ c w : Nat, c < W ^ n → w < 4294967296 → w * c < W ^ (n + 1) := fun c w hc hw => by
    rw [e, Nat.mul_comm]
    have h1 : c * w ≤ c * 4294967296 := Nat.mul_le_mul_left _ (by omega)
    have h2 : c * 4294967296 < W ^ n * 4294967296 := Nat.mul_lt_mul_of_pos_right hc (by decide)
    omega
  have ha1 := l1 a u ha hu
  have hb1 := l1 b v hb hv
  have ha2 : a < W ^ (n + 1) := by rw [e]; omega
  have hb2 : b < W ^ (n + 1) := by rw [e]; omega
  rw [Nat.mod_eq_of_lt ha2, Nat.mod_eq_of_lt hb2, ← hl, List.take_length, hl] at h
  rw [Nat.mod_eq_of_lt ha2, Nat.div_eq_of_lt ha1] at hx
  rw [Nat.mod_eq_of_lt hb2, Nat.div_eq_of_lt hb1] at hy
  subst hx; subst hy
  have hz := val_lt hD
  rw [hl] at hz
  rw [trimL_eq_dig two_le_W hD]
  congr 1
  rcases Nat.eq_zero_or_pos br with h0 | h0
  · subst h0; show val W ws = _; omega
  · have : W ^ (n + 1) ≤ br * W ^ (n + 1) := Nat.le_mul_of_pos_left _ h0
    omega
end An

/- Package whole: short values, the first bits, differences. -/
namespace An.S
open Go Go.Proofs An
theorem ti46 : TyI Tryz.prog 46 1 false := ⟨by kernel_rfl, by kernel_rfl⟩
theorem fi247 : FnI Tryz.prog 247 := ⟨_, Tryz.func247, by kernel_rfl, rfl⟩
theorem fi251 : FnI Tryz.prog 251 := ⟨_, Tryz.func251, by kernel_rfl, rfl⟩
theorem fi252 : FnI Tryz.prog 252 := ⟨_, Tryz.func252, by kernel_rfl, rfl⟩
theorem c_down32 (xs : List Nat) :
    CtG Tryz.prog 247 [] [.val (tL 1 false (fun n : Nat => tE (.int .u32 n)) xs)] (.own (.fn 252 [.ptr 1 0])) [(1, ⟨133, 1, false, [.val (tL 1 false (fun n : Nat => tE (.int .u32 n)) xs)]⟩)] [1] := by
  refine CtG.intro [] Tryz.func247 rfl Tryz.ntmps247 rfl rfl trivial ?_
  intro w F η
  refine C_seq ?_
  refine C_reg ?_
  refine RE (d_box (k := 1) ti133 rfl) ⟨rfl, trivial⟩ trivial ⟨rfl, trivial⟩ ?_
  refine R1 d_assign rfl ?_
  refine R_nil (by kernel_rfl) ?_
  refine K_then ?_
  refine C_seq ?_
  refine C_reg ?_
  refine R1 (d_makeFunc (ps := [.ptr 1 0]) rfl) rfl ?_
  refine R1 d_assign rfl ?_
  refine R_nil (by kernel_rfl) ?_
  refine K_then ?_
  refine C_ret ?_
  exact E_retG1 LentC.mk' rfl rfl Imp.refl ⟨rfl, trivial⟩ rfl ⟨⟨rfl, (SupX.lit rfl)⟩, trivial⟩ rfl
theorem i_down32 (xs : List Nat) (hx : xs.length ≤ 1000000) :
    ItC Tryz.prog 252 [(1, ⟨133, 1, false, [.val (tL 1 false (fun n : Nat => tE (.int .u32 n)) xs)]⟩)] [.ptr 1 0] (xs.length) (fun k => [tE (.int .u32 ((xs.getD (xs.length - 1 - k) 0 : Nat) : Int))]) := by
  refine ItC.intro (K := 99) [1] Tryz.func252 rfl Tryz.ntmps252 rfl rfl ⟨⟨rfl, (SupX.lit rfl)⟩, trivial⟩ rfl ?_
  intro w F η l V J Jc hB
  refine C_seq ?_
  refine C_reg ?_
  refine RE (d_load (0) ti133 rfl rfl) ⟨rfl, trivial⟩ ⟨rfl, trivial⟩ trivial ?_
  refine R1 (d_len Tryz.underlying133) rfl ?_
  refine R2 (d_sub (by first | exact wr64 (by omega) (by omega))) rfl rfl ?_
  refine R1 d_assign rfl ?_
  refine R_nil (by kernel_rfl) ?_
  refine K_then ?_
  refine C_block ?_
  refine C_loop (fun (k : Nat) => k ≤ xs.length) (fun (k : Nat) => upd (upd (upd (fun _ => none) 0 (some (.val (tE (.func (.yield l) #[] #[]))))) 1 (some (.own (.ptr 1 0)))) 3 (some (.val (tI ((xs.length : Int) - 1 - k))))) (fun (k : Nat) => upd (upd (fun _ => none) 1 (some (⟨133, 1, false, [.val (tL 1 false (fun n : Nat => tE (.int .u32 n)) xs)]⟩))) 99 (some (⟨2 * k, 1, false, []⟩))) (nm [1, 99]) (fun (k : Nat) => xs.length - k) (0) (Nat.zero_le _) (Sub.int rfl (by first | omega | rfl | (dsimp only; omega)) (Sub.cons rfl (Sub.cons rfl Sub.nil))) (SubK.cons rfl (SubK.cons rfl SubK.nil)) (SupG.val (SupG.own rfl (SupG.val SupG.nil))) (SupH.cons rfl (supJL rfl) (SupH.cons rfl (supJL rfl) SupH.nil)) (lkOk rfl) ?_
  intro k hI
  refine C_seq ?_
  refine C_seq ?_
  refine C_reg ?_
  refine R1 d_move rfl ?_
  refine R2 d_geq rfl rfl ?_
  refine R_nil (by kernel_rfl) ?_
  refine K_then ?_
  refine C_if rfl (fun h17 => ?_) (fun h17 => ?_)
  ·
    refine C_skip ?_
    refine K_then ?_
    refine C_seq ?_
    refine C_block ?_
    refine C_seq ?_
    refine C_regY ?_
    refine wl_op d_move ⟨rfl, trivial⟩ trivial trivial rfl ?_
    refine wl_op (d_load (0) ti133 rfl rfl) ⟨rfl, trivial⟩ ⟨rfl, trivial⟩ trivial rfl ?_
    refine wl_op d_move ⟨rfl, trivial⟩ trivial trivial rfl ?_
    refine wl_op (d_indexP sl133 (xs.length - 1 - k) (by omega) (gN (by omega))) ⟨rfl, rfl, trivial⟩ trivial trivial rfl ?_
    refine wl_op (d_loadP ti186) ⟨rfl, trivial⟩ trivial trivial rfl ?_
    refine wl_yield (ts := [tE (.int .u32 ((xs.getD (xs.length - 1 - k) 0 : Nat) : Int))]) hB (wanted_none rfl) rfl rfl ⟨rfl, trivial⟩ rfl rfl (by omega) ⟨Le.refl, trivial⟩ ?_ ?_
    ·
      refine wl_op d_not ⟨rfl, trivial⟩ trivial trivial rfl ?_
      refine wl_nil ?_
      refine K_then ?_
      refine C_bF rfl rfl ?_
      refine C_skip ?_
      refine K_norB ?_
      refine K_then ?_
      refine C_reg ?_
      refine R1 d_move rfl ?_
      refine R2 (d_sub (by first | exact wr64 (by omega) (by omega))) rfl rfl ?_
      refine R1 d_assign rfl ?_
      refine R_nil (by kernel_rfl) ?_
      exact K_fam (k + 1) ⟨(by omega), (by omega)⟩ (Sub.int rfl (by first | omega | rfl | (dsimp only; omega)) (Sub.cons rfl (Sub.cons rfl Sub.nil))) (SubK.cons rfl (SubK.cons rfl SubK.nil)) (SupG.val (SupG.own rfl (SupG.val SupG.nil))) (SupH.cons rfl (supJL rfl) (SupH.cons rfl (supJL rfl) SupH.nil)) (lkOk rfl)
    ·
      refine wl_op d_not ⟨rfl, trivial⟩ trivial trivial rfl ?_
      refine wl_nil ?_
      refine K_then ?_
      refine C_bT rfl rfl ?_
      refine C_ret ?_
      refine K_retB ?_
      refine K_retT ?_
      refine K_retT ?_
      refine K_retB ?_
      exact E_it hB rfl trivial rfl (.inl rfl) rfl (.inr ⟨k, by omega, rfl⟩)
  ·
    refine C_exit ?_
    refine K_exT ?_
    refine K_exT ?_
    refine K_exB ?_
    exact E_it hB rfl trivial rfl (.inr rfl) rfl (.inl (by omega))
theorem c_down16 (xs : List Nat) :
    CtG Tryz.prog 178 [] [.val (tL 1 false (fun n : Nat => tE (.int .u16 n)) xs)] (.own (.fn 226 [.ptr 1 0])) [(1, ⟨46, 1, false, [.val (tL 1 false (fun n : Nat => tE (.int .u16 n)) xs)]⟩)] [1] := by
  refine CtG.intro [] Tryz.func178 rfl Tryz.ntmps178 rfl rfl trivial ?_
  intro w F η
  refine C_seq ?_
  refine C_reg ?_
  refine RE (d_box (k := 1) ti46 rfl) ⟨rfl, trivial⟩ trivial ⟨rfl, trivial⟩ ?_
  refine R1 d_assign rfl ?_
  refine R_nil (by kernel_rfl) ?_
  refine K_then ?_
  refine C_seq ?_
  refine C_reg ?_
  refine R1 (d_makeFunc (ps := [.ptr 1 0]) rfl) rfl ?_
  refine R1 d_assign rfl ?_
  refine R_nil (by kernel_rfl) ?_
  refine K_then ?_
  refine C_ret ?_
  exact E_retG1 LentC.mk' rfl rfl Imp.refl ⟨rfl, trivial⟩ rfl ⟨⟨rfl, (SupX.lit rfl)⟩, trivial⟩ rfl
theorem i_down16 (xs : List Nat) (hx : xs.length ≤ 1000000) :
    ItC Tryz.prog 226 [(1, ⟨46, 1, false, [.val (tL 1 false (fun n : Nat => tE (.int .u16 n)) xs)]⟩)] [.ptr 1 0] (xs.length) (fun k => [tE (.int .u16 ((xs.getD (xs.length - 1 - k) 0 : Nat) : Int))]) := by
  refine ItC.intro (K := 99) [1] Tryz.func226 rfl Tryz.ntmps226 rfl rfl ⟨⟨rfl, (SupX.lit rfl)⟩, trivial⟩ rfl ?_
  intro w F η l V J Jc hB
  refine C_seq ?_
  refine C_reg ?_
  refine RE (d_load (0) ti46 rfl rfl) ⟨rfl, trivial⟩ ⟨rfl, trivial⟩ trivial ?_
  refine R1 (d_len Tryz.underlying46) rfl ?_
  refine R2 (d_sub (by first | exact wr64 (by omega) (by omega))) rfl rfl ?_
  refine R1 d_assign rfl ?_
  refine R_nil (by kernel_rfl) ?_
  refine K_then ?_
  refine C_block ?_
  refine C_loop (fun (k : Nat) => k ≤ xs.length) (fun (k : Nat) => upd (upd (upd (fun _ => none) 0 (some (.val (tE (.func (.yield l) #[] #[]))))) 1 (some (.own (.ptr 1 0)))) 3 (some (.val (tI ((xs.length : Int) - 1 - k))))) (fun (k : Nat) => upd (upd (fun _ => none) 1 (some (⟨46, 1, false, [.val (tL 1 false (fun n : Nat => tE (.int .u16 n)) xs)]⟩))) 99 (some (⟨2 * k, 1, false, []⟩))) (nm [1, 99]) (fun (k : Nat) => xs.length - k) (0) (Nat.zero_le _) (Sub.int rfl (by first | omega | rfl | (dsimp only; omega)) (Sub.cons rfl (Sub.cons rfl Sub.nil))) (SubK.cons rfl (SubK.cons rfl SubK.nil)) (SupG.val (SupG.own rfl (SupG.val SupG.nil))) (SupH.cons rfl (supJL rfl) (SupH.cons rfl (supJL rfl) SupH.nil)) (lkOk rfl) ?_
  intro k hI
  refine C_seq ?_
  refine C_seq ?_
  refine C_reg ?_
  refine R1 d_move rfl ?_
  refine R2 d_geq rfl rfl ?_
  refine R_nil (by kernel_rfl) ?_
  refine K_then ?_
  refine C_if rfl (fun h17 => ?_) (fun h17 => ?_)
  ·
    refine C_skip ?_
    refine K_then ?_
    refine C_seq ?_
    refine C_block ?_
    refine C_seq ?_
    refine C_regY ?_
    refine wl_op d_move ⟨rfl, trivial⟩ trivial trivial rfl ?_
    refine wl_op (d_load (0) ti46 rfl rfl) ⟨rfl, trivial⟩ ⟨rfl, trivial⟩ trivial rfl ?_
    refine wl_op d_move ⟨rfl, trivial⟩ trivial trivial rfl ?_
    refine wl_op (d_indexP sl46 (xs.length - 1 - k) (by omega) (gN (by omega))) ⟨rfl, rfl, trivial⟩ trivial trivial rfl ?_
    refine wl_op (d_loadP ti122) ⟨rfl, trivial⟩ trivial trivial rfl ?_
    refine wl_yield (ts := [tE (.int .u16 ((xs.getD (xs.length - 1 - k) 0 : Nat) : Int))]) hB (wanted_none rfl) rfl rfl ⟨rfl, trivial⟩ rfl rfl (by omega) ⟨Le.refl, trivial⟩ ?_ ?_
    ·
      refine wl_op d_not ⟨rfl, trivial⟩ trivial trivial rfl ?_
      refine wl_nil ?_
      refine K_then ?_
      refine C_bF rfl rfl ?_
      refine C_skip ?_
      refine K_norB ?_
      refine K_then ?_
      refine C_reg ?_
      refine R1 d_move rfl ?_
      refine R2 (d_sub (by first | exact wr64 (by omega) (by omega))) rfl rfl ?_
      refine R1 d_assign rfl ?_
      refine R_nil (by kernel_rfl) ?_
      exact K_fam (k + 1) ⟨(by omega), (by omega)⟩ (Sub.int rfl (by first | omega | rfl | (dsimp only; omega)) (Sub.cons rfl (Sub.cons rfl Sub.nil))) (SubK.cons rfl (SubK.cons rfl SubK.nil)) (SupG.val (SupG.own rfl (SupG.val SupG.nil))) (SupH.cons rfl (supJL rfl) (SupH.cons rfl (supJL rfl) SupH.nil)) (lkOk rfl)
    ·
      refine wl_op d_not ⟨rfl, trivial⟩ trivial trivial rfl ?_
      refine wl_nil ?_
      refine K_then ?_
      refine C_bT rfl rfl ?_
      refine C_ret ?_
      refine K_retB ?_
      refine K_retT ?_
      refine K_retT ?_
      refine K_retB ?_
      exact E_it hB rfl trivial rfl (.inl rfl) rfl (.inr ⟨k, by omega, rfl⟩)
  ·
    refine C_exit ?_
    refine K_exT ?_
    refine K_exT ?_
    refine K_exB ?_
    exact E_it hB rfl trivial rfl (.inr rfl) rfl (.inl (by omega))
theorem c_long (xs : List Nat) (hx : xs.length ≤ 2) (hD : Dig 4294967296 xs) :
    Ct Tryz.prog 229 [tWs xs] (tE (.int .u64 ((val 4294967296 xs : Nat) : Int))) := by
  refine Ct.intro Tryz.func229 rfl Tryz.ntmps229 rfl ?_
  intro w F
  refine C_seq ?_
  refine C_reg ?_
  refine R1 d_assign rfl ?_
  refine R_nil (by kernel_rfl) ?_
  refine K_then ?_
  refine C_seq ?_
  refine C_reg ?_
  refine RE (d_alloc (k := 3) (n := 1) (agg := false) zr121.1 zr121.2 rfl) trivial trivial ⟨rfl, trivial⟩ ?_
  refine RE (d_store (es := 1) (agg := false) (0) ti121 rfl rfl rfl) ⟨rfl, rfl, trivial⟩ ⟨rfl, trivial⟩ trivial ?_
  refine R_nil (by kernel_rfl) ?_
  refine K_then ?_
  refine C_seq ?_
  refine C_seq ?_
  refine C_reg ?_
  refine R1 d_move rfl ?_
  refine RE (d_callGX (fun _ => 6) (c_down32 _) fi247 rfl (krN (ρ := fun _ => 6)) (krC (ρ := fun _ => 6) (k := 1) rfl (krN (ρ := fun _ => 6))) ⟨⟨rfl, (SupX.lit rfl)⟩, trivial⟩ rfl) ⟨rfl, trivial⟩ trivial ⟨rfl, trivial⟩ ?_
  refine R_nil (by kernel_rfl) ?_
  refine K_then ?_
  refine C_block ?_
  refine C_range (caps := [.ptr 1 0]) (κ := Empty) (fun j => cond (Nat.beq j 1) 6 (j)) rfl (fun _ h => h) trivial (i_down32 xs (by omega)) fi252 rfl ⟨rfl, trivial⟩ rfl rfl (fun _ _ => rfl) (upd (fun _ => none) 3 (some (.own (.ptr 3 0)))) [3] [3] (Sub.cons rfl Sub.nil) (SupG.own rfl SupG.nil) rfl (lkOk rfl) (fun (k : Nat) (_ : Unit) => True) (fun (k : Nat) (_ : Unit) => upd (fun _ => none) 3 (some (⟨121, 1, false, [.val (tE (.int .u64 ((val 4294967296 (xs.drop (xs.length - k)) : Nat) : Int)))]⟩))) (fun k x => (SupH.cons rfl (supJL rfl) SupH.nil)) (fun k x y hy => by simp at hy; subst hy; rfl) (fun _ _ => False) (fun i => i.elim) (fun _ _ h => h.elim) (()) trivial ((SubK.consI rfl (ImpK.one (Imp.int (by rw [Nat.sub_zero, List.drop_length]; rfl)))) SubK.nil) ?_ ?_ ?_
  ·
    intro D lp o1 o2 O W lη lb V0 k x hk hI
    have hv := val_lt (hD.drop (xs.length - k))
    rw [List.length_drop, show xs.length - (xs.length - k) = k by omega] at hv
    have hk1 : 4294967296 ^ k ≤ 4294967296 ^ 1 := Nat.pow_le_pow_right (by decide) (by omega)
    rw [Nat.pow_one] at hk1
    have hw := hD.getD (by decide) (xs.length - 1 - k)
    have hst := val_drop_succ 4294967296 xs (xs.length - 1 - k) (by omega)
    rw [show xs.length - 1 - k + 1 = xs.length - k by omega, Nat.mul_comm] at hst
    apply rnd_mk
    ·
      refine C_reg ?_
      refine R1 d_assign rfl ?_
      refine R_nil (by kernel_rfl) ?_
      exact K_thenF fun _ _ h => h
    ·
      refine C_block ?_
      refine C_reg ?_
      refine RE (d_load (0) ti121 rfl rfl) ⟨rfl, trivial⟩ ⟨rfl, trivial⟩ trivial ?_
      refine R2 (d_shl (by decide) (shl32 (by omega))) rfl rfl ?_
      refine R1 d_move rfl ?_
      refine R1 (d_convert Tryz.underlying121 (isS Tryz.underlying186) (by first | exact wu64 (by omega) (by omega) | exact mu64)) rfl ?_
      refine R2 (d_or (or32 (by omega) (by omega))) rfl rfl ?_
      refine RE (d_store (es := 1) (agg := false) (0) ti121 rfl rfl rfl) ⟨rfl, rfl, trivial⟩ ⟨rfl, trivial⟩ trivial ?_
      refine R_nil (by kernel_rfl) ?_
      refine K_norB ?_
      exact K_rnd (()) trivial ((SubK.consI rfl (ImpK.one (Imp.int (by rw [show xs.length - (k + 1) = xs.length - 1 - k by omega, hst])))) SubK.nil) (SupH.cons rfl (supJL rfl) SupH.nil) (lkOk rfl)
  ·
    intro D hD x hI
    refine K_norB ?_
    refine K_then ?_
    refine C_seq ?_
    refine C_reg ?_
    refine RE (d_load (0) ti121 rfl rfl) ⟨rfl, trivial⟩ ⟨rfl, trivial⟩ trivial ?_
    refine R1 d_assign rfl ?_
    refine R_nil (by kernel_rfl) ?_
    refine K_then ?_
    refine C_ret ?_
    exact E_ret1 (Plain.loop Plain.mk' hD) rfl rfl (Le.int (by rw [Nat.sub_self]; rfl))
  ·
    intro D hD e i; exact i.elim
theorem c_short (x : Nat) (hx : x < 18446744073709551616) :
    Ct Tryz.prog 230 [tE (.int .u64 (x : Int))] (tN x) := by
  refine Ct.intro Tryz.func230 rfl Tryz.ntmps230 rfl ?_
  intro w F
  refine C_seq ?_
  refine C_reg ?_
  refine R1 d_assign rfl ?_
  refine R_nil (by kernel_rfl) ?_
  refine K_then ?_
  refine C_seq ?_
  refine C_reg ?_
  refine R1 d_move rfl ?_
  refine R1 (d_convert Tryz.underlying186 (isS Tryz.underlying121) cut32) rfl ?_
  refine R1 d_move rfl ?_
  refine R2 (d_shr (by decide) shr32) rfl rfl ?_
  refine R1 (d_convert Tryz.underlying186 (isS Tryz.underlying121) (wu32 (by omega) (by omega))) rfl ?_
  refine R2 (d_nums (n := 2) [x % 4294967296, x / 4294967296] Tryz.underlying133 el186 zf186 rfl rfl rfl) rfl rfl ?_
  refine RE (d_call (c_trim _) fi184 rfl) ⟨rfl, trivial⟩ trivial trivial ?_
  refine R1 d_assign rfl ?_
  refine R_nil (by kernel_rfl) ?_
  refine K_then ?_
  refine C_ret ?_
  exact E_ret1 Plain.mk' rfl rfl (Le.of (by rw [trimL_eq_dig two_le_W (Dig.cons (Nat.mod_lt _ (by decide)) (Dig.cons (by omega) (Dig.nil _))), val_cons, val_cons, val_nil, Nat.mul_zero, Nat.add_zero, Nat.mod_add_div]))
theorem c_head1 (xs : List Nat) (j : Int) (i : Nat) (hj : j = (i : Int)) (hxi : xs.getD i 0 < 4294967296) :
    CtG Tryz.prog 251 [(3, ⟨133, 1, false, [.val (tWs xs)]⟩)] [.val (tI j), .own (.ptr 3 0)] (.val (tE (.int .u64 ((xs.getD i 0 : Nat) : Int)))) [(3, ⟨133, 1, false, [.val (tWs xs)]⟩)] [] := by
  refine CtG.intro [3] Tryz.func251 rfl Tryz.ntmps251 rfl rfl ⟨⟨rfl, (SupX.lit rfl)⟩, trivial⟩ ?_
  intro w F η
  subst hj
  refine C_seq ?_
  refine C_reg ?_
  refine R1 d_assign rfl ?_
  refine R_nil (by kernel_rfl) ?_
  refine K_then ?_
  refine C_seq ?_
  refine C_seq ?_
  refine C_reg ?_
  refine R1 d_move rfl ?_
  refine RE (d_load (0) ti133 rfl rfl) ⟨rfl, trivial⟩ ⟨rfl, trivial⟩ trivial ?_
  refine R1 (d_len Tryz.underlying133) rfl ?_
  refine R2 d_geq rfl rfl ?_
  refine R_nil (by kernel_rfl) ?_
  refine K_then ?_
  refine C_if rfl (fun h66 => ?_) (fun h66 => ?_)
  ·
    refine C_seq ?_
    refine C_reg ?_
    refine R1 d_assign rfl ?_
    refine R_nil (by kernel_rfl) ?_
    refine K_then ?_
    refine C_ret ?_
    refine K_retT ?_
    exact E_retG1 LentC.mk' rfl rfl (Imp.int (by rw [List.getD_eq_getElem?_getD, List.getElem?_eq_none (by omega)]; rfl)) ⟨rfl, trivial⟩ rfl ⟨⟨rfl, (SupX.lit rfl)⟩, trivial⟩ rfl
  ·
    refine C_skip ?_
    refine K_then ?_
    refine C_seq ?_
    refine C_reg ?_
    refine RE (d_load (0) ti133 rfl rfl) ⟨rfl, trivial⟩ ⟨rfl, trivial⟩ trivial ?_
    refine R1 d_move rfl ?_
    refine R2 (d_indexP sl133 (i) (by omega) (gN (by omega))) rfl rfl ?_
    refine R1 (d_loadP ti186) rfl ?_
    refine R1 (d_convert Tryz.underlying121 (isS Tryz.underlying186) (by first | exact wu64 (by omega) (by omega) | exact mu64)) rfl ?_
    refine R1 d_assign rfl ?_
    refine R_nil (by kernel_rfl) ?_
    refine K_then ?_
    refine C_ret ?_
    exact E_retG1 LentC.mk' rfl rfl Imp.refl ⟨rfl, trivial⟩ rfl ⟨⟨rfl, (SupX.lit rfl)⟩, trivial⟩ rfl
theorem c_head (a n s k : Nat) (hn : n = k + 3) (hs : s ≤ 31) (h : a * 2 ^ s < 4294967296 ^ n) (hk : k ≤ 1000000) :
    Ct Tryz.prog 246 [tN a, tI n, tI s] (tE (.int .u64 ((a * 2 ^ s / 4294967296 ^ (k + 1) : Nat) : Int))) := by
  subst hn
  have ha : a < 4294967296 ^ (k + 3) := Nat.lt_of_le_of_lt (Nat.le_mul_of_pos_right a (Nat.pow_pos (by decide))) h
  have w1 := dig_getD two_le_W a (k + 2)
  have w2 := dig_getD two_le_W a (k + 1)
  have w3 := dig_getD two_le_W a k
  have l1 := (dig_Dig two_le_W a).getD (by decide) (k + 2)
  have l2 := (dig_Dig two_le_W a).getD (by decide) (k + 1)
  have l3 := (dig_Dig two_le_W a).getD (by decide) k
  have htop := head_top ha
  have heq : a * 2 ^ s / 4294967296 ^ (k + 1) = a / 4294967296 ^ k % 4294967296 / 2 ^ (32 - s) + a / 4294967296 ^ (k + 1) * 2 ^ s := head_eq a k s hs
  have hlt : a * 2 ^ s / 4294967296 ^ (k + 1) < 18446744073709551616 := head_lt (n := k + 3) (by omega) h
  have hm : ((dig 4294967296 a).getD (k + 1) 0) + ((dig 4294967296 a).getD (k + 2) 0) * 2 ^ 32 = a / 4294967296 ^ (k + 1) := by rw [w1, w2]; exact htop.symm
  rw [← w3] at heq
  rw [← hm] at heq
  have hlow : ((dig 4294967296 a).getD (k) 0) / 2 ^ (32 - s) < 2 ^ s := Nat.div_lt_of_lt_mul (by rw [← Nat.pow_add, show 32 - s + s = 32 by omega]; exact l3)
  have hp0 := Nat.zero_le (((dig 4294967296 a).getD (k) 0) / 2 ^ (32 - s))
  refine Ct.intro Tryz.func246 rfl Tryz.ntmps246 rfl ?_
  intro w F
  refine C_seq ?_
  refine C_reg ?_
  refine RE (d_box (k := 3) ti133 rfl) ⟨rfl, trivial⟩ trivial ⟨rfl, trivial⟩ ?_
  refine R1 d_assign rfl ?_
  refine R_nil (by kernel_rfl) ?_
  refine K_then ?_
  refine C_seq ?_
  refine C_reg ?_
  refine R1 (d_makeFunc (ps := [.ptr 3 0]) rfl) rfl ?_
  refine R1 d_assign rfl ?_
  refine R_nil (by kernel_rfl) ?_
  refine K_then ?_
  refine C_seq ?_
  refine C_draw mixed ?_
  refine R1 d_move rfl ?_
  refine R1 d_move rfl ?_
  refine R2 (d_sub (by first | exact wr64 (by omega) (by omega))) rfl rfl ?_
  refine RE (d_callCX (ps := [.val (tI _)]) (caps := [.ptr 3 0]) (fun _ => 3) (c_head1 _ _ (k + 2) (by omega) (by omega)) fi251 rfl (krC (ρ := fun _ => 3) (k := 3) rfl (krN (ρ := fun _ => 3))) (krC (ρ := fun _ => 3) (k := 3) rfl (krN (ρ := fun _ => 3))) ⟨⟨rfl, (SupX.lit rfl)⟩, trivial⟩ rfl) ⟨rfl, rfl, trivial⟩ ⟨rfl, trivial⟩ trivial ?_
  refine R2 (d_shl (by decide) (shl32 (by omega))) rfl rfl ?_
  refine R1 d_move rfl ?_
  refine R1 d_move rfl ?_
  refine R2 (d_sub (by first | exact wr64 (by omega) (by omega))) rfl rfl ?_
  refine RE (d_callCX (ps := [.val (tI _)]) (caps := [.ptr 3 0]) (fun _ => 3) (c_head1 _ _ (k + 1) (by omega) (by omega)) fi251 rfl (krC (ρ := fun _ => 3) (k := 3) rfl (krN (ρ := fun _ => 3))) (krC (ρ := fun _ => 3) (k := 3) rfl (krN (ρ := fun _ => 3))) ⟨⟨rfl, (SupX.lit rfl)⟩, trivial⟩ rfl) ⟨rfl, rfl, trivial⟩ ⟨rfl, trivial⟩ trivial ?_
  refine R2 (d_or (or32 (by omega) (by omega))) rfl rfl ?_
  refine R1 d_move rfl ?_
  refine R2 (d_shl (by omega) (shlN64 (s := s) rfl (by omega) (by omega))) rfl rfl ?_
  refine R1 d_move rfl ?_
  refine R1 d_move rfl ?_
  refine R2 (d_sub (by first | exact wr64 (by omega) (by omega))) rfl rfl ?_
  refine RE (d_callCX (ps := [.val (tI _)]) (caps := [.ptr 3 0]) (fun _ => 3) (c_head1 _ _ (k) (by omega) (by omega)) fi251 rfl (krC (ρ := fun _ => 3) (k := 3) rfl (krN (ρ := fun _ => 3))) (krC (ρ := fun _ => 3) (k := 3) rfl (krN (ρ := fun _ => 3))) ⟨⟨rfl, (SupX.lit rfl)⟩, trivial⟩ rfl) ⟨rfl, rfl, trivial⟩ ⟨rfl, trivial⟩ trivial ?_
  refine R1 d_move rfl ?_
  refine R2 (d_sub (r := ((32 - s : Nat) : Int)) (by rw [wr64 (by omega) (by omega)]; omega)) rfl rfl ?_
  refine R2 (d_shr (by omega) (shrN (s := 32 - s) rfl (by show 32 - s ≤ 64; omega))) rfl rfl ?_
  refine R2 (d_or (or_sum' _ _ s rfl rfl hlow (wu64 (by omega) (by omega)) (by show _ < 18446744073709551616; omega))) rfl rfl ?_
  refine R1 d_assign rfl ?_
  refine R_end (by kernel_rfl) ?_
  refine K_then ?_
  refine C_ret ?_
  exact E_ret1 Plain.mk' rfl rfl (Le.int (congrArg _ heq.symm))
theorem c_difference (u a v b : Nat) (hu : u < 4294967296) (hvv : v < 4294967296) (hle : v * b ≤ u * a) (ha : (dig 4294967296 a).length ≤ 100000) (hb : (dig 4294967296 b).length ≤ 100000) :
    Ct Tryz.prog 228 [tE (.int .u64 (u : Int)), tN a, tE (.int .u64 (v : Int)), tN b] (tN (u * a - v * b)) := by
  refine Ct.intro Tryz.func228 rfl Tryz.ntmps228 rfl ?_
  intro w F
  refine C_seq ?_
  refine C_reg ?_
  refine R1 d_assign rfl ?_
  refine R_nil (by kernel_rfl) ?_
  refine K_then ?_
  refine C_seq ?_
  refine C_reg ?_
  refine R1 d_move rfl ?_
  refine R1 (d_len Tryz.underlying133) rfl ?_
  refine R1 d_move rfl ?_
  refine R1 (d_len Tryz.underlying133) rfl ?_
  refine R2 d_max2 rfl rfl ?_
  refine R2 (d_add (by first | exact wr64 (by omega) (by omega))) rfl rfl ?_
  refine RE (d_makeO (k := 20) (t := tE (.int .u32 0)) (ts := rW .u32 (List.replicate ((max (dig 4294967296 a).length (dig 4294967296 b).length + 1)) 0)) ((max (dig 4294967296 a).length (dig 4294967296 b).length + 1)) ((max (dig 4294967296 a).length (dig 4294967296 b).length + 1)) Tryz.underlying133 el186 (fun _ _ => rfl) rfl (by omega) (by omega) (Nat.le_refl _) (by omega) (by omega) (rW_rep _)) ⟨rfl, rfl, trivial⟩ trivial ⟨rfl, trivial⟩ ?_
  refine R1 d_assign rfl ?_
  refine R_nil (by kernel_rfl) ?_
  refine K_then ?_
  refine C_seq ?_
  refine C_reg ?_
  refine R1 d_assign rfl ?_
  refine R1 d_assign rfl ?_
  refine R1 d_assign rfl ?_
  refine R_nil (by kernel_rfl) ?_
  refine K_then ?_
  refine C_seq ?_
  refine C_seq ?_
  refine C_reg ?_
  refine R1 d_move rfl ?_
  refine R1 (d_lenO Tryz.underlying133) rfl ?_
  refine R1 d_move rfl ?_
  refine R_nil (by kernel_rfl) ?_
  refine K_then ?_
  refine C_block ?_
  refine C_loop (fun (fm : (Nat) × (List Nat) × (Nat) × (Nat) × (Nat)) => (fun (i : Nat) (ws : List Nat) (x : Nat) (y : Nat) (br : Nat) => i ≤ (max (dig 4294967296 a).length (dig 4294967296 b).length + 1) ∧ ws.length = (max (dig 4294967296 a).length (dig 4294967296 b).length + 1) ∧ Dig 4294967296 ws ∧ x = u * (a % 4294967296 ^ i) / 4294967296 ^ i ∧ y = v * (b % 4294967296 ^ i) / 4294967296 ^ i ∧ br ≤ 1 ∧ val 4294967296 (ws.take i) + v * (b % 4294967296 ^ i) + x * 4294967296 ^ i = u * (a % 4294967296 ^ i) + y * 4294967296 ^ i + br * 4294967296 ^ i) fm.1 fm.2.1 fm.2.2.1 fm.2.2.2.1 fm.2.2.2.2) (fun (fm : (Nat) × (List Nat) × (Nat) × (Nat) × (Nat)) => (fun (i : Nat) (ws : List Nat) (x : Nat) (y : Nat) (br : Nat) => upd (upd (upd (upd (upd (upd (upd (upd (upd (upd (fun _ => none) 0 (some (.val (tE (.int .u64 ((u : Nat) : Int)))))) 1 (some (.val (tN a)))) 2 (some (.val (tE (.int .u64 ((v : Nat) : Int)))))) 3 (some (.val (tN b)))) 9 (some (.own (.sl 20 1 0 (max (dig 4294967296 a).length (dig 4294967296 b).length + 1))))) 12 (some (.val (tE (.int .u32 (br : Int)))))) 22 (some (.val (tI (max (dig 4294967296 a).length (dig 4294967296 b).length + 1))))) 23 (some (.val (tI i)))) 10 (some (.val (tE (.int .u64 ((x : Nat) : Int)))))) 11 (some (.val (tE (.int .u64 ((y : Nat) : Int)))))) fm.1 fm.2.1 fm.2.2.1 fm.2.2.2.1 fm.2.2.2.2) (fun (fm : (Nat) × (List Nat) × (Nat) × (Nat) × (Nat)) => (fun (i : Nat) (ws : List Nat) (x : Nat) (y : Nat) (br : Nat) => upd (fun _ => none) 20 (some (⟨186, 1, false, rW .u32 ws⟩))) fm.1 fm.2.1 fm.2.2.1 fm.2.2.2.1 fm.2.2.2.2) (nm [20]) (fun (fm : (Nat) × (List Nat) × (Nat) × (Nat) × (Nat)) => (fun (i : Nat) (ws : List Nat) (x : Nat) (y : Nat) (br : Nat) => (max (dig 4294967296 a).length (dig 4294967296 b).length + 1) - i) fm.1 fm.2.1 fm.2.2.1 fm.2.2.2.1 fm.2.2.2.2) ((0, List.replicate (max (dig 4294967296 a).length (dig 4294967296 b).length + 1) 0, 0, 0, 0)) (by dsimp only; exact ⟨Nat.zero_le _, by simp, Dig.rep (by decide) _, by simp [Nat.mod_one], by simp [Nat.mod_one], by omega, by simp [Nat.mod_one, val]⟩) (Sub.int rfl (by first | omega | rfl | (dsimp only; omega)) (Sub.int rfl (by first | omega | rfl | (dsimp only; omega)) (Sub.int rfl (by first | omega | rfl | (dsimp only; omega)) (Sub.int rfl (by first | omega | rfl | (dsimp only; omega)) (Sub.int rfl (by first | omega | rfl | (dsimp only; omega)) (Sub.cons rfl (Sub.cons rfl (Sub.int rfl (by first | omega | rfl | (dsimp only; omega)) (Sub.cons rfl (Sub.int rfl (by first | omega | rfl | (dsimp only; omega)) Sub.nil)))))))))) ((SubK.consI rfl ImpK.refl) SubK.nil) (SupG.val (SupG.val (SupG.val (SupG.val (SupG.val (SupG.own rfl (SupG.val (SupG.val (SupG.val (SupG.val SupG.nil)))))))))) (SupH.cons rfl (supJ sup_rW) SupH.nil) (lkOk rfl) ?_
  intro fm hI
  obtain ⟨i, ws, x, y, br⟩ := fm
  replace hI : i ≤ (max (dig 4294967296 a).length (dig 4294967296 b).length + 1) ∧ ws.length = (max (dig 4294967296 a).length (dig 4294967296 b).length + 1) ∧ Dig 4294967296 ws ∧ x = u * (a % 4294967296 ^ i) / 4294967296 ^ i ∧ y = v * (b % 4294967296 ^ i) / 4294967296 ^ i ∧ br ≤ 1 ∧ val 4294967296 (ws.take i) + v * (b % 4294967296 ^ i) + x * 4294967296 ^ i = u * (a % 4294967296 ^ i) + y * 4294967296 ^ i + br * 4294967296 ^ i := hI
  show wc _ _ _ _ (upd (upd (upd (upd (upd (upd (upd (upd (upd (upd (fun _ => none) 0 (some (.val (tE (.int .u64 ((u : Nat) : Int)))))) 1 (some (.val (tN a)))) 2 (some (.val (tE (.int .u64 ((v : Nat) : Int)))))) 3 (some (.val (tN b)))) 9 (some (.own (.sl 20 1 0 (max (dig 4294967296 a).length (dig 4294967296 b).length + 1))))) 12 (some (.val (tE (.int .u32 (br : Int)))))) 22 (some (.val (tI (max (dig 4294967296 a).length (dig 4294967296 b).length + 1))))) 23 (some (.val (tI i)))) 10 (some (.val (tE (.int .u64 ((x : Nat) : Int)))))) 11 (some (.val (tE (.int .u64 ((y : Nat) : Int)))))) (upd (fun _ => none) 20 (some (⟨186, 1, false, rW .u32 ws⟩))) _
  obtain ⟨hi, hl, hD, hx, hy, hbr, hv⟩ := hI
  refine C_seq ?_
  refine C_reg ?_
  refine R2 d_lss rfl rfl ?_
  refine R_nil (by kernel_rfl) ?_
  refine K_then ?_
  refine C_seq ?_
  refine C_if rfl (fun h78 => ?_) (fun h78 => ?_)
  ·
    have xW : x < 4294967296 := carry_lt hu hx
    have yW : y < 4294967296 := carry_lt hvv hy
    refine C_skip ?_
    refine K_then ?_
    refine C_seq ?_
    refine C_block ?_
    refine C_seq ?_
    refine C_reg ?_
    refine R1 d_move rfl ?_
    refine R1 d_assign rfl ?_
    refine R_nil (by kernel_rfl) ?_
    refine K_then ?_
    refine C_join (fun (X : Nat) => X = x + u * (a / 4294967296 ^ i % 4294967296) ∧ X < 18446744073709551616) (fun (X : Nat) => upd (upd (upd (upd (upd (upd (upd (upd (upd (upd (upd (fun _ => none) 0 (some (.val (tE (.int .u64 ((u : Nat) : Int)))))) 1 (some (.val (tN a)))) 2 (some (.val (tE (.int .u64 ((v : Nat) : Int)))))) 3 (some (.val (tN b)))) 9 (some (.own (.sl 20 1 0 (max (dig 4294967296 a).length (dig 4294967296 b).length + 1))))) 12 (some (.val (tE (.int .u32 (br : Int)))))) 22 (some (.val (tI (max (dig 4294967296 a).length (dig 4294967296 b).length + 1))))) 23 (some (.val (tI i)))) 10 (some (.val (tE (.int .u64 ((X : Nat) : Int)))))) 11 (some (.val (tE (.int .u64 ((y : Nat) : Int)))))) 13 (some (.val (tI i)))) (fun (X : Nat) => upd (fun _ => none) 20 (some (⟨186, 1, false, rW .u32 ws⟩))) (nm [20]) ?_ ?_
    ·
      refine C_seq ?_
      refine C_reg ?_
      refine R1 d_move rfl ?_
      refine R1 d_move rfl ?_
      refine R1 (d_len Tryz.underlying133) rfl ?_
      refine R2 d_lss rfl rfl ?_
      refine R_nil (by kernel_rfl) ?_
      refine K_then ?_
      refine C_if rfl (fun h79 => ?_) (fun h79 => ?_)
      ·
        have ai := dig_getD two_le_W a i
        have ai1 := (dig_Dig two_le_W a).getD (by decide) i
        have ua := mul_lt32 hu ai1
        refine C_reg ?_
        refine R1 d_move rfl ?_
        refine R1 d_move rfl ?_
        refine R1 d_move rfl ?_
        refine R1 d_move rfl ?_
        refine R2 (d_indexP sl133 (i) (by omega) (gN (by omega))) rfl rfl ?_
        refine R1 (d_loadP ti186) rfl ?_
        refine R1 (d_convert Tryz.underlying121 (isS Tryz.underlying186) (by first | exact wu64 (by omega) (by omega) | exact mu64)) rfl ?_
        refine R2 (d_mul (wmul64 (by omega))) rfl rfl ?_
        refine R2 (d_add (wadd64 (by omega))) rfl rfl ?_
        refine R1 d_assign rfl ?_
        refine R_nil (by kernel_rfl) ?_
        exact K_fam ((x + u * (dig 4294967296 a).getD i 0)) ⟨by rw [ai], by omega⟩ (Sub.int rfl (by first | omega | rfl | (dsimp only; omega)) (Sub.int rfl (by first | omega | rfl | (dsimp only; omega)) (Sub.int rfl (by first | omega | rfl | (dsimp only; omega)) (Sub.int rfl (by first | omega | rfl | (dsimp only; omega)) (Sub.int rfl (by first | omega | rfl | (dsimp only; omega)) (Sub.int rfl (by first | omega | rfl | (dsimp only; omega)) (Sub.cons rfl (Sub.cons rfl (Sub.int rfl (by first | omega | rfl | (dsimp only; omega)) (Sub.cons rfl (Sub.int rfl (by first | omega | rfl | (dsimp only; omega)) Sub.nil))))))))))) ((SubK.consI rfl ImpK.refl) SubK.nil) (SupG.val (SupG.val (SupG.val (SupG.val (SupG.val (SupG.val (SupG.own rfl (SupG.val (SupG.val (SupG.val (SupG.val SupG.nil))))))))))) (SupH.cons rfl (supJ sup_rW) SupH.nil) (lkOk rfl)
      ·
        refine C_skip ?_
        exact K_fam (x) ⟨by rw [dig_out two_le_W (by omega), Nat.mul_zero, Nat.add_zero], by omega⟩ (Sub.int rfl (by first | omega | rfl | (dsimp only; omega)) (Sub.int rfl (by first | omega | rfl | (dsimp only; omega)) (Sub.int rfl (by first | omega | rfl | (dsimp only; omega)) (Sub.int rfl (by first | omega | rfl | (dsimp only; omega)) (Sub.int rfl (by first | omega | rfl | (dsimp only; omega)) (Sub.int rfl (by first | omega | rfl | (dsimp only; omega)) (Sub.cons rfl (Sub.cons rfl (Sub.int rfl (by first | omega | rfl | (dsimp only; omega)) (Sub.cons rfl (Sub.int rfl (by first | omega | rfl | (dsimp only; omega)) Sub.nil))))))))))) ((SubK.consI rfl ImpK.refl) SubK.nil) (SupG.val (SupG.val (SupG.val (SupG.val (SupG.val (SupG.val (SupG.own rfl (SupG.val (SupG.val (SupG.val (SupG.val SupG.nil))))))))))) (SupH.cons rfl (supJ sup_rW) SupH.nil) (lkOk rfl)
    ·
      intro X hX
      refine C_join (fun (Y : Nat) => Y = y + v * (b / 4294967296 ^ i % 4294967296) ∧ Y < 18446744073709551616) (fun (Y : Nat) => upd (upd (upd (upd (upd (upd (upd (upd (upd (upd (upd (fun _ => none) 0 (some (.val (tE (.int .u64 ((u : Nat) : Int)))))) 1 (some (.val (tN a)))) 2 (some (.val (tE (.int .u64 ((v : Nat) : Int)))))) 3 (some (.val (tN b)))) 9 (some (.own (.sl 20 1 0 (max (dig 4294967296 a).length (dig 4294967296 b).length + 1))))) 12 (some (.val (tE (.int .u32 (br : Int)))))) 22 (some (.val (tI (max (dig 4294967296 a).length (dig 4294967296 b).length + 1))))) 23 (some (.val (tI i)))) 10 (some (.val (tE (.int .u64 ((X : Nat) : Int)))))) 11 (some (.val (tE (.int .u64 ((Y : Nat) : Int)))))) 13 (some (.val (tI i)))) (fun (Y : Nat) => upd (fun _ => none) 20 (some (⟨186, 1, false, rW .u32 ws⟩))) (nm [20]) ?_ ?_
      ·
        refine C_seq ?_
        refine C_reg ?_
        refine R1 d_move rfl ?_
        refine R1 d_move rfl ?_
        refine R1 (d_len Tryz.underlying133) rfl ?_
        refine R2 d_lss rfl rfl ?_
        refine R_nil (by kernel_rfl) ?_
        refine K_then ?_
        refine C_if rfl (fun h82 => ?_) (fun h82 => ?_)
        ·
          have bi := dig_getD two_le_W b i
          have bi1 := (dig_Dig two_le_W b).getD (by decide) i
          have vb := mul_lt32 hvv bi1
          refine C_reg ?_
          refine R1 d_move rfl ?_
          refine R1 d_move rfl ?_
          refine R1 d_move rfl ?_
          refine R1 d_move rfl ?_
          refine R2 (d_indexP sl133 (i) (by omega) (gN (by omega))) rfl rfl ?_
          refine R1 (d_loadP ti186) rfl ?_
          refine R1 (d_convert Tryz.underlying121 (isS Tryz.underlying186) (by first | exact wu64 (by omega) (by omega) | exact mu64)) rfl ?_
          refine R2 (d_mul (wmul64 (by omega))) rfl rfl ?_
          refine R2 (d_add (wadd64 (by omega))) rfl rfl ?_
          refine R1 d_assign rfl ?_
          refine R_nil (by kernel_rfl) ?_
          exact K_fam ((y + v * (dig 4294967296 b).getD i 0)) ⟨by rw [bi], by omega⟩ (Sub.int rfl (by first | omega | rfl | (dsimp only; omega)) (Sub.int rfl (by first | omega | rfl | (dsimp only; omega)) (Sub.int rfl (by first | omega | rfl | (dsimp only; omega)) (Sub.int rfl (by first | omega | rfl | (dsimp only; omega)) (Sub.int rfl (by first | omega | rfl | (dsimp only; omega)) (Sub.int rfl (by first | omega | rfl | (dsimp only; omega)) (Sub.cons rfl (Sub.cons rfl (Sub.int rfl (by first | omega | rfl | (dsimp only; omega)) (Sub.cons rfl (Sub.int rfl (by first | omega | rfl | (dsimp only; omega)) Sub.nil))))))))))) ((SubK.consI rfl ImpK.refl) SubK.nil) (SupG.val (SupG.val (SupG.val (SupG.val (SupG.val (SupG.val (SupG.own rfl (SupG.val (SupG.val (SupG.val (SupG.val SupG.nil))))))))))) (SupH.cons rfl (supJ sup_rW) SupH.nil) (lkOk rfl)
        ·
          refine C_skip ?_
          exact K_fam (y) ⟨by rw [dig_out two_le_W (by omega), Nat.mul_zero, Nat.add_zero], by omega⟩ (Sub.int rfl (by first | omega | rfl | (dsimp only; omega)) (Sub.int rfl (by first | omega | rfl | (dsimp only; omega)) (Sub.int rfl (by first | omega | rfl | (dsimp only; omega)) (Sub.int rfl (by first | omega | rfl | (dsimp only; omega)) (Sub.int rfl (by first | omega | rfl | (dsimp only; omega)) (Sub.int rfl (by first | omega | rfl | (dsimp only; omega)) (Sub.cons rfl (Sub.cons rfl (Sub.int rfl (by first | omega | rfl | (dsimp only; omega)) (Sub.cons rfl (Sub.int rfl (by first | omega | rfl | (dsimp only; omega)) Sub.nil))))))))))) ((SubK.consI rfl ImpK.refl) SubK.nil) (SupG.val (SupG.val (SupG.val (SupG.val (SupG.val (SupG.val (SupG.own rfl (SupG.val (SupG.val (SupG.val (SupG.val SupG.nil))))))))))) (SupH.cons rfl (supJ sup_rW) SupH.nil) (lkOk rfl)
      ·
        intro Y hY
        refine C_seq ?_
        refine C_reg ?_
        refine R1 d_move rfl ?_
        refine R1 d_move rfl ?_
        refine R1 d_move rfl ?_
        refine R1 (d_convert Tryz.underlying186 (isS Tryz.underlying121) cut32) rfl ?_
        refine R1 d_move rfl ?_
        refine R1 (d_convert Tryz.underlying186 (isS Tryz.underlying121) cut32) rfl ?_
        refine R1 d_move rfl ?_
        refine RE (d_call (c_Sub32 _ _ _ (Nat.mod_lt _ (by decide)) (Nat.mod_lt _ (by decide)) (by omega)) fi237 rfl) ⟨rfl, rfl, rfl, trivial⟩ trivial trivial ?_
        refine R1 d_move rfl ?_
        refine R1 (d_extract rfl) rfl ?_
        refine R1 (d_extract rfl) rfl ?_
        refine R2 (d_indexO sl133 (by omega) (by omega) rfl) rfl rfl ?_
        refine RE (d_store (i) ti186 (rW_lt (by omega)) (by omega) (rW_set (m := _) rfl)) ⟨rfl, rfl, trivial⟩ ⟨rfl, trivial⟩ trivial ?_
        refine R1 d_assign rfl ?_
        refine R_nil (by kernel_rfl) ?_
        refine K_then ?_
        refine C_seq ?_
        refine C_reg ?_
        refine R1 d_move rfl ?_
        refine R2 (d_shr (by decide) shr32) rfl rfl ?_
        refine R1 d_assign rfl ?_
        refine R_nil (by kernel_rfl) ?_
        refine K_then ?_
        refine C_reg ?_
        refine R1 d_move rfl ?_
        refine R2 (d_shr (by decide) shr32) rfl rfl ?_
        refine R1 d_assign rfl ?_
        refine R_nil (by kernel_rfl) ?_
        refine K_norB ?_
        refine K_then ?_
        refine C_reg ?_
        refine R2 (d_add (by first | exact wr64 (by omega) (by omega))) rfl rfl ?_
        refine R1 d_move rfl ?_
        refine R_nil (by kernel_rfl) ?_
        obtain ⟨n1, n2, n3, n4, n5⟩ := diff_in (X := X) (Y := Y) (br' := subB (X % 4294967296) (Y % 4294967296) br) (by omega) hl hD hx hy hv hX.1 hY.1 (subD_add (Nat.mod_lt _ (by decide)) (Nat.mod_lt _ (by decide)) hbr) (subD_lt _ _ _)
        have n6 := subB_le (X % 4294967296) (Y % 4294967296) br
        exact K_fam ((i + 1, ws.set i (subD (X % 4294967296) (Y % 4294967296) br), X / 4294967296, Y / 4294967296, subB (X % 4294967296) (Y % 4294967296) br)) ⟨(by dsimp only; exact ⟨by omega, n1, n2, n3, n4, n6, n5⟩), (by dsimp only; omega)⟩ (Sub.int rfl (by first | omega | rfl | (dsimp only; omega)) (Sub.int rfl (by first | omega | rfl | (dsimp only; omega)) (Sub.int rfl (by first | omega | rfl | (dsimp only; omega)) (Sub.int rfl (by first | omega | rfl | (dsimp only; omega)) (Sub.int rfl (by first | omega | rfl | (dsimp only; omega)) (Sub.cons rfl (Sub.cons rfl (Sub.int rfl (by first | omega | rfl | (dsimp only; omega)) (Sub.cons rfl (Sub.int rfl (by first | omega | rfl | (dsimp only; omega)) Sub.nil)))))))))) ((SubK.consI rfl ImpK.refl) SubK.nil) (SupG.val (SupG.val (SupG.val (SupG.val (SupG.val (SupG.own rfl (SupG.val (SupG.val (SupG.val (SupG.val SupG.nil)))))))))) (SupH.cons rfl (supJ sup_rW) SupH.nil) (lkOk rfl)
  ·
    refine C_exit ?_
    refine K_exT ?_
    refine K_exT ?_
    refine K_exB ?_
    refine K_then ?_
    refine C_seq ?_
    refine C_reg ?_
    refine RE (d_moveS (fun _ h => h) (rW_all hl) hl) ⟨rfl, trivial⟩ ⟨rfl, trivial⟩ trivial ?_
    refine RE (d_call (c_trim _) fi184 rfl) ⟨rfl, trivial⟩ trivial trivial ?_
    refine R1 d_assign rfl ?_
    refine R_nil (by kernel_rfl) ?_
    refine K_then ?_
    refine C_ret ?_
    have him : i = (max (dig 4294967296 a).length (dig 4294967296 b).length + 1) := by omega
    subst him
    have hfin := diff_end hl hD ((len_le_iff two_le_W a _).1 (Nat.le_max_left _ _)) ((len_le_iff two_le_W b _).1 (Nat.le_max_right _ _)) hu hvv hx hy hv hle
    exact E_ret1 Plain.mk' rfl rfl (Le.of (congrArg tWs hfin))
end An.S

/- Steps of Euclid's algorithm from the first bits of two numbers (Lehmer, by the condition of Collins). Plain numbers. -/
namespace An
/-- Several steps at once: what they lead to. -/
def Steps (a b u0 u1 v0 v1 : Nat) (e : Bool) : Prop :=
  u0 < 4294967296 ∧ u1 < 4294967296 ∧ v0 < 4294967296 ∧ v1 < 4294967296 ∧
    ∃ x y, (e = true → u0 * a = v0 * b + x ∧ v1 * b = u1 * a + y) ∧ (e = false → v0 * b = u0 * a + x ∧ u1 * a = v1 * b + y) ∧ y ≤ x ∧ x + y ≤ a ∧ Nat.gcd x y = Nat.gcd a b
def sg (e : Bool) : Int := if e then -1 else 1
/-- What holds between the steps. α and β: the first bits of a and b. -/
structure Sim (α β a1 a2 u1 v1 u2 v2 : Nat) (e : Bool) : Prop where
  h1 : (a1 : Int) = sg e * (u1 * α - v1 * β)
  h2 : (a2 : Int) = - (sg e * (u2 * α - v2 * β))
  det : (u1 : Int) * v2 - u2 * v1 = sg e
  le1 : u2 ≤ v2
  le2 : u1 + u2 ≤ v1 + v2
  pos : 1 ≤ v2
  ge : a2 ≤ a1
theorem combA {σ u1 v1 u2 v2 A B : Int} (hσ : σ * σ = 1) (hd : u1 * v2 - u2 * v1 = σ) : v2 * (σ * (u1 * A - v1 * B)) + v1 * (-(σ * (u2 * A - v2 * B))) = A := by grind
theorem combB {σ u1 v1 u2 v2 A B : Int} (hσ : σ * σ = 1) (hd : u1 * v2 - u2 * v1 = σ) : u2 * (σ * (u1 * A - v1 * B)) + u1 * (-(σ * (u2 * A - v2 * B))) = B := by grind
theorem sg_sq (e : Bool) : sg e * sg e = 1 := by cases e <;> rfl
theorem sg_not (e : Bool) : sg (!e) = - sg e := by cases e <;> rfl
theorem Sim.sumA {α β a1 a2 u1 v1 u2 v2 : Nat} {e : Bool} (s : Sim α β a1 a2 u1 v1 u2 v2 e) : v2 * a1 + v1 * a2 = α := by
  have h := sg_sq e
  have h1 := s.h1; have h2 := s.h2; have hd := s.det
  have : (v2 : Int) * a1 + v1 * a2 = α := by rw [h1, h2]; exact combA h hd
  exact_mod_cast this
theorem Sim.sumB {α β a1 a2 u1 v1 u2 v2 : Nat} {e : Bool} (s : Sim α β a1 a2 u1 v1 u2 v2 e) : u2 * a1 + u1 * a2 = β := by
  have h := sg_sq e
  have h1 := s.h1; have h2 := s.h2; have hd := s.det
  have : (u2 : Int) * a1 + u1 * a2 = β := by rw [h1, h2]; exact combB h hd
  exact_mod_cast this
theorem Sim.init {α β : Nat} (h : β ≤ α) : Sim α β α β 1 0 0 1 false := ⟨by simp [sg], by simp [sg], by simp [sg], by omega, by omega, by omega, h⟩
theorem Sim.step {α β a1 a2 u1 v1 u2 v2 : Nat} {e : Bool} (s : Sim α β a1 a2 u1 v1 u2 v2 e) (hc : v2 ≤ a2) : Sim α β a2 (a1 % a2) u2 v2 (u1 + a1 / a2 * u2) (v1 + a1 / a2 * v2) (!e) := by
  have h0 : 1 ≤ a2 := by have := s.pos; omega
  have hq : 1 ≤ a1 / a2 := (Nat.le_div_iff_mul_le h0).2 (by have := s.ge; omega)
  have hdm := Nat.div_add_mod a1 a2
  have hm : ((a1 % a2 : Nat) : Int) = a1 - a2 * ((a1 / a2 : Nat) : Int) := by
    have : ((a2 * (a1 / a2) + a1 % a2 : Nat) : Int) = a1 := by rw [hdm]
    rw [Int.natCast_add, Int.natCast_mul] at this; omega
  have h1 := s.h1; have h2 := s.h2; have hd := s.det
  refine ⟨?_, ?_, ?_, ?_, ?_, ?_, Nat.le_of_lt (Nat.mod_lt _ h0)⟩
  · rw [sg_not, h2]; generalize sg e = σ at *; grind
  · rw [hm, sg_not]
    simp only [Int.natCast_add, Int.natCast_mul]
    generalize sg e = σ at *
    generalize ((a1 / a2 : Nat) : Int) = q at *
    grind
  · rw [sg_not, ← hd]
    simp only [Int.natCast_add, Int.natCast_mul]
    generalize ((a1 / a2 : Nat) : Int) = q at *
    grind
  · generalize a1 / a2 = q at *
    obtain ⟨p, rfl⟩ : ∃ p, q = p + 1 := ⟨q - 1, by omega⟩
    rw [Nat.add_mul, Nat.add_mul]
    have := Nat.mul_le_mul_left p s.le1
    have := s.le2
    omega
  · generalize a1 / a2 = q at *
    obtain ⟨p, rfl⟩ : ∃ p, q = p + 1 := ⟨q - 1, by omega⟩
    rw [Nat.add_mul, Nat.add_mul]
    have := Nat.mul_le_mul_left p s.le1
    have := s.le2; have := s.le1
    omega
  · have := Nat.mul_le_mul hq s.pos
    omega
/-- All numbers are small. -/
theorem Sim.small {α β a1 a2 u1 v1 u2 v2 : Nat} {e : Bool} (s : Sim α β a1 a2 u1 v1 u2 v2 e) (hc : v2 ≤ a2) (hα : α < 18446744073709551616) (hβ : β ≤ α) :
    v1 + v2 < 18446744073709551616 ∧ u1 < 18446744073709551616 ∧ a1 / a2 * u2 < 18446744073709551616 ∧ u1 + a1 / a2 * u2 < 18446744073709551616 ∧ a1 / a2 * v2 < 18446744073709551616 ∧ v1 + a1 / a2 * v2 < 18446744073709551616 := by
  have hA := s.sumA
  have hB := s.sumB
  have h0 := s.pos
  have hge := s.ge
  have k1 : v2 ≤ v2 * a1 := Nat.le_mul_of_pos_right _ (by omega)
  have k2 : v1 ≤ v1 * a2 := Nat.le_mul_of_pos_right _ (by omega)
  have k3 : u1 ≤ u1 * a2 := Nat.le_mul_of_pos_right _ (by omega)
  have k4 : a1 / a2 * u2 ≤ a1 * u2 := Nat.mul_le_mul_right _ (Nat.div_le_self _ _)
  have k5 : a1 / a2 * v2 ≤ a1 * v2 := Nat.mul_le_mul_right _ (Nat.div_le_self _ _)
  rw [Nat.mul_comm a1] at k4 k5
  omega
theorem Sim.small32 {α β a1 a2 u1 v1 u2 v2 : Nat} {e : Bool} (s : Sim α β a1 a2 u1 v1 u2 v2 e) (hc : v2 ≤ a2) (hα : α < 18446744073709551616) : u2 < 4294967296 ∧ v2 < 4294967296 := by
  have hA := s.sumA
  have h0 := s.pos
  have hge := s.ge
  have h1 : v2 * v2 ≤ v2 * a1 := Nat.mul_le_mul_left _ (by omega)
  have h2 : v2 < 4294967296 := by
    rcases Nat.lt_or_ge v2 4294967296 with h | h
    · exact h
    · have := Nat.mul_le_mul h h
      omega
  have := s.le1
  omega
/-- For the numbers themselves. -/
theorem Sim.whole {a b P : Nat} {α β a1 a2 u1 v1 u2 v2 : Nat} {e : Bool} (s : Sim α β a1 a2 u1 v1 u2 v2 e) (hP : 0 < P) (hα : a / P = α) (hβ : b / P = β) (hc : v2 ≤ a2) (hd : v1 + v2 ≤ a1 - a2) :
    ∃ x y : Nat, (x : Int) = sg e * (u1 * a - v1 * b) ∧ (y : Int) = -(sg e * (u2 * a - v2 * b)) ∧ y ≤ x ∧ v2 * x + v1 * y = a ∧ Nat.gcd x y = Nat.gcd a b := by
  have hσ := sg_sq e
  have h1 := s.h1; have h2 := s.h2; have hdet := s.det
  have ha := Nat.div_add_mod a P
  have hb := Nat.div_add_mod b P
  have ra := Nat.mod_lt a hP
  have rb := Nat.mod_lt b hP
  rw [hα] at ha; rw [hβ] at hb
  generalize a % P = ρ at *
  generalize b % P = τ at *
  have ha' : (a : Int) = P * α + ρ := by rw [← ha]; simp
  have hb' : (b : Int) = P * β + τ := by rw [← hb]; simp
  have l1 := s.le1; have l2 := s.le2; have hge := s.ge
  -- the bounds
  have b1 : u2 * ρ ≤ v2 * (P - 1) := Nat.mul_le_mul l1 (by omega)
  have b2 : v2 * τ ≤ v2 * (P - 1) := Nat.mul_le_mul_left _ (by omega)
  have b3 : (u1 + u2) * ρ ≤ (v1 + v2) * (P - 1) := Nat.mul_le_mul l2 (by omega)
  have b4 : (v1 + v2) * τ ≤ (v1 + v2) * (P - 1) := Nat.mul_le_mul_left _ (by omega)
  have b5 : v2 * P ≤ a2 * P := Nat.mul_le_mul_right _ hc
  have b6 : (v1 + v2) * P ≤ (a1 - a2) * P := Nat.mul_le_mul_right _ hd
  have b7 : v2 * (P - 1) ≤ v2 * P := Nat.mul_le_mul_left _ (by omega)
  have b8 : (v1 + v2) * (P - 1) ≤ (v1 + v2) * P := Nat.mul_le_mul_left _ (by omega)
  have c1 : ((u2 * ρ : Nat) : Int) ≤ ((a2 * P : Nat) : Int) := by omega
  have c2 : ((v2 * τ : Nat) : Int) ≤ ((a2 * P : Nat) : Int) := by omega
  have c3 : (((u1 + u2) * ρ : Nat) : Int) ≤ (((a1 - a2) * P : Nat) : Int) := by omega
  have c4 : (((v1 + v2) * τ : Nat) : Int) ≤ (((a1 - a2) * P : Nat) : Int) := by omega
  have p1 : (0 : Int) ≤ ((u2 * ρ : Nat) : Int) := by omega
  have p2 : (0 : Int) ≤ ((v2 * τ : Nat) : Int) := by omega
  have p3 : (0 : Int) ≤ (((u1 + u2) * ρ : Nat) : Int) := by omega
  have p4 : (0 : Int) ≤ (((v1 + v2) * τ : Nat) : Int) := by omega
  rw [Int.natCast_mul, Int.natCast_mul, ] at c1 c2
  rw [Int.natCast_mul, Int.natCast_mul, Int.natCast_add, Int.natCast_sub hge] at c3 c4
  rw [Int.natCast_mul] at p1 p2
  rw [Int.natCast_mul, Int.natCast_add] at p3 p4
  have hy : (0 : Int) ≤ -(sg e * (u2 * a - v2 * b)) := by
    rw [ha', hb']
    have e1 : -(sg e * ((u2 : Int) * (P * α + ρ) - v2 * (P * β + τ))) = a2 * P - sg e * (u2 * ρ - v2 * τ) := by
      rw [h2]; generalize sg e = σ; grind
    rw [e1]
    cases e with
    | false => simp only [sg, Bool.false_eq_true, ↓reduceIte]; omega
    | true => simp only [sg, ↓reduceIte]; omega
  have hxy : (0 : Int) ≤ sg e * (u1 * a - v1 * b) - -(sg e * (u2 * a - v2 * b)) := by
    rw [ha', hb']
    have e1 : sg e * ((u1 : Int) * (P * α + ρ) - v1 * (P * β + τ)) - -(sg e * ((u2 : Int) * (P * α + ρ) - v2 * (P * β + τ))) = (a1 - a2) * P + sg e * ((u1 + u2) * ρ - (v1 + v2) * τ) := by
      rw [h1, h2]; generalize sg e = σ; grind
    rw [e1]
    cases e with
    | false => simp only [sg, Bool.false_eq_true, ↓reduceIte]; omega
    | true => simp only [sg, ↓reduceIte]; omega
  obtain ⟨y, hy'⟩ := Int.eq_ofNat_of_zero_le hy
  obtain ⟨x, hx'⟩ := Int.eq_ofNat_of_zero_le (show (0 : Int) ≤ sg e * (u1 * a - v1 * b) by omega)
  have hle : y ≤ x := by omega
  have eA : (v2 : Int) * x + v1 * y = a := by
    rw [← hx', ← hy']; exact combA hσ hdet
  have eB : (u2 : Int) * x + u1 * y = b := by
    rw [← hx', ← hy']; exact combB hσ hdet
  have eA' : v2 * x + v1 * y = a := by exact_mod_cast eA
  have eB' : u2 * x + u1 * y = b := by exact_mod_cast eB
  refine ⟨x, y, hx'.symm, hy'.symm, hle, eA', ?_⟩
  apply Nat.dvd_antisymm
  · refine Nat.dvd_gcd ?_ ?_
    · rw [← eA']; exact Nat.dvd_add (Nat.dvd_mul_left_of_dvd (Nat.gcd_dvd_left x y) _) (Nat.dvd_mul_left_of_dvd (Nat.gcd_dvd_right x y) _)
    · rw [← eB']; exact Nat.dvd_add (Nat.dvd_mul_left_of_dvd (Nat.gcd_dvd_left x y) _) (Nat.dvd_mul_left_of_dvd (Nat.gcd_dvd_right x y) _)
  · have ga : ((Nat.gcd a b : Nat) : Int) ∣ (a : Int) := Int.natCast_dvd_natCast.2 (Nat.gcd_dvd_left a b)
    have gb : ((Nat.gcd a b : Nat) : Int) ∣ (b : Int) := Int.natCast_dvd_natCast.2 (Nat.gcd_dvd_right a b)
    refine Nat.dvd_gcd ?_ ?_
    · apply Int.natCast_dvd_natCast.1
      have hx2 : (x : Int) = sg e * (u1 * a - v1 * b) := hx'.symm
      rw [hx2]
      exact Int.dvd_mul_of_dvd_right (Int.dvd_sub (Int.dvd_mul_of_dvd_right ga) (Int.dvd_mul_of_dvd_right gb))
    · apply Int.natCast_dvd_natCast.1
      have hy2 : (y : Int) = -(sg e * (u2 * a - v2 * b)) := hy'.symm
      rw [hy2]
      exact Int.dvd_neg.2 (Int.dvd_mul_of_dvd_right (Int.dvd_sub (Int.dvd_mul_of_dvd_right ga) (Int.dvd_mul_of_dvd_right gb)))
/-- What the steps are good for. -/
theorem Sim.steps {a b P s : Nat} {α β a1 a2 u1 v1 u2 v2 : Nat} {e : Bool} (t : Sim α β a1 a2 u1 v1 u2 v2 e) (hP : 0 < P) (hα : a * 2 ^ s / P = α) (hβ : b * 2 ^ s / P = β) (hc : v2 ≤ a2) (hd : v1 + v2 ≤ a1 - a2) (hW : α < 18446744073709551616) (hu1 : u1 < 4294967296) (hv1 : v1 < 4294967296) :
    v1 = 0 ∨ Steps a b u1 u2 v1 v2 (!e) := by
  rcases Nat.eq_zero_or_pos v1 with h | h
  · exact .inl h
  · refine .inr ?_
    obtain ⟨k1, k2⟩ := t.small32 hc hW
    obtain ⟨X, Y, hX, hY, hle, hA, hg⟩ := t.whole hP hα hβ hc hd
    have h2s : 0 < 2 ^ s := Nat.pow_pos (by omega)
    have hc2 : ((2 ^ s : Nat) : Int) ≠ 0 := by omega
    -- both are multiples of 2^s
    have fac : ∀ (Z : Nat) (w : Int), (Z : Int) = ((2 ^ s : Nat) : Int) * w → ∃ z : Nat, (z : Int) = w ∧ Z = 2 ^ s * z := fun Z w hZ => by
      have hw : 0 ≤ w := by
        rcases Int.lt_or_le w 0 with h' | h'
        · have h1 : ((2 ^ s : Nat) : Int) * w < 0 := Int.mul_neg_of_pos_of_neg (by omega) h'
          omega
        · exact h'
      obtain ⟨z, hz⟩ := Int.eq_ofNat_of_zero_le hw
      refine ⟨z, hz.symm, ?_⟩
      have : (Z : Int) = ((2 ^ s * z : Nat) : Int) := by rw [hZ, hz, Int.natCast_mul]
      exact_mod_cast this
    have ea : ((a * 2 ^ s : Nat) : Int) = a * ((2 ^ s : Nat) : Int) := Int.natCast_mul _ _
    have eb : ((b * 2 ^ s : Nat) : Int) = b * ((2 ^ s : Nat) : Int) := Int.natCast_mul _ _
    rw [ea, eb] at hX hY
    obtain ⟨x, hx, rfl⟩ := fac X (sg e * (u1 * a - v1 * b)) (by rw [hX]; generalize sg e = σ; generalize ((2 ^ s : Nat) : Int) = p; grind)
    obtain ⟨y, hy, rfl⟩ := fac Y (-(sg e * (u2 * a - v2 * b))) (by rw [hY]; generalize sg e = σ; generalize ((2 ^ s : Nat) : Int) = p; grind)
    refine ⟨hu1, k1, hv1, k2, x, y, fun he => ?_, fun he => ?_, Nat.le_of_mul_le_mul_left hle h2s, ?_, ?_⟩
    · have he' : e = false := by cases e <;> simp_all
      subst he'
      simp only [sg, Bool.false_eq_true, ↓reduceIte] at hx hy
      have h1 : ((u1 * a : Nat) : Int) = ((v1 * b + x : Nat) : Int) := by push_cast; omega
      have h2 : ((v2 * b : Nat) : Int) = ((u2 * a + y : Nat) : Int) := by push_cast; omega
      exact ⟨by exact_mod_cast h1, by exact_mod_cast h2⟩
    · have he' : e = true := by cases e <;> simp_all
      subst he'
      simp only [sg, ↓reduceIte] at hx hy
      have h1 : ((v1 * b : Nat) : Int) = ((u1 * a + x : Nat) : Int) := by push_cast; omega
      have h2 : ((u2 * a : Nat) : Int) = ((v2 * b + y : Nat) : Int) := by push_cast; omega
      exact ⟨by exact_mod_cast h1, by exact_mod_cast h2⟩
    · have h3 : 2 ^ s * (v2 * x + v1 * y) = 2 ^ s * a := by
        rw [Nat.mul_comm (2 ^ s) a, ← hA, Nat.mul_add]; ac_rfl
      have h4 := Nat.eq_of_mul_eq_mul_left h2s h3
      have h5 : x ≤ v2 * x := Nat.le_mul_of_pos_left _ t.pos
      have h6 : y ≤ v1 * y := Nat.le_mul_of_pos_left _ h
      omega
    · rw [Nat.gcd_mul_left, Nat.mul_comm a, Nat.mul_comm b, Nat.gcd_mul_left] at hg
      exact Nat.eq_of_mul_eq_mul_left h2s hg
end An

/- Package whole: the greatest common divisor. -/
namespace An.S
open Go Go.Proofs An
set_option maxHeartbeats 1000000
theorem ti4 : TyI Tryz.prog 4 1 false := ⟨by kernel_rfl, by kernel_rfl⟩
theorem ti320 : TyI Tryz.prog 320 5 true := ⟨by kernel_rfl, by kernel_rfl⟩
theorem fo320_0 : fieldO Tryz.prog 320 0 = some 0 := by kernel_rfl
theorem fo320_1 : fieldO Tryz.prog 320 1 = some 1 := by kernel_rfl
theorem fo320_2 : fieldO Tryz.prog 320 2 = some 2 := by kernel_rfl
theorem fo320_3 : fieldO Tryz.prog 320 3 = some 3 := by kernel_rfl
theorem fo320_4 : fieldO Tryz.prog 320 4 = some 4 := by kernel_rfl
theorem fi181 : FnI Tryz.prog 181 := ⟨_, Tryz.func181, by kernel_rfl, rfl⟩
theorem fi227 : FnI Tryz.prog 227 := ⟨_, Tryz.func227, by kernel_rfl, rfl⟩
theorem fi228 : FnI Tryz.prog 228 := ⟨_, Tryz.func228, by kernel_rfl, rfl⟩
theorem fi229 : FnI Tryz.prog 229 := ⟨_, Tryz.func229, by kernel_rfl, rfl⟩
theorem fi230 : FnI Tryz.prog 230 := ⟨_, Tryz.func230, by kernel_rfl, rfl⟩
theorem fi246 : FnI Tryz.prog 246 := ⟨_, Tryz.func246, by kernel_rfl, rfl⟩
theorem zr320 : (Tryz.prog.info? 320).bind (·.zero) = some (.agg #[.int .u64 0, .int .u64 0, .int .u64 0, .int .u64 0, .bool false]) ∧ ∀ F w, (tS [⟨1, false, (tE (.int .u64 0))⟩, ⟨1, false, (tE (.int .u64 0))⟩, ⟨1, false, (tE (.int .u64 0))⟩, ⟨1, false, (tE (.int .u64 0))⟩, ⟨1, false, (tE (.bool false))⟩]).p F w (.agg #[.int .u64 0, .int .u64 0, .int .u64 0, .int .u64 0, .bool false]) := ⟨by kernel_rfl, fun _ _ => ⟨_, rfl, rfl, ⟨fun _ => rfl, rfl⟩, ⟨fun _ => rfl, rfl⟩, ⟨fun _ => rfl, rfl⟩, ⟨fun _ => rfl, rfl⟩, ⟨fun _ => rfl, rfl⟩, trivial⟩⟩
theorem bu320 : BuI Tryz.prog 320 (fun i => [(0, 1), (1, 1), (2, 1), (3, 1), (4, 1)][i]?) (.agg #[.int .u64 0, .int .u64 0, .int .u64 0, .int .u64 0, .bool false]) := BuI.struct Tryz.underlying320 (by kernel_rfl) (by kernel_rfl)
theorem c_simulate (a b : Nat) (hab : b ≤ a) (hla : 3 ≤ (dig 4294967296 a).length) (ha : (dig 4294967296 a).length ≤ 100000) :
    Ct Tryz.prog 227 [tN a, tN b] (tX (fun y : Nat × Nat × Nat × Nat × Bool => y.2.2.1 = 0 ∨ Steps a b y.1 y.2.1 y.2.2.1 y.2.2.2.1 y.2.2.2.2) (fun y => tS [⟨1, false, tE (.int .u64 ((y.1 : Nat) : Int))⟩, ⟨1, false, tE (.int .u64 ((y.2.1 : Nat) : Int))⟩, ⟨1, false, tE (.int .u64 ((y.2.2.1 : Nat) : Int))⟩, ⟨1, false, tE (.int .u64 ((y.2.2.2.1 : Nat) : Int))⟩, ⟨1, false, tB y.2.2.2.2⟩])) := by
  refine Ct.intro Tryz.func227 rfl Tryz.ntmps227 rfl ?_
  intro w F
  obtain ⟨k, hk⟩ : ∃ k, (dig 4294967296 a).length = k + 3 := ⟨(dig 4294967296 a).length - 3, by omega⟩
  have ht := (dig_Dig two_le_W a).getD (by decide) (k + 2)
  refine C_seq ?_
  refine C_reg ?_
  refine RE (d_alloc (k := 4) (n := 5) (agg := true) zr320.1 zr320.2 rfl) trivial trivial ⟨rfl, trivial⟩ ?_
  refine R_nil (by kernel_rfl) ?_
  refine K_then ?_
  refine C_seq ?_
  refine C_reg ?_
  refine R1 d_move rfl ?_
  refine R1 (d_len Tryz.underlying133) rfl ?_
  refine R1 d_assign rfl ?_
  refine R_nil (by kernel_rfl) ?_
  refine K_then ?_
  refine C_seq ?_
  refine C_reg ?_
  refine R1 d_move rfl ?_
  refine R1 d_move rfl ?_
  refine R2 (d_sub (by first | exact wr64 (by omega) (by omega))) rfl rfl ?_
  refine R2 (d_indexP sl133 (k + 2) (by omega) (gN (by omega))) rfl rfl ?_
  refine R1 (d_loadP ti186) rfl ?_
  refine RE (d_call (c_LeadingZeros32 _ (by omega)) fi233 rfl) ⟨rfl, trivial⟩ trivial trivial ?_
  refine R1 d_assign rfl ?_
  refine R_nil (by kernel_rfl) ?_
  refine K_then ?_
  refine C_seq ?_
  refine C_reg ?_
  refine R1 d_move rfl ?_
  refine R1 d_move rfl ?_
  refine R1 d_move rfl ?_
  generalize hs : 32 - Lib.bitLen ((dig 4294967296 a).getD (k + 2) 0) = s
  obtain ⟨hs31, hAW, _h1, _h2, _h3⟩ := norm (m := k + 1) hk hs
  have hBA0 : b * 2 ^ s ≤ a * 2 ^ s := Nat.mul_le_mul_right _ hab
  have hBA : (b * 2 ^ s / 4294967296 ^ (k + 1)) ≤ (a * 2 ^ s / 4294967296 ^ (k + 1)) := Nat.div_le_div_right hBA0
  have hAL : (a * 2 ^ s / 4294967296 ^ (k + 1)) < 18446744073709551616 := head_lt (n := k + 3) (by omega) hAW
  refine RE (d_call (c_head a _ s k hk hs31 (by rw [hk]; exact hAW) (by omega)) fi246 rfl) ⟨rfl, rfl, rfl, trivial⟩ trivial trivial ?_
  refine R1 d_move rfl ?_
  refine R1 d_move rfl ?_
  refine R1 d_move rfl ?_
  refine RE (d_call (c_head b _ s k hk hs31 (by rw [hk]; exact Nat.lt_of_le_of_lt hBA0 hAW) (by omega)) fi246 rfl) ⟨rfl, rfl, rfl, trivial⟩ trivial trivial ?_
  refine R1 d_assign rfl ?_
  refine R1 d_assign rfl ?_
  refine R_nil (by kernel_rfl) ?_
  refine K_then ?_
  refine C_seq ?_
  refine C_reg ?_
  refine R1 (d_build (r := tS [⟨1, false, (tE (.int .u64 0))⟩, ⟨1, false, tE (.int .u64 ((1 : Nat) : Int))⟩, ⟨1, false, (tE (.int .u64 0))⟩, ⟨1, false, (tE (.int .u64 0))⟩, ⟨1, false, (tE (.bool false))⟩]) (ts := [(1, tE (.int .u64 ((1 : Nat) : Int)))]) bu320 zr320.2 ⟨_, rfl⟩ rfl ⟨_, _, _, _, rfl, Up.f (fs := [⟨1, false, (tE (.int .u64 0))⟩, ⟨1, false, (tE (.int .u64 0))⟩, ⟨1, false, (tE (.int .u64 0))⟩, ⟨1, false, (tE (.int .u64 0))⟩, ⟨1, false, (tE (.bool false))⟩]) (f := ⟨1, false, (tE (.int .u64 0))⟩) (fs' := [⟨1, false, (tE (.int .u64 0))⟩, ⟨1, false, tE (.int .u64 ((1 : Nat) : Int))⟩, ⟨1, false, (tE (.int .u64 0))⟩, ⟨1, false, (tE (.int .u64 0))⟩, ⟨1, false, (tE (.bool false))⟩]) 1 rfl rfl rfl, inferInstance, Le.refl⟩) rfl ?_
  refine RE (d_alloc (k := 9) (n := 5) (agg := true) zr320.1 zr320.2 rfl) trivial trivial ⟨rfl, trivial⟩ ?_
  refine RE (d_store (es := 5) (agg := true) (0) ti320 rfl rfl rfl) ⟨rfl, rfl, trivial⟩ ⟨rfl, trivial⟩ trivial ?_
  refine R_nil (by kernel_rfl) ?_
  refine K_then ?_
  refine C_seq ?_
  refine C_reg ?_
  refine R1 d_assign rfl ?_
  refine R1 d_assign rfl ?_
  refine R_nil (by kernel_rfl) ?_
  refine K_then ?_
  refine C_seq ?_
  refine C_block ?_
  refine C_loop (fun (fm : (Nat) × (Nat) × (Nat) × (Nat) × (Nat) × (Nat) × (Nat) × (Nat) × (Bool)) => (fun (a1 : Nat) (a2 : Nat) (u0 : Nat) (u1 : Nat) (v0 : Nat) (v1 : Nat) (u2 : Nat) (v2 : Nat) (e : Bool) => Sim (a * 2 ^ s / 4294967296 ^ (k + 1)) (b * 2 ^ s / 4294967296 ^ (k + 1)) a1 a2 u1 v1 u2 v2 e ∧ (v0 = 0 ∨ Steps a b u0 u1 v0 v1 e) ∧ u1 < 4294967296 ∧ v1 < 4294967296) fm.1 fm.2.1 fm.2.2.1 fm.2.2.2.1 fm.2.2.2.2.1 fm.2.2.2.2.2.1 fm.2.2.2.2.2.2.1 fm.2.2.2.2.2.2.2.1 fm.2.2.2.2.2.2.2.2) (fun (fm : (Nat) × (Nat) × (Nat) × (Nat) × (Nat) × (Nat) × (Nat) × (Nat) × (Bool)) => (fun (a1 : Nat) (a2 : Nat) (u0 : Nat) (u1 : Nat) (v0 : Nat) (v1 : Nat) (u2 : Nat) (v2 : Nat) (e : Bool) => upd (upd (upd (upd (upd (upd (fun _ => none) 4 (some (.own (.ptr 4 0)))) 7 (some (.val (tE (.int .u64 ((a1 : Nat) : Int)))))) 8 (some (.val (tE (.int .u64 ((a2 : Nat) : Int)))))) 9 (some (.own (.ptr 9 0)))) 10 (some (.val (tE (.int .u64 ((u2 : Nat) : Int)))))) 11 (some (.val (tE (.int .u64 ((v2 : Nat) : Int)))))) fm.1 fm.2.1 fm.2.2.1 fm.2.2.2.1 fm.2.2.2.2.1 fm.2.2.2.2.2.1 fm.2.2.2.2.2.2.1 fm.2.2.2.2.2.2.2.1 fm.2.2.2.2.2.2.2.2) (fun (fm : (Nat) × (Nat) × (Nat) × (Nat) × (Nat) × (Nat) × (Nat) × (Nat) × (Bool)) => (fun (a1 : Nat) (a2 : Nat) (u0 : Nat) (u1 : Nat) (v0 : Nat) (v1 : Nat) (u2 : Nat) (v2 : Nat) (e : Bool) => upd (upd (fun _ => none) 4 (some (⟨320, 5, true, [.val (tS [⟨1, false, tE (.int .u64 ((0 : Nat) : Int))⟩, ⟨1, false, tE (.int .u64 ((0 : Nat) : Int))⟩, ⟨1, false, tE (.int .u64 ((0 : Nat) : Int))⟩, ⟨1, false, tE (.int .u64 ((0 : Nat) : Int))⟩, ⟨1, false, tB false⟩])]⟩))) 9 (some (⟨320, 5, true, [.val (tS [⟨1, false, tE (.int .u64 ((u0 : Nat) : Int))⟩, ⟨1, false, tE (.int .u64 ((u1 : Nat) : Int))⟩, ⟨1, false, tE (.int .u64 ((v0 : Nat) : Int))⟩, ⟨1, false, tE (.int .u64 ((v1 : Nat) : Int))⟩, ⟨1, false, tB e⟩])]⟩))) fm.1 fm.2.1 fm.2.2.1 fm.2.2.2.1 fm.2.2.2.2.1 fm.2.2.2.2.2.1 fm.2.2.2.2.2.2.1 fm.2.2.2.2.2.2.2.1 fm.2.2.2.2.2.2.2.2) (nm [4, 9]) (fun (fm : (Nat) × (Nat) × (Nat) × (Nat) × (Nat) × (Nat) × (Nat) × (Nat) × (Bool)) => (fun (a1 : Nat) (a2 : Nat) (u0 : Nat) (u1 : Nat) (v0 : Nat) (v1 : Nat) (u2 : Nat) (v2 : Nat) (e : Bool) => a2) fm.1 fm.2.1 fm.2.2.1 fm.2.2.2.1 fm.2.2.2.2.1 fm.2.2.2.2.2.1 fm.2.2.2.2.2.2.1 fm.2.2.2.2.2.2.2.1 fm.2.2.2.2.2.2.2.2) (((a * 2 ^ s / 4294967296 ^ (k + 1)), (b * 2 ^ s / 4294967296 ^ (k + 1)), 0, 1, 0, 0, 0, 1, false)) (by dsimp only; exact ⟨Sim.init hBA, .inl rfl, by omega, by omega⟩) (Sub.int rfl (by first | omega | rfl | (dsimp only; omega)) (Sub.int rfl (by first | omega | rfl | (dsimp only; omega)) (Sub.cons rfl (Sub.int rfl (by first | omega | rfl | (dsimp only; omega)) (Sub.int rfl (by first | omega | rfl | (dsimp only; omega)) (Sub.cons rfl Sub.nil)))))) ((SubK.consI rfl ImpK.refl) ((SubK.consI rfl ImpK.refl) SubK.nil)) (SupG.val (SupG.val (SupG.own rfl (SupG.val (SupG.val (SupG.own rfl SupG.nil)))))) (SupH.cons rfl (supJL rfl) (SupH.cons rfl (supJL rfl) SupH.nil)) (lkOk rfl) ?_
  intro fm hI
  obtain ⟨a1, a2, u0, u1, v0, v1, u2, v2, e⟩ := fm
  replace hI : Sim (a * 2 ^ s / 4294967296 ^ (k + 1)) (b * 2 ^ s / 4294967296 ^ (k + 1)) a1 a2 u1 v1 u2 v2 e ∧ (v0 = 0 ∨ Steps a b u0 u1 v0 v1 e) ∧ u1 < 4294967296 ∧ v1 < 4294967296 := hI
  show wc _ _ _ _ (upd (upd (upd (upd (upd (upd (fun _ => none) 4 (some (.own (.ptr 4 0)))) 7 (some (.val (tE (.int .u64 ((a1 : Nat) : Int)))))) 8 (some (.val (tE (.int .u64 ((a2 : Nat) : Int)))))) 9 (some (.own (.ptr 9 0)))) 10 (some (.val (tE (.int .u64 ((u2 : Nat) : Int)))))) 11 (some (.val (tE (.int .u64 ((v2 : Nat) : Int)))))) (upd (upd (fun _ => none) 4 (some (⟨320, 5, true, [.val (tS [⟨1, false, tE (.int .u64 ((0 : Nat) : Int))⟩, ⟨1, false, tE (.int .u64 ((0 : Nat) : Int))⟩, ⟨1, false, tE (.int .u64 ((0 : Nat) : Int))⟩, ⟨1, false, tE (.int .u64 ((0 : Nat) : Int))⟩, ⟨1, false, tB false⟩])]⟩))) 9 (some (⟨320, 5, true, [.val (tS [⟨1, false, tE (.int .u64 ((u0 : Nat) : Int))⟩, ⟨1, false, tE (.int .u64 ((u1 : Nat) : Int))⟩, ⟨1, false, tE (.int .u64 ((v0 : Nat) : Int))⟩, ⟨1, false, tE (.int .u64 ((v1 : Nat) : Int))⟩, ⟨1, false, tB e⟩])]⟩))) _
  obtain ⟨hS, hR, hu1, hv1⟩ := hI
  have hge := hS.ge
  have hpos := hS.pos
  have ha1 : a1 ≤ (a * 2 ^ s / 4294967296 ^ (k + 1)) := by have h := hS.sumA; have h2 : a1 ≤ v2 * a1 := Nat.le_mul_of_pos_left _ hpos; omega
  refine C_seq ?_
  refine C_seq ?_
  refine C_reg ?_
  refine R1 d_move rfl ?_
  refine R1 d_move rfl ?_
  refine R2 d_geq rfl rfl ?_
  refine R1 d_move rfl ?_
  refine RGcaseD (t := 34) rfl (fun h53 => ?_) (fun h53 => ?_)
  ·
    have hc : v2 ≤ a2 := by omega
    refine RGon (decide_eq_true h53) rfl d_move rfl ⟨rfl, trivial⟩ trivial trivial ?_
    refine RGon (decide_eq_true h53) rfl d_move rfl ⟨rfl, trivial⟩ trivial trivial ?_
    refine RGon (decide_eq_true h53) rfl (d_sub (wsub64 (by omega) (by omega))) rfl ⟨rfl, rfl, trivial⟩ trivial trivial ?_
    refine RGon (decide_eq_true h53) rfl (d_fieldO fo320_3 rfl) rfl ⟨rfl, trivial⟩ trivial trivial ?_
    refine RG_loadF (decide_eq_true h53) rfl rfl (0) ti121 rfl rfl rfl (At.g 3 rfl rfl) rfl ?_
    refine RGon (decide_eq_true h53) rfl d_move rfl ⟨rfl, trivial⟩ trivial trivial ?_
    obtain ⟨s1, s2, s3, s4, s5, s6⟩ := hS.small (by omega) hAL hBA
    refine RGon (decide_eq_true h53) rfl (d_add (wadd64 (by omega))) rfl ⟨rfl, rfl, trivial⟩ trivial trivial ?_
    refine RGon (decide_eq_true h53) rfl d_geq rfl ⟨rfl, rfl, trivial⟩ trivial trivial ?_
    refine R2 (d_pickT (decide_eq_true h53)) rfl rfl ?_
    refine R_nil (by kernel_rfl) ?_
    refine K_then ?_
    refine C_if rfl (fun h53_2 => ?_) (fun h53_2 => ?_)
    ·
      have hcd : v1 + v2 ≤ a1 - a2 := by omega
      refine C_skip ?_
      refine K_then ?_
      refine C_block ?_
      refine C_seq ?_
      refine C_draw mixed ?_
      refine R1 d_move rfl ?_
      refine R1 d_move rfl ?_
      refine R2 (d_quo (r := ((a1 / a2 : Nat) : Int)) (by omega) (wquo64 (by omega))) rfl rfl ?_
      refine R1 d_move rfl ?_
      refine R1 d_move rfl ?_
      refine R2 (d_rem (by omega) wrem64) rfl rfl ?_
      refine R1 d_assign rfl ?_
      refine R1 d_assign rfl ?_
      refine R_end (by kernel_rfl) ?_
      refine K_then ?_
      refine C_seq ?_
      refine C_reg ?_
      refine R1 d_move rfl ?_
      refine R1 d_move rfl ?_
      refine R1 d_assign rfl ?_
      refine R1 d_assign rfl ?_
      refine R_nil (by kernel_rfl) ?_
      refine K_then ?_
      refine C_seq ?_
      refine C_reg ?_
      refine R1 (d_fieldO fo320_1 rfl) rfl ?_
      refine R_loadF (0) ti121 rfl rfl rfl (At.g 1 rfl rfl) rfl ?_
      refine R1 d_move rfl ?_
      refine R1 (d_fieldO fo320_1 rfl) rfl ?_
      refine R_loadF (0) ti121 rfl rfl rfl (At.g 1 rfl rfl) rfl ?_
      refine R1 d_move rfl ?_
      refine R1 d_move rfl ?_
      refine R2 (d_mul (wmul64 (by omega))) rfl rfl ?_
      refine R2 (d_add (wadd64 (by omega))) rfl rfl ?_
      refine R1 (d_fieldO fo320_0 rfl) rfl ?_
      refine R_storeF (0) ti121 rfl rfl rfl rfl (Up.g 0 rfl rfl rfl) rfl rfl ?_
      refine R1 (d_fieldO fo320_1 rfl) rfl ?_
      refine R_storeF (0) ti121 rfl rfl rfl rfl (Up.g 1 rfl rfl rfl) rfl rfl ?_
      refine R1 d_assign rfl ?_
      refine R_nil (by kernel_rfl) ?_
      refine K_then ?_
      refine C_seq ?_
      refine C_reg ?_
      refine R1 (d_fieldO fo320_3 rfl) rfl ?_
      refine R_loadF (0) ti121 rfl rfl rfl (At.g 3 rfl rfl) rfl ?_
      refine R1 d_move rfl ?_
      refine R1 (d_fieldO fo320_3 rfl) rfl ?_
      refine R_loadF (0) ti121 rfl rfl rfl (At.g 3 rfl rfl) rfl ?_
      refine R1 d_move rfl ?_
      refine R1 d_move rfl ?_
      refine R2 (d_mul (wmul64 (by omega))) rfl rfl ?_
      refine R2 (d_add (wadd64 (by omega))) rfl rfl ?_
      refine R1 (d_fieldO fo320_2 rfl) rfl ?_
      refine R_storeF (0) ti121 rfl rfl rfl rfl (Up.g 2 rfl rfl rfl) rfl rfl ?_
      refine R1 (d_fieldO fo320_3 rfl) rfl ?_
      refine R_storeF (0) ti121 rfl rfl rfl rfl (Up.g 3 rfl rfl rfl) rfl rfl ?_
      refine R1 d_assign rfl ?_
      refine R_nil (by kernel_rfl) ?_
      refine K_then ?_
      refine C_reg ?_
      refine R1 (d_fieldO fo320_4 rfl) rfl ?_
      refine R_loadF (0) ti4 rfl rfl rfl (At.g 4 rfl rfl) rfl ?_
      refine R1 d_not rfl ?_
      refine R1 (d_fieldO fo320_4 rfl) rfl ?_
      refine R_storeF (0) ti4 rfl rfl rfl rfl (Up.g 4 rfl rfl rfl) rfl rfl ?_
      refine R_nil (by kernel_rfl) ?_
      refine K_norB ?_
      have hst := hS.step hc
      have hnx := hS.steps (s := s) (Nat.pow_pos (by decide)) rfl rfl hc hcd hAL hu1 hv1
      obtain ⟨m1, m2⟩ := hS.small32 hc hAL
      have hlt : a1 % a2 < a2 := Nat.mod_lt _ (by omega)
      exact K_fam ((a2, a1 % a2, u1, u2, v1, v2, u1 + (a1 / a2) * u2, v1 + (a1 / a2) * v2, !e)) ⟨(by dsimp only; exact ⟨hst, hnx, m1, m2⟩), (by dsimp only; omega)⟩ (Sub.int rfl (by first | omega | rfl | (dsimp only; omega)) (Sub.int rfl (by first | omega | rfl | (dsimp only; omega)) (Sub.cons rfl (Sub.int rfl (by first | omega | rfl | (dsimp only; omega)) (Sub.int rfl (by first | omega | rfl | (dsimp only; omega)) (Sub.cons rfl Sub.nil)))))) ((SubK.consI rfl ImpK.refl) ((SubK.consI rfl ImpK.refl) SubK.nil)) (SupG.val (SupG.val (SupG.own rfl (SupG.val (SupG.val (SupG.own rfl SupG.nil)))))) (SupH.cons rfl (supJL rfl) (SupH.cons rfl (supJL rfl) SupH.nil)) (lkOk rfl)
    ·
      refine C_exit ?_
      refine K_exT ?_
      refine K_exT ?_
      refine K_exB ?_
      refine K_then ?_
      refine C_seq ?_
      refine C_reg ?_
      refine RE (d_load (0) ti320 rfl rfl) ⟨rfl, trivial⟩ ⟨rfl, trivial⟩ trivial ?_
      refine RE (d_store (es := 5) (agg := true) (0) ti320 rfl rfl rfl) ⟨rfl, rfl, trivial⟩ ⟨rfl, trivial⟩ trivial ?_
      refine R_nil (by kernel_rfl) ?_
      refine K_then ?_
      refine C_ret ?_
      exact E_retC Plain.mk' rfl ⟨_, _, _, _, _, rfl, rfl, ti320, (fun F w v h => ⟨(u0, u1, v0, v1, e), hR, h⟩)⟩
  ·
    refine RGoff (decide_eq_false h53) rfl rfl ?_
    refine RGoff (decide_eq_false h53) rfl rfl ?_
    refine RGoff (decide_eq_false h53) rfl rfl ?_
    refine RGoff (decide_eq_false h53) rfl rfl ?_
    refine RGoff (decide_eq_false h53) rfl rfl ?_
    refine RGoff (decide_eq_false h53) rfl rfl ?_
    refine RGoff (decide_eq_false h53) rfl rfl ?_
    refine RGoff (decide_eq_false h53) rfl rfl ?_
    refine R2 (d_pickF (decide_eq_false h53)) rfl rfl ?_
    refine R_nil (by kernel_rfl) ?_
    refine K_then ?_
    refine C_bF rfl rfl ?_
    refine C_exit ?_
    refine K_exT ?_
    refine K_exT ?_
    refine K_exB ?_
    refine K_then ?_
    refine C_seq ?_
    refine C_reg ?_
    refine RE (d_load (0) ti320 rfl rfl) ⟨rfl, trivial⟩ ⟨rfl, trivial⟩ trivial ?_
    refine RE (d_store (es := 5) (agg := true) (0) ti320 rfl rfl rfl) ⟨rfl, rfl, trivial⟩ ⟨rfl, trivial⟩ trivial ?_
    refine R_nil (by kernel_rfl) ?_
    refine K_then ?_
    refine C_ret ?_
    exact E_retC Plain.mk' rfl ⟨_, _, _, _, _, rfl, rfl, ti320, (fun F w v h => ⟨(u0, u1, v0, v1, e), hR, h⟩)⟩
theorem c_commonDivisor (a b : Nat) (ha : (dig 4294967296 a).length ≤ 100000) (hb : (dig 4294967296 b).length ≤ 100000) :
    Ct Tryz.prog 180 [tN a, tN b] (tN (Nat.gcd a b)) := by
  refine Ct.intro Tryz.func180 rfl Tryz.ntmps180 rfl ?_
  intro w F
  refine C_seq ?_
  refine C_reg ?_
  refine R1 d_assign rfl ?_
  refine R_nil (by kernel_rfl) ?_
  refine K_then ?_
  refine C_join (fun (fm : (Nat) × (Nat)) => (fun (p : Nat) (q : Nat) => q ≤ p ∧ Nat.gcd p q = Nat.gcd a b ∧ (dig 4294967296 p).length ≤ 100000) fm.1 fm.2) (fun (fm : (Nat) × (Nat)) => (fun (p : Nat) (q : Nat) => upd (upd (fun _ => none) 0 (some (.val (tN p)))) 1 (some (.val (tN q)))) fm.1 fm.2) (fun (fm : (Nat) × (Nat)) => (fun (p : Nat) (q : Nat) => fun _ => none) fm.1 fm.2) (nm []) ?_ ?_
  ·
    refine C_seq ?_
    refine C_reg ?_
    refine R1 d_move rfl ?_
    refine R1 d_move rfl ?_
    refine RE (d_call (c_compare _ _) fi92 rfl) ⟨rfl, rfl, trivial⟩ trivial trivial ?_
    refine R2 d_lss rfl rfl ?_
    refine R_nil (by kernel_rfl) ?_
    refine K_then ?_
    refine C_if rfl (fun h10 => ?_) (fun h10 => ?_)
    ·
      refine C_reg ?_
      refine R1 d_move rfl ?_
      refine R1 d_move rfl ?_
      refine R1 d_assign rfl ?_
      refine R1 d_assign rfl ?_
      refine R_nil (by kernel_rfl) ?_
      exact K_fam ((b, a)) (by dsimp only; exact ⟨Nat.le_of_lt (cmpN_neg.1 h10), Nat.gcd_comm _ _, hb⟩) (Sub.cons rfl (Sub.cons rfl Sub.nil)) SubK.nil (SupG.val (SupG.val SupG.nil)) SupH.nil (lkOk rfl)
    ·
      refine C_skip ?_
      exact K_fam ((a, b)) (by dsimp only; exact ⟨by have := mt cmpN_neg.2 h10; omega, rfl, ha⟩) (Sub.cons rfl (Sub.cons rfl Sub.nil)) SubK.nil (SupG.val (SupG.val SupG.nil)) SupH.nil (lkOk rfl)
  ·
    intro fm hj
    obtain ⟨p, q⟩ := fm
    replace hj : q ≤ p ∧ Nat.gcd p q = Nat.gcd a b ∧ (dig 4294967296 p).length ≤ 100000 := hj
    show wc _ _ _ _ (upd (upd (fun _ => none) 0 (some (.val (tN p)))) 1 (some (.val (tN q)))) (fun _ => none) _
    obtain ⟨j1, j2, j3⟩ := hj
    refine C_seq ?_
    refine C_block ?_
    refine C_loop (fun (fm : (Nat) × (Nat)) => (fun (x : Nat) (y : Nat) => y ≤ x ∧ Nat.gcd x y = Nat.gcd a b ∧ (dig 4294967296 x).length ≤ 100000) fm.1 fm.2) (fun (fm : (Nat) × (Nat)) => (fun (x : Nat) (y : Nat) => upd (upd (fun _ => none) 0 (some (.val (tN x)))) 1 (some (.val (tN y)))) fm.1 fm.2) (fun (fm : (Nat) × (Nat)) => (fun (x : Nat) (y : Nat) => fun _ => none) fm.1 fm.2) (nm []) (fun (fm : (Nat) × (Nat)) => (fun (x : Nat) (y : Nat) => x + y) fm.1 fm.2) ((p, q)) (by dsimp only; exact ⟨j1, j2, j3⟩) (Sub.cons rfl (Sub.cons rfl Sub.nil)) SubK.nil (SupG.val (SupG.val SupG.nil)) SupH.nil (lkOk rfl) ?_
    intro fm hI
    obtain ⟨x, y⟩ := fm
    replace hI : y ≤ x ∧ Nat.gcd x y = Nat.gcd a b ∧ (dig 4294967296 x).length ≤ 100000 := hI
    show wc _ _ _ _ (upd (upd (fun _ => none) 0 (some (.val (tN x)))) 1 (some (.val (tN y)))) (fun _ => none) _
    obtain ⟨hle, hg, hl⟩ := hI
    have hyx := dig_len_mono two_le_W hle
    refine C_seq ?_
    refine C_seq ?_
    refine C_reg ?_
    refine R1 d_move rfl ?_
    refine R1 (d_len Tryz.underlying133) rfl ?_
    refine R2 d_gtr rfl rfl ?_
    refine R_nil (by kernel_rfl) ?_
    refine K_then ?_
    refine C_if rfl (fun h13 => ?_) (fun h13 => ?_)
    ·
      have hy0 : 0 < y := by
        rcases Nat.eq_zero_or_pos y with h | h
        · subst h; rw [dig_zero] at h13; simp at h13
        · exact h
      refine C_skip ?_
      refine K_then ?_
      refine C_block ?_
      refine C_seq ?_
      refine C_reg ?_
      refine R1 d_move rfl ?_
      refine R1 d_move rfl ?_
      refine R2 (d_call (c_simulate x y (by omega) (by omega) (by omega)) fi227 rfl) rfl rfl ?_
      refine RE (d_alloc (k := 5) (n := 5) (agg := true) zr320.1 zr320.2 rfl) trivial trivial ⟨rfl, trivial⟩ ?_
      refine RE (d_store (agg := true) (es := 5) (0) ti320 rfl rfl rfl) ⟨rfl, rfl, trivial⟩ ⟨rfl, trivial⟩ trivial ?_
      refine R_nil (by kernel_rfl) ?_
      refine K_then ?_
      refine C_seq ?_
      refine C_caseK (k := 5) rfl ?_
      rintro ⟨u0, u1, v0, v1, e⟩ hst
      refine C_key (k := 5) (e' := ⟨320, 5, true, [.val (tS [⟨1, false, tE (.int .u64 ((u0 : Nat) : Int))⟩, ⟨1, false, tE (.int .u64 ((u1 : Nat) : Int))⟩, ⟨1, false, tE (.int .u64 ((v0 : Nat) : Int))⟩, ⟨1, false, tE (.int .u64 ((v1 : Nat) : Int))⟩, ⟨1, false, tB e⟩])]⟩) rfl rfl ?_
      refine C_reg ?_
      refine R1 (d_fieldO fo320_2 rfl) rfl ?_
      refine R_loadF (0) ti121 rfl rfl rfl (At.g 2 rfl rfl) rfl ?_
      refine R2 d_eql rfl rfl ?_
      refine R_nil (by kernel_rfl) ?_
      refine K_then ?_
      refine C_if rfl (fun h15 => ?_) (fun h15 => ?_)
      ·
        refine C_seq ?_
        refine C_reg ?_
        refine R1 d_move rfl ?_
        refine R1 d_move rfl ?_
        refine RE (d_call (c_divide _ _ (by omega) (by omega) (by omega)) fi181 rfl) ⟨rfl, rfl, trivial⟩ trivial trivial ?_
        refine R1 d_move rfl ?_
        refine R1 (d_extract rfl) rfl ?_
        refine R1 (d_extract rfl) rfl ?_
        refine R1 d_assign rfl ?_
        refine R1 d_assign rfl ?_
        refine R_nil (by kernel_rfl) ?_
        refine K_then ?_
        refine C_reg ?_
        refine R1 d_move rfl ?_
        refine R1 d_move rfl ?_
        refine R1 d_assign rfl ?_
        refine R1 d_assign rfl ?_
        refine R_nil (by kernel_rfl) ?_
        refine K_norB ?_
        have hlt : x % y < y := Nat.mod_lt _ hy0
        exact K_fam ((y, x % y)) ⟨(by dsimp only; exact ⟨by omega, by rw [Nat.gcd_comm, ← Nat.gcd_rec, Nat.gcd_comm]; exact hg, by omega⟩), (by dsimp only; omega)⟩ (Sub.cons rfl (Sub.cons rfl Sub.nil)) SubK.nil (SupG.val (SupG.val SupG.nil)) SupH.nil (lkOk rfl)
      ·
        have hst := hst.resolve_left (by show ¬ v0 = 0; omega)
        obtain ⟨k1, k2, k3, k4, X, Y, hE, hO, hYX, hsum, hgg⟩ := hst
        replace k1 : u0 < 4294967296 := k1
        replace k2 : u1 < 4294967296 := k2
        replace k3 : v0 < 4294967296 := k3
        replace k4 : v1 < 4294967296 := k4
        refine C_seq ?_
        refine C_reg ?_
        refine R1 (d_fieldO fo320_4 rfl) rfl ?_
        refine R_loadF (0) ti4 rfl rfl rfl (At.g 4 rfl rfl) rfl ?_
        refine R_nil (by kernel_rfl) ?_
        refine K_then ?_
        refine C_cond rfl (fun h18 => ?_) (fun h18 => ?_)
        ·
          obtain ⟨e1, e2⟩ := hE h18
          replace e1 : u0 * x = v0 * y + X := e1
          replace e2 : v1 * y = u1 * x + Y := e2
          refine C_draw mixed ?_
          refine R1 (d_fieldO fo320_0 rfl) rfl ?_
          refine R_loadF (0) ti121 rfl rfl rfl (At.g 0 rfl rfl) rfl ?_
          refine R1 d_move rfl ?_
          refine R1 (d_fieldO fo320_2 rfl) rfl ?_
          refine R_loadF (0) ti121 rfl rfl rfl (At.g 2 rfl rfl) rfl ?_
          refine R1 d_move rfl ?_
          refine RE (d_call (c_difference _ _ _ _ (by omega) (by omega) (by omega) (by omega) (by omega)) fi228 rfl) ⟨rfl, rfl, rfl, rfl, trivial⟩ trivial trivial ?_
          refine R1 (d_fieldO fo320_3 rfl) rfl ?_
          refine R_loadF (0) ti121 rfl rfl rfl (At.g 3 rfl rfl) rfl ?_
          refine R1 d_move rfl ?_
          refine R1 (d_fieldO fo320_1 rfl) rfl ?_
          refine R_loadF (0) ti121 rfl rfl rfl (At.g 1 rfl rfl) rfl ?_
          refine R1 d_move rfl ?_
          refine RE (d_call (c_difference _ _ _ _ (by omega) (by omega) (by omega) (by omega) (by omega)) fi228 rfl) ⟨rfl, rfl, rfl, rfl, trivial⟩ trivial trivial ?_
          refine R1 d_assign rfl ?_
          refine R1 d_assign rfl ?_
          refine R_end (by kernel_rfl) ?_
          refine K_norB ?_
          have hXl := dig_len_mono two_le_W (show X ≤ x by omega)
          exact K_fam ((X, Y)) ⟨(by dsimp only; exact ⟨hYX, by rw [hgg]; exact hg, by omega⟩), (by dsimp only; omega)⟩ (Sub.le rfl (Le.of (by dsimp only; rw [show v1 * y - u1 * x = Y by omega])) (Sub.le rfl (Le.of (by dsimp only; rw [show u0 * x - v0 * y = X by omega])) Sub.nil)) SubK.nil (SupG.val (SupG.val SupG.nil)) SupH.nil (lkOk rfl)
        ·
          obtain ⟨e1, e2⟩ := hO h18
          replace e1 : v0 * y = u0 * x + X := e1
          replace e2 : u1 * x = v1 * y + Y := e2
          refine C_draw mixed ?_
          refine R1 (d_fieldO fo320_2 rfl) rfl ?_
          refine R_loadF (0) ti121 rfl rfl rfl (At.g 2 rfl rfl) rfl ?_
          refine R1 d_move rfl ?_
          refine R1 (d_fieldO fo320_0 rfl) rfl ?_
          refine R_loadF (0) ti121 rfl rfl rfl (At.g 0 rfl rfl) rfl ?_
          refine R1 d_move rfl ?_
          refine RE (d_call (c_difference _ _ _ _ (by omega) (by omega) (by omega) (by omega) (by omega)) fi228 rfl) ⟨rfl, rfl, rfl, rfl, trivial⟩ trivial trivial ?_
          refine R1 (d_fieldO fo320_1 rfl) rfl ?_
          refine R_loadF (0) ti121 rfl rfl rfl (At.g 1 rfl rfl) rfl ?_
          refine R1 d_move rfl ?_
          refine R1 (d_fieldO fo320_3 rfl) rfl ?_
          refine R_loadF (0) ti121 rfl rfl rfl (At.g 3 rfl rfl) rfl ?_
          refine R1 d_move rfl ?_
          refine RE (d_call (c_difference _ _ _ _ (by omega) (by omega) (by omega) (by omega) (by omega)) fi228 rfl) ⟨rfl, rfl, rfl, rfl, trivial⟩ trivial trivial ?_
          refine R1 d_assign rfl ?_
          refine R1 d_assign rfl ?_
          refine R_end (by kernel_rfl) ?_
          refine K_norB ?_
          have hXl := dig_len_mono two_le_W (show X ≤ x by omega)
          exact K_fam ((X, Y)) ⟨(by dsimp only; exact ⟨hYX, by rw [hgg]; exact hg, by omega⟩), (by dsimp only; omega)⟩ (Sub.le rfl (Le.of (by dsimp only; rw [show u1 * x - v1 * y = Y by omega])) (Sub.le rfl (Le.of (by dsimp only; rw [show v0 * y - u0 * x = X by omega])) Sub.nil)) SubK.nil (SupG.val (SupG.val SupG.nil)) SupH.nil (lkOk rfl)
    ·
      refine C_exit ?_
      refine K_exT ?_
      refine K_exT ?_
      refine K_exB ?_
      refine K_then ?_
      refine C_seq ?_
      refine C_seq ?_
      refine C_reg ?_
      refine R1 d_move rfl ?_
      refine R1 (d_len Tryz.underlying133) rfl ?_
      refine R2 d_eql rfl rfl ?_
      refine R_nil (by kernel_rfl) ?_
      refine K_then ?_
      refine C_if rfl (fun h24 => ?_) (fun h24 => ?_)
      ·
        refine C_seq ?_
        refine C_reg ?_
        refine R1 d_move rfl ?_
        refine R1 d_assign rfl ?_
        refine R_nil (by kernel_rfl) ?_
        refine K_then ?_
        refine C_ret ?_
        refine K_retT ?_
        have hy0 : y = 0 := (dig_eq_nil two_le_W).1 (List.length_eq_zero_iff.1 (by omega))
        subst hy0
        exact E_ret1 Plain.mk' rfl rfl (Le.of (by rw [← hg, Nat.gcd_zero_right]))
      ·
        have hy0 : 0 < y := by
          rcases Nat.eq_zero_or_pos y with h | h
          · subst h; rw [dig_zero] at h24; simp at h24
          · exact h
        refine C_skip ?_
        refine K_then ?_
        refine C_join (fun (fm : (Nat) × (Nat)) => (fun (p2 : Nat) (q2 : Nat) => Nat.gcd p2 q2 = Nat.gcd a b ∧ (dig 4294967296 p2).length ≤ 2 ∧ (dig 4294967296 q2).length ≤ 2) fm.1 fm.2) (fun (fm : (Nat) × (Nat)) => (fun (p2 : Nat) (q2 : Nat) => upd (upd (fun _ => none) 0 (some (.val (tN p2)))) 1 (some (.val (tN q2)))) fm.1 fm.2) (fun (fm : (Nat) × (Nat)) => (fun (p2 : Nat) (q2 : Nat) => fun _ => none) fm.1 fm.2) (nm []) ?_ ?_
        ·
          refine C_seq ?_
          refine C_reg ?_
          refine R1 d_move rfl ?_
          refine R1 (d_len Tryz.underlying133) rfl ?_
          refine R2 d_gtr rfl rfl ?_
          refine R_nil (by kernel_rfl) ?_
          refine K_then ?_
          refine C_if rfl (fun h27 => ?_) (fun h27 => ?_)
          ·
            refine C_seq ?_
            refine C_reg ?_
            refine R1 d_move rfl ?_
            refine R1 d_move rfl ?_
            refine RE (d_call (c_divide _ _ (by omega) (by omega) (by omega)) fi181 rfl) ⟨rfl, rfl, trivial⟩ trivial trivial ?_
            refine R1 d_move rfl ?_
            refine R1 (d_extract rfl) rfl ?_
            refine R1 (d_extract rfl) rfl ?_
            refine R1 d_assign rfl ?_
            refine R1 d_assign rfl ?_
            refine R_nil (by kernel_rfl) ?_
            refine K_then ?_
            refine C_reg ?_
            refine R1 d_move rfl ?_
            refine R1 d_move rfl ?_
            refine R1 d_assign rfl ?_
            refine R1 d_assign rfl ?_
            refine R_nil (by kernel_rfl) ?_
            have hlt : x % y < y := Nat.mod_lt _ hy0
            have hml := dig_len_mono two_le_W (Nat.le_of_lt hlt)
            exact K_fam ((y, x % y)) (by dsimp only; exact ⟨by rw [Nat.gcd_comm, ← Nat.gcd_rec, Nat.gcd_comm]; exact hg, by omega, by omega⟩) (Sub.cons rfl (Sub.cons rfl Sub.nil)) SubK.nil (SupG.val (SupG.val SupG.nil)) SupH.nil (lkOk rfl)
          ·
            refine C_skip ?_
            exact K_fam ((x, y)) (by dsimp only; exact ⟨hg, by omega, by omega⟩) (Sub.cons rfl (Sub.cons rfl Sub.nil)) SubK.nil (SupG.val (SupG.val SupG.nil)) SupH.nil (lkOk rfl)
        ·
          intro fm hm
          obtain ⟨p2, q2⟩ := fm
          replace hm : Nat.gcd p2 q2 = Nat.gcd a b ∧ (dig 4294967296 p2).length ≤ 2 ∧ (dig 4294967296 q2).length ≤ 2 := hm
          show wc _ _ _ _ (upd (upd (fun _ => none) 0 (some (.val (tN p2)))) 1 (some (.val (tN q2)))) (fun _ => none) _
          obtain ⟨m1, m2, m3⟩ := hm
          refine C_seq ?_
          refine C_reg ?_
          refine R1 d_move rfl ?_
          refine R1 (d_call (c_long (dig 4294967296 p2) (by omega) (dig_Dig two_le_W _)) fi229 rfl) rfl ?_
          refine R1 d_move rfl ?_
          refine R1 (d_call (c_long (dig 4294967296 q2) (by omega) (dig_Dig two_le_W _)) fi229 rfl) rfl ?_
          refine R1 d_assign rfl ?_
          refine R1 d_assign rfl ?_
          refine R_nil (by kernel_rfl) ?_
          refine K_then ?_
          refine C_seq ?_
          refine C_block ?_
          have hp2 := (len_le_iff two_le_W p2 2).1 m2
          have hq2 := (len_le_iff two_le_W q2 2).1 m3
          refine C_loop (fun (fm : (Nat) × (Nat)) => (fun (r : Nat) (t : Nat) => Nat.gcd r t = Nat.gcd a b ∧ r < 18446744073709551616 ∧ t < 18446744073709551616) fm.1 fm.2) (fun (fm : (Nat) × (Nat)) => (fun (r : Nat) (t : Nat) => upd (upd (fun _ => none) 10 (some (.val (tE (.int .u64 ((r : Nat) : Int)))))) 11 (some (.val (tE (.int .u64 ((t : Nat) : Int)))))) fm.1 fm.2) (fun (fm : (Nat) × (Nat)) => (fun (r : Nat) (t : Nat) => fun _ => none) fm.1 fm.2) (nm []) (fun (fm : (Nat) × (Nat)) => (fun (r : Nat) (t : Nat) => t) fm.1 fm.2) ((p2, q2)) (by dsimp only; exact ⟨m1, hp2, hq2⟩) (Sub.le rfl (Le.int (by dsimp only; rw [val_dig two_le_W])) (Sub.le rfl (Le.int (by dsimp only; rw [val_dig two_le_W])) Sub.nil)) SubK.nil (SupG.val (SupG.val SupG.nil)) SupH.nil (lkOk rfl) ?_
          intro fm hT
          obtain ⟨r, t⟩ := fm
          replace hT : Nat.gcd r t = Nat.gcd a b ∧ r < 18446744073709551616 ∧ t < 18446744073709551616 := hT
          show wc _ _ _ _ (upd (upd (fun _ => none) 10 (some (.val (tE (.int .u64 ((r : Nat) : Int)))))) 11 (some (.val (tE (.int .u64 ((t : Nat) : Int)))))) (fun _ => none) _
          obtain ⟨t1, t2, t3⟩ := hT
          refine C_seq ?_
          refine C_seq ?_
          refine C_reg ?_
          refine R1 d_move rfl ?_
          refine R2 d_neq rfl rfl ?_
          refine R_nil (by kernel_rfl) ?_
          refine K_then ?_
          refine C_if rfl (fun h32 => ?_) (fun h32 => ?_)
          ·
            refine C_skip ?_
            refine K_then ?_
            refine C_block ?_
            refine C_draw mixed ?_
            refine R1 d_move rfl ?_
            refine R1 d_move rfl ?_
            refine R1 d_move rfl ?_
            refine R2 (d_rem (by omega) wrem64) rfl rfl ?_
            refine R1 d_assign rfl ?_
            refine R1 d_assign rfl ?_
            refine R_end (by kernel_rfl) ?_
            refine K_norB ?_
            have hlt : r % t < t := Nat.mod_lt _ (by omega)
            exact K_fam ((t, r % t)) ⟨(by dsimp only; exact ⟨by rw [Nat.gcd_comm, ← Nat.gcd_rec, Nat.gcd_comm]; exact t1, by omega, by omega⟩), (by dsimp only; omega)⟩ (Sub.int rfl (by first | omega | rfl | (dsimp only; omega)) (Sub.int rfl (by first | omega | rfl | (dsimp only; omega)) Sub.nil)) SubK.nil (SupG.val (SupG.val SupG.nil)) SupH.nil (lkOk rfl)
          ·
            refine C_exit ?_
            refine K_exT ?_
            refine K_exT ?_
            refine K_exB ?_
            refine K_then ?_
            refine C_seq ?_
            refine C_reg ?_
            refine R1 d_move rfl ?_
            refine RE (d_call (c_short _ (by omega)) fi230 rfl) ⟨rfl, trivial⟩ trivial trivial ?_
            refine R1 d_assign rfl ?_
            refine R_nil (by kernel_rfl) ?_
            refine K_then ?_
            refine C_ret ?_
            exact E_ret1 Plain.mk' rfl rfl (Le.of (by rw [← t1, show t = 0 by omega, Nat.gcd_zero_right]))
end An.S

/- Whole numbers: signs and limbs. -/
namespace An
open Go
structure Wh where
  neg : Bool
  l : List Nat
deriving DecidableEq
abbrev tWh (x : Wh) : Ty := tS [⟨1, false, tB x.neg⟩, ⟨1, false, tLm x.l⟩]
def wh (z : Int) : Wh := ⟨decide (z < 0), dig 65536 z.natAbs⟩
def len16 (z : Int) : Nat := (dig 65536 z.natAbs).length
def Wh.valid (x : Wh) : Bool := if x.l.length = 0 then !x.neg else decide (x.l.length ≤ 1024) && decide (x.l.getD (x.l.length - 1) 0 ≠ 0)
theorem two_le_L : 2 ≤ 65536 := by decide
theorem val_zero_of_dig {l : List Nat} (hD : Dig 65536 l) (ht : Top l) (h : val 65536 l = 0) : l = [] := by
  have := dig_unique two_le_L hD ht
  rw [h, dig_zero] at this; exact this.symm
theorem Wh.of_valid {x : Wh} (hD : Dig 65536 x.l) (h : x.valid = true) : ∃ z : Int, x = wh z ∧ len16 z ≤ 1024 := by
  obtain ⟨neg, l⟩ := x
  simp only [Wh.valid] at h
  split at h
  · rename_i h0
    have hl : l = [] := List.length_eq_zero_iff.1 h0
    subst hl
    refine ⟨0, ?_, by simp [len16, dig_zero]⟩
    have : neg = false := by simpa using h
    subst this
    simp [wh, dig_zero]
  · rename_i h0
    simp only [Bool.and_eq_true, decide_eq_true_eq] at h
    have ht : Top l := by
      intro x hx
      have h1 : l.getD (l.length - 1) 0 = x := by
        rw [List.getD_eq_getElem?_getD, ← List.getLast?_eq_getElem?, hx]; rfl
      rw [← h1]; exact h.2
    have hu := dig_unique two_le_L hD ht
    have hv : val 65536 l ≠ 0 := fun h' => h0 (by have hl0 : l = [] := val_zero_of_dig hD ht h'; rw [hl0]; rfl)
    refine ⟨if neg then -(val 65536 l : Int) else (val 65536 l : Int), ?_, ?_⟩
    · cases neg with
      | true =>
        simp only [wh, ↓reduceIte, Int.natAbs_neg, Int.natAbs_natCast]
        rw [hu]; congr 1; simp; omega
      | false =>
        simp only [wh, Bool.false_eq_true, ↓reduceIte, Int.natAbs_natCast]
        rw [hu]; simp
    · have e : (if neg then -(val 65536 l : Int) else (val 65536 l : Int)).natAbs = val 65536 l := by cases neg <;> simp
      rw [len16, e, hu]; exact h.1
theorem valid_wh {z : Int} (h : len16 z ≤ 1024) : (wh z).valid = true := by
  unfold Wh.valid
  by_cases h0 : (wh z).l.length = 0
  · rw [if_pos h0]
    have : z.natAbs = 0 := (dig_eq_nil two_le_L).1 (List.length_eq_zero_iff.1 h0)
    show (!decide (z < 0)) = true
    simp; omega
  · rw [if_neg h0]
    have h1 : (wh z).l.length ≤ 1024 := h
    simp only [Bool.and_eq_true, decide_eq_true_eq]
    refine ⟨h1, ?_⟩
    have ht : Top (wh z).l := dig_Top two_le_L z.natAbs
    refine ht _ ?_
    rw [List.getLast?_eq_getElem?, List.getD_eq_getElem?_getD]
    rw [List.getElem?_eq_getElem (by omega)]; rfl
/-- A number with a sign. -/
def sgn (p : Bool) (v : Nat) : Int := if p then -(v : Int) else v
theorem natAbs_sgn (p : Bool) (v : Nat) : (sgn p v).natAbs = v := by cases p <;> simp [sgn]
theorem wh_sgn (p : Bool) (v : Nat) : wh (sgn p v) = ⟨p && decide (v ≠ 0), dig 65536 v⟩ := by
  simp only [wh, natAbs_sgn]
  congr 1
  cases p
  · simp [sgn]
  · simp only [sgn, ↓reduceIte, Bool.true_and]
    by_cases h : v = 0 <;> simp [h]; omega
theorem sgn_wh (z : Int) : sgn (wh z).neg z.natAbs = z := by
  simp only [sgn, wh]
  by_cases h : z < 0 <;> simp [h] <;> omega
theorem wh_inj {x y : Int} (h : wh x = wh y) : x = y := by
  have h1 : dig 65536 x.natAbs = dig 65536 y.natAbs := congrArg Wh.l h
  have h2 : (wh x).neg = (wh y).neg := congrArg Wh.neg h
  have h3 : x.natAbs = y.natAbs := by rw [← val_dig two_le_L x.natAbs, h1, val_dig two_le_L]
  rw [← sgn_wh x, ← sgn_wh y, h2, h3]
/-! Limbs and words. -/
theorem pow2k (k : Nat) : 4294967296 ^ k = 65536 ^ (2 * k) := by rw [Nat.pow_mul]
theorem len32 (v : Nat) : (dig 4294967296 v).length = ((dig 65536 v).length + 1) / 2 := by
  have h : ∀ k, (dig 4294967296 v).length ≤ k ↔ (dig 65536 v).length ≤ 2 * k := fun k => by
    rw [len_le_iff two_le_W, len_le_iff two_le_L, pow2k]
  have h1 := (h (dig 4294967296 v).length).1 (Nat.le_refl _)
  have h2 := (h (((dig 65536 v).length + 1) / 2)).2 (by omega)
  omega
theorem pack_dig (v : Nat) : dgs 4294967296 (((dig 65536 v).length + 1) / 2) (val 65536 (dig 65536 v)) = dig 4294967296 v := by
  rw [val_dig two_le_L, ← len32, dig_eq_dgs two_le_W]
theorem unpack_in {v i n : Nat} {ls : List Nat} (hi : i < n) (hl : ls.length = 2 * n) (ht : ls.take (2 * i) = dgs 65536 (2 * i) v) :
    ((ls.set (2 * i) (v / 4294967296 ^ i % 4294967296 % 65536)).set (2 * i + 1) (v / 4294967296 ^ i % 4294967296 / 2 ^ 16)).length = 2 * n ∧
      ((ls.set (2 * i) (v / 4294967296 ^ i % 4294967296 % 65536)).set (2 * i + 1) (v / 4294967296 ^ i % 4294967296 / 2 ^ 16)).take (2 * (i + 1)) = dgs 65536 (2 * (i + 1)) v := by
  refine ⟨by simpa using hl, ?_⟩
  rw [show 2 * (i + 1) = 2 * i + 1 + 1 by omega, take_set_succ (by simpa using (by omega : 2 * i + 1 < ls.length)), take_set_succ (by omega), ht, dgs_succ, dgs_succ, pow2k]
  congr 1
  · congr 2
    exact Nat.mod_mod_of_dvd _ (by decide)
  · congr 1
    show v / 65536 ^ (2 * i) % 4294967296 / 65536 = _
    rw [Nat.pow_succ 65536 (2 * i), ← Nat.div_div_eq_div_mul]
    have : ∀ x : Nat, x % 4294967296 / 65536 = x / 65536 % 65536 := fun x => by omega
    exact this _
theorem unpack_end {v n : Nat} {ls : List Nat} (hn : (dig 4294967296 v).length = n) (hv : 0 < v) (hl : ls.length = 2 * n) (ht : ls.take (2 * n) = dgs 65536 (2 * n) v) :
    (ls.getD (2 * n - 1) 0 = 0 → ls.take (2 * n - 1) = dig 65536 v) ∧ (ls.getD (2 * n - 1) 0 ≠ 0 → ls = dig 65536 v) ∧ 1 ≤ n := by
  have h32 := len32 v
  rw [hn] at h32
  have h16 := len_pos two_le_L hv
  rw [← hl, List.take_length, hl] at ht
  subst ht
  have hg : (dgs 65536 (2 * n) v).getD (2 * n - 1) 0 = v / 65536 ^ (2 * n - 1) % 65536 := dgs_getD (by omega)
  refine ⟨fun h => ?_, fun h => ?_, by omega⟩
  · rw [hg] at h
    rw [take_dgs (by omega)]
    have h1 : v < 65536 ^ (2 * n - 1) := by
      have h2 := (len_le_iff two_le_L v (2 * n)).1 (by omega)
      have e : 65536 ^ (2 * n) = 65536 ^ (2 * n - 1) * 65536 := by rw [← Nat.pow_succ]; congr 1; omega
      rw [e] at h2
      have h3 : v / 65536 ^ (2 * n - 1) < 65536 := Nat.div_lt_of_lt_mul h2
      rw [Nat.mod_eq_of_lt h3] at h
      exact (Nat.div_eq_zero_iff_lt (Nat.pow_pos (by decide))).1 h
    have h4 := (len_le_iff two_le_L v (2 * n - 1)).2 h1
    have h5 : (dig 65536 v).length = 2 * n - 1 := by omega
    rw [← h5, dig_eq_dgs two_le_L]
  · rw [hg] at h
    have h4 : ¬ (dig 65536 v).length ≤ 2 * n - 1 := fun h' => h (by rw [Nat.div_eq_of_lt ((len_le_iff two_le_L v _).1 h')])
    have h5 : (dig 65536 v).length = 2 * n := by omega
    rw [← h5, dig_eq_dgs two_le_L]
theorem cut16 {m : Nat} : IntKind.u16.wrap (m : Int) = ((m % 65536 : Nat) : Int) := by rw [mu16]; omega
end An

/- Whole numbers: sums, products, comparing, quotients. -/
namespace An
def resW (z : Int) : Wh := if len16 z ≤ 1024 then wh z else ⟨false, []⟩
def resE (z : Int) : Int := if len16 z ≤ 1024 then 0 else 3
theorem len32_le {z : Int} {n : Nat} (h : len16 z ≤ n) : (dig 4294967296 z.natAbs).length ≤ n := by
  have h1 : (dig 65536 z.natAbs).length ≤ n := h
  rw [len32]; omega
theorem len_add {m n k : Nat} (hm : (dig 4294967296 m).length ≤ k) (hn : (dig 4294967296 n).length ≤ k) : (dig 4294967296 (m + n)).length ≤ k + 1 := by
  rw [len_le_iff two_le_W] at *
  rw [Nat.pow_succ]; generalize (4294967296 : Nat) ^ k = P at *; omega
theorem len_mul {m n k : Nat} (hm : (dig 4294967296 m).length ≤ k) (hn : (dig 4294967296 n).length ≤ k) : (dig 4294967296 (m * n)).length ≤ k + k := by
  rw [len_le_iff two_le_W] at *
  rw [Nat.pow_add]
  exact Nat.mul_lt_mul'' hm hn
theorem len_gcd {m n k : Nat} (hm : (dig 4294967296 m).length ≤ k) (hn : (dig 4294967296 n).length ≤ k) : (dig 4294967296 (Nat.gcd m n)).length ≤ k := by
  rcases Nat.eq_zero_or_pos m with h | h
  · subst h; rw [Nat.gcd_zero_left]; exact hn
  · exact Nat.le_trans (dig_len_mono two_le_W (Nat.gcd_le_left n h)) hm
theorem sgn_add {p : Bool} {m n : Nat} : sgn p (m + n) = sgn p m + sgn p n := by
  cases p <;> simp only [sgn, Bool.false_eq_true, ↓reduceIte] <;> omega
theorem sgn_sub {p : Bool} {m n : Nat} (h : n ≤ m) : sgn p (m - n) = sgn p m + sgn (!p) n := by
  cases p <;> simp only [sgn, Bool.false_eq_true, ↓reduceIte, Bool.not_true, Bool.not_false] <;> omega
theorem sgn_sub' {p : Bool} {m n : Nat} (h : m ≤ n) : sgn (!p) (n - m) = sgn p m + sgn (!p) n := by
  cases p <;> simp only [sgn, Bool.false_eq_true, ↓reduceIte, Bool.not_true, Bool.not_false] <;> omega
theorem sgn_mul {x y : Int} : sgn (!((wh x).neg == (wh y).neg)) (x.natAbs * y.natAbs) = x * y := by
  have hx := sgn_wh x
  have hy := sgn_wh y
  conv => rhs; rw [← hx, ← hy]
  generalize (wh x).neg = p
  generalize (wh y).neg = q
  cases p <;> cases q <;> simp [sgn, Int.mul_neg, Int.neg_mul]
/-- -1, 0, 1. -/
def cmpZ (x y : Int) : Int := if x < y then -1 else if x = y then 0 else 1
theorem cmpN_bd (a b : Nat) : -1 ≤ cmpN a b ∧ cmpN a b ≤ 1 := by
  simp only [cmpN]; split
  · omega
  · split <;> omega
theorem cmpZ_a {x y : Int} (h : (decide (x < 0) == decide (y < 0)) = false) (hx : x < 0) : cmpZ x y = -1 := by
  have : ¬ y < 0 := by intro hy; simp [hx, hy] at h
  rw [cmpZ, if_pos (by omega)]
theorem cmpZ_b {x y : Int} (h : (decide (x < 0) == decide (y < 0)) = false) (hx : ¬ x < 0) : cmpZ x y = 1 := by
  have : y < 0 := by
    rcases Int.lt_or_le y 0 with hy | hy
    · exact hy
    · simp [hx, show ¬ y < 0 by omega] at h
  rw [cmpZ, if_neg (by omega), if_neg (by omega)]
theorem cmpZ_c {x y : Int} (h : decide (x < 0) = decide (y < 0)) (hx : x < 0) : cmpZ x y = - cmpN x.natAbs y.natAbs := by
  have hy : y < 0 := by rw [decide_eq_true hx] at h; exact of_decide_eq_true h.symm
  simp only [cmpZ, cmpN]
  split
  · rw [if_neg (by omega), if_neg (by omega)]
  · split
    · rw [if_neg (by omega), if_pos (by omega)]; rfl
    · rw [if_pos (by omega)]; rfl
theorem cmpZ_d {x y : Int} (h : decide (x < 0) = decide (y < 0)) (hx : ¬ x < 0) : cmpZ x y = cmpN x.natAbs y.natAbs := by
  have hy : ¬ y < 0 := by rw [decide_eq_false hx] at h; exact of_decide_eq_false h.symm
  simp only [cmpZ, cmpN]
  split
  · rw [if_pos (by omega)]
  · split
    · rw [if_neg (by omega), if_pos (by omega)]
    · rw [if_neg (by omega), if_neg (by omega)]
end An
