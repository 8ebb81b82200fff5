/- Part 5 of a proof: W22, W23, Ref, W16, Ref2, W17, Ref3, W18, W19, W20, W24, W25, Back, Shares, W26, W27, LawA, W28. -/
import Derived.Test.YtakdpdkifnkaeaaGreatS4
/- Package split: the divider. -/
namespace An.S
open Go Go.Proofs An
set_option maxHeartbeats 2000000
theorem ti116 : TyI Tryz.prog 116 1 false := ⟨by kernel_rfl, by kernel_rfl⟩
theorem fo81_0 : fieldO Tryz.prog 81 0 = some 0 := by kernel_rfl
theorem fo81_1 : fieldO Tryz.prog 81 1 = some 3 := by kernel_rfl
theorem fi50 : FnI Tryz.prog 50 := ⟨_, Tryz.func50, by kernel_rfl, rfl⟩
theorem fi81 : FnI Tryz.prog 81 := ⟨_, Tryz.func81, by kernel_rfl, rfl⟩
theorem zr3 : (Tryz.prog.info? 3).bind (·.zero) = some (.int .i64 0) ∧ ∀ F w, (tE (.int .i64 0)).p F w (.int .i64 0) := ⟨by kernel_rfl, fun _ _ => rfl⟩
theorem zr4 : (Tryz.prog.info? 4).bind (·.zero) = some (.bool false) ∧ ∀ F w, (tE (.bool false)).p F w (.bool false) := ⟨by kernel_rfl, fun _ _ => rfl⟩
theorem zr23 : (Tryz.prog.info? 23).bind (·.zero) = some (.slice none 0 0) ∧ ∀ F w, (tIs []).p F w (.slice none 0 0) := ⟨by kernel_rfl, fun _ _ => ⟨none, 0, rfl, Nat.le_refl _, by decide, .inl rfl⟩⟩
theorem rI_get_set {xs : List Int} {i : Nat} {m : Int} (h : i < xs.length) : (rI (xs.set i m))[i]? = some (.val (tI m)) := by
  rw [rI, List.getElem?_map, List.getElem?_set_self h]; rfl
def dvAll (l : List Deal) (m : Int) (b p : List Int) (a : Int) : Dv × Bool := dvRun l ⟨b, p, List.replicate (l.length + 1) 0, a⟩ (apl l m)
theorem c_divideS (l : List Deal) (m a o : Int) (b p : List Int) (hv : validL l = true) (hd : ∀ d ∈ l, d.share.dig) (hb : b.length = l.length) (hp : p.length = l.length) (hw0 : ∀ i, i < l.length → wIn (b.getD i 0) = true ∧ wIn (p.getD i 0) = true) (ho : wIn o = true) (ha : wIn a = true) :
    CtG Tryz.prog 47 [(100, ⟨81, 1, false, [.val (tI o), .own (.sl 101 1 0 l.length), .own (.sl 102 1 0 l.length), .val (tL 7 true tDeal l)]⟩), (101, ⟨3, 1, false, rI b⟩), (102, ⟨3, 1, false, rI p⟩)] [.own (.ptr 100 0), .val (tI m), .val (tI a)] (.val (tT [tIs (bif (dvAll l m b p a).2 then (dvAll l m b p a).1.q.set 0 (dvAll l m b p a).1.r else []), tB ((dvAll l m b p a).2 && wIn (o + (dvAll l m b p a).1.r))])) [(100, ⟨81, 1, false, [.val (tI (bif (dvAll l m b p a).2 then o + (dvAll l m b p a).1.r else o)), .own (.sl 101 1 0 l.length), .own (.sl 102 1 0 l.length), .val (tL 7 true tDeal l)]⟩), (101, ⟨3, 1, false, rI (dvAll l m b p a).1.b⟩), (102, ⟨3, 1, false, rI (dvAll l m b p a).1.p⟩)] [] := by
  refine CtG.intro [100, 101, 102] Tryz.func47 rfl Tryz.ntmps47 rfl rfl ⟨⟨rfl, (SupX.lit rfl)⟩, ⟨rfl, sup_rI⟩, ⟨rfl, sup_rI⟩, trivial⟩ ?_
  intro w F η
  have hl16 := validL_len hv
  obtain ⟨a1, a2⟩ := wIn_iff.1 ha
  obtain ⟨o1, o2⟩ := wIn_iff.1 ho
  have hI0 : DvI l 0 ⟨b, p, List.replicate (l.length + 1) 0, a⟩ := ⟨hb, hp, List.length_replicate, hw0, by simp only [Int.natCast_zero]; omega⟩
  refine C_seq ?_
  refine C_reg ?_
  refine RE (d_box (k := 3) ti116 rfl) ⟨rfl, trivial⟩ trivial ⟨rfl, trivial⟩ ?_
  refine RE (d_alloc (k := 6) (n := 1) (agg := false) zr23.1 zr23.2 rfl) trivial trivial ⟨rfl, trivial⟩ ?_
  refine RE (d_alloc (k := 7) (n := 1) (agg := false) zr4.1 zr4.2 rfl) trivial trivial ⟨rfl, trivial⟩ ?_
  refine R_nil (by kernel_rfl) ?_
  refine K_then ?_
  refine C_seq ?_
  refine C_reg ?_
  refine RE (d_load (0) ti116 rfl rfl) ⟨rfl, trivial⟩ ⟨rfl, trivial⟩ trivial ?_
  refine R1 d_nilCheckO rfl ?_
  refine R1 (d_fieldO fo81_1 rfl) rfl ?_
  refine RE (d_load (3) ti22 rfl rfl) ⟨rfl, trivial⟩ ⟨rfl, trivial⟩ trivial ?_
  refine R1 (d_len Tryz.underlying22) rfl ?_
  refine R2 (d_add (by first | exact wr64 (by omega) (by omega))) rfl rfl ?_
  refine RE (d_makeO (k := 19) (t := tE (.int .i64 0)) (ts := rI (List.replicate (l.length + 1) 0)) (l.length + 1) (l.length + 1) Tryz.underlying23 el3 (fun _ _ => rfl) rfl (by omega) (by omega) (Nat.le_refl _) (by omega) (by omega) (rI_rep _)) ⟨rfl, rfl, trivial⟩ trivial ⟨rfl, trivial⟩ ?_
  refine RE (d_alloc (k := 8) (n := 1) (agg := false) zr23.1 zr23.2 rfl) trivial trivial ⟨rfl, trivial⟩ ?_
  refine RE (d_store (es := 1) (agg := false) (0) ti23 rfl rfl rfl) ⟨rfl, rfl, trivial⟩ ⟨rfl, trivial⟩ trivial ?_
  refine R_nil (by kernel_rfl) ?_
  refine K_then ?_
  refine C_seq ?_
  refine C_reg ?_
  refine R1 d_move rfl ?_
  refine RE (d_alloc (k := 9) (n := 1) (agg := false) zr3.1 zr3.2 rfl) trivial trivial ⟨rfl, trivial⟩ ?_
  refine RE (d_store (es := 1) (agg := false) (0) ti3 rfl rfl rfl) ⟨rfl, rfl, trivial⟩ ⟨rfl, trivial⟩ trivial ?_
  refine R_nil (by kernel_rfl) ?_
  refine K_then ?_
  refine C_seq ?_
  refine C_seq ?_
  refine C_reg ?_
  refine RE (d_load (0) ti116 rfl rfl) ⟨rfl, trivial⟩ ⟨rfl, trivial⟩ trivial ?_
  refine R1 d_nilCheckO rfl ?_
  refine R1 (d_fieldO fo81_1 rfl) rfl ?_
  refine RE (d_load (3) ti22 rfl rfl) ⟨rfl, trivial⟩ ⟨rfl, trivial⟩ trivial ?_
  refine R1 d_move rfl ?_
  refine RE (d_callGX (fun j => cond (Nat.beq j 2) 26 (1026)) (c_applying l m) fi50 rfl (krN (ρ := fun j => cond (Nat.beq j 2) 26 (1026))) (krC (ρ := fun j => cond (Nat.beq j 2) 26 (1026)) (k := 2) rfl (krC (ρ := fun j => cond (Nat.beq j 2) 26 (1026)) (k := 3) rfl (krN (ρ := fun j => cond (Nat.beq j 2) 26 (1026))))) ⟨⟨rfl, (SupX.lit rfl)⟩, ⟨rfl, (SupX.lit rfl)⟩, trivial⟩ rfl) ⟨rfl, rfl, trivial⟩ trivial ⟨rfl, rfl, trivial⟩ ?_
  refine R_nil (by kernel_rfl) ?_
  refine K_then ?_
  refine C_block ?_
  refine C_range (caps := [.ptr 1 0, .ptr 2 0]) (κ := Unit) (fun j => cond (Nat.beq j 2) 1026 (cond (Nat.beq j 1) 26 (j))) rfl (fun _ h => h) trivial (i_applying l m hl16) fi81 rfl ⟨rfl, rfl, trivial⟩ rfl rfl (fun _ _ => rfl) (upd (upd (upd (upd (upd (fun _ => none) 3 (some (.own (.ptr 3 0)))) 6 (some (.own (.ptr 6 0)))) 7 (some (.own (.ptr 7 0)))) 8 (some (.own (.ptr 8 0)))) 9 (some (.own (.ptr 9 0)))) [3, 6, 7, 8, 9, 19, 100, 101, 102] [3, 6, 7, 8, 9] (Sub.cons rfl (Sub.cons rfl (Sub.cons rfl (Sub.cons rfl (Sub.cons rfl Sub.nil))))) (SupG.own rfl (SupG.own rfl (SupG.own rfl (SupG.own rfl (SupG.own rfl SupG.nil))))) rfl (lkOk rfl) (fun (k : Nat) (s : Dv) => DvI l k s ∧ dvRun l s ((apl l m).drop k) = (dvAll l m b p a)) (fun (k : Nat) (s : Dv) => upd (upd (upd (upd (upd (upd (upd (upd (upd (fun _ => none) 3 (some (⟨116, 1, false, [.own (.ptr 100 0)]⟩))) 6 (some (⟨23, 1, false, [.val (tIs [])]⟩))) 7 (some (⟨4, 1, false, [.val (tE (.bool false))]⟩))) 8 (some (⟨23, 1, false, [.own (.sl 19 1 0 (l.length + 1))]⟩))) 9 (some (⟨3, 1, false, [.val (tI s.r)]⟩))) 19 (some (⟨3, 1, false, rI s.q⟩))) 100 (some (⟨81, 1, false, [.val (tI o), .own (.sl 101 1 0 l.length), .own (.sl 102 1 0 l.length), .val (tL 7 true tDeal l)]⟩))) 101 (some (⟨3, 1, false, rI s.b⟩))) 102 (some (⟨3, 1, false, rI s.p⟩))) (fun k x => (SupH.cons rfl (supJ sup_rI) (SupH.cons rfl (supJ sup_rI) (SupH.cons rfl (supJL rfl) (SupH.cons rfl (supJ sup_rI) (SupH.cons rfl (supJL rfl) (SupH.cons rfl (supJL rfl) (SupH.cons rfl (supJL rfl) (SupH.cons rfl (supJL rfl) (SupH.cons rfl (supJL rfl) SupH.nil)))))))))) (fun k x y hy => by simp only [List.mem_cons, List.not_mem_nil, or_false] at hy; rcases hy with rfl | rfl <;> rfl) (fun e (_ : Unit) => e = .ret ∧ (dvAll l m b p a).2 = false) (fun (_ : Unit) => upd (upd (upd (upd (upd (fun _ => none) 6 (some (⟨23, 1, false, [.val (tE (.slice none 0 0))]⟩))) 7 (some (⟨4, 1, false, [.val (tE (.bool false))]⟩))) 100 (some (⟨81, 1, false, [.val (tI o), .own (.sl 101 1 0 l.length), .own (.sl 102 1 0 l.length), .val (tL 7 true tDeal l)]⟩))) 101 (some (⟨3, 1, false, rI (dvAll l m b p a).1.b⟩))) 102 (some (⟨3, 1, false, rI (dvAll l m b p a).1.p⟩))) (fun _ _ h => .inl h.1) (⟨b, p, List.replicate (l.length + 1) 0, a⟩) ⟨hI0, rfl⟩ (SubK.cons rfl (SubK.cons rfl (SubK.cons rfl (SubK.cons rfl (SubK.cons rfl (SubK.cons rfl (SubK.cons rfl (SubK.cons rfl (SubK.cons rfl SubK.nil))))))))) ?_ ?_ ?_
  ·
    intro D lp o1 o2 O W lη lb V0 k s hk hI
    obtain ⟨hv1, hrun⟩ := hI
    have hbl := hv1.b
    have hpl := hv1.p
    have hql := hv1.q
    have hr := hv1.r
    have hN := apl_len (l := l) (m := m)
    obtain ⟨hi, hon⟩ := apl_lt hk
    have hbw := wIn_iff.1 (hv1.w _ hi).1
    have hpw := wIn_iff.1 (hv1.w _ hi).2
    apply rnd_mk
    ·
      refine C_seq ?_
      refine C_reg ?_
      refine R1 d_assign rfl ?_
      refine R_nil (by kernel_rfl) ?_
      refine K_then ?_
      refine C_reg ?_
      refine RE (d_alloc (k := 11) (n := 7) (agg := true) zr68.1 zr68.2 rfl) trivial trivial ⟨rfl, trivial⟩ ?_
      refine RE (d_store (es := 7) (agg := true) (0) ti68 rfl rfl rfl) ⟨rfl, rfl, trivial⟩ ⟨rfl, trivial⟩ trivial ?_
      refine R_nil (by kernel_rfl) ?_
      exact K_thenF fun _ _ h => h
    ·
      refine C_block ?_
      refine C_seq ?_
      refine C_draw mixed ?_
      refine RE (d_load (0) ti116 rfl rfl) ⟨rfl, trivial⟩ ⟨rfl, trivial⟩ trivial ?_
      refine R1 d_nilCheckO rfl ?_
      refine R1 (d_fieldO fo81_0 rfl) rfl ?_
      refine R1 (d_fieldO fo25_1 rfl) rfl ?_
      refine RE (d_load (1) ti23 rfl rfl) ⟨rfl, trivial⟩ ⟨rfl, trivial⟩ trivial ?_
      refine R1 d_move rfl ?_
      refine R2 (d_indexO sl23 (by omega) (by omega) rfl) rfl rfl ?_
      refine RE (d_load (((apl l m).getD k 0)) ti3 (rI_get (by omega)) (by omega)) ⟨rfl, trivial⟩ ⟨rfl, trivial⟩ trivial ?_
      refine RE (d_load (0) ti3 rfl rfl) ⟨rfl, trivial⟩ ⟨rfl, trivial⟩ trivial ?_
      refine R2 (d_add (by first | exact wr64 (by omega) (by omega))) rfl rfl ?_
      refine R2 (d_indexO sl23 (by omega) (by omega) rfl) rfl rfl ?_
      refine RE (d_store (((apl l m).getD k 0)) ti3 (rI_lt (by omega)) (by omega) (rI_set (m := (s.n ((apl l m).getD k 0))) rfl)) ⟨rfl, rfl, trivial⟩ ⟨rfl, trivial⟩ trivial ?_
      refine R_end (by kernel_rfl) ?_
      refine K_then ?_
      refine C_seq ?_
      refine C_seq ?_
      refine C_reg ?_
      refine RE (d_load (0) ti116 rfl rfl) ⟨rfl, trivial⟩ ⟨rfl, trivial⟩ trivial ?_
      refine R1 d_nilCheckO rfl ?_
      refine R1 (d_fieldO fo81_0 rfl) rfl ?_
      refine R1 (d_fieldO fo25_1 rfl) rfl ?_
      refine RE (d_load (1) ti23 rfl rfl) ⟨rfl, trivial⟩ ⟨rfl, trivial⟩ trivial ?_
      refine R1 d_move rfl ?_
      refine R2 (d_indexO sl23 (by omega) (by omega) rfl) rfl rfl ?_
      refine RE (d_load (((apl l m).getD k 0)) ti3 (rI_get_set (by omega)) (by omega)) ⟨rfl, trivial⟩ ⟨rfl, trivial⟩ trivial ?_
      refine R1 (d_call (c_within _) fi45 rfl) rfl ?_
      refine R1 d_not rfl ?_
      refine R_nil (by kernel_rfl) ?_
      refine K_then ?_
      refine C_cond rfl (fun h116 => ?_) (fun h116 => ?_)
      ·
        have hw : wIn (s.n ((apl l m).getD k 0)) = false := by rw [Bool.not_eq_true'] at h116; exact h116
        refine C_seq ?_
        refine C_reg ?_
        refine RE (d_store (es := 1) (agg := false) (0) ti23 rfl rfl rfl) ⟨rfl, rfl, trivial⟩ ⟨rfl, trivial⟩ trivial ?_
        refine RE (d_store (es := 1) (agg := false) (0) ti4 rfl rfl rfl) ⟨rfl, rfl, trivial⟩ ⟨rfl, trivial⟩ trivial ?_
        refine R_nil (by kernel_rfl) ?_
        refine K_then ?_
        refine C_ret ?_
        refine K_retT ?_
        refine K_retB ?_
        exact K_rndX (()) (.inl rfl) (⟨rfl, by rw [run_no hk hrun hw]⟩) ((SubK.cons (by rw [run_no hk hrun hw]; rfl)) ((SubK.cons (by rw [run_no hk hrun hw]; rfl)) (SubK.cons rfl (SubK.cons rfl (SubK.cons rfl SubK.nil))))) (SupH.cons rfl (supJ sup_rI) (SupH.cons rfl (supJ sup_rI) (SupH.cons rfl (supJL rfl) (SupH.cons rfl (supJL rfl) (SupH.cons rfl (supJL rfl) SupH.nil))))) (lkOk rfl)
      ·
        have hw : wIn (s.n ((apl l m).getD k 0)) = true := by rw [Bool.not_eq_false'] at h116; exact h116
        have hpd2 := wIn_iff.1 (DvI.pd (s := s) hv hd hi hw)
        have hpd : -1099511627776 ≤ take (l.getD ((apl l m).getD k 0) deal0).share.rat (s.n ((apl l m).getD k 0)) ∧ take (l.getD ((apl l m).getD k 0) deal0).share.rat (s.n ((apl l m).getD k 0)) ≤ 1099511627776 := wIn_iff.1 (DvI.pd hv hd hi hw)
        refine C_skip ?_
        refine K_then ?_
        refine C_seq ?_
        refine C_draw mixed ?_
        refine R1 (d_fieldO fo68_2 rfl) rfl ?_
        refine R_loadF (0) ti50 rfl rfl rfl (At.g 2 rfl rfl) rfl ?_
        refine RE (d_load (0) ti116 rfl rfl) ⟨rfl, trivial⟩ ⟨rfl, trivial⟩ trivial ?_
        refine R1 d_nilCheckO rfl ?_
        refine R1 (d_fieldO fo81_0 rfl) rfl ?_
        refine R1 (d_fieldO fo25_1 rfl) rfl ?_
        refine RE (d_load (1) ti23 rfl rfl) ⟨rfl, trivial⟩ ⟨rfl, trivial⟩ trivial ?_
        refine R1 d_move rfl ?_
        refine R2 (d_indexO sl23 (by omega) (by omega) rfl) rfl rfl ?_
        refine RE (d_load (((apl l m).getD k 0)) ti3 (rI_get_set (by omega)) (by omega)) ⟨rfl, trivial⟩ ⟨rfl, trivial⟩ trivial ?_
        refine R2 (d_call (c_takeV _ (hd _ (getD_mem (l := l) (i := ((apl l m).getD k 0)) (d := deal0) (by omega))) (validL_at hv (by omega)) _ hw) fi48 rfl) rfl rfl ?_
        refine R1 d_assign rfl ?_
        refine R_end (by kernel_rfl) ?_
        refine K_then ?_
        refine C_seq ?_
        refine C_draw mixed ?_
        refine RE (d_load (0) ti23 rfl rfl) ⟨rfl, trivial⟩ ⟨rfl, trivial⟩ trivial ?_
        refine R1 d_move rfl ?_
        refine R2 (d_add (by first | exact wr64 (by omega) (by omega))) rfl rfl ?_
        refine R1 d_move rfl ?_
        refine RE (d_load (0) ti116 rfl rfl) ⟨rfl, trivial⟩ ⟨rfl, trivial⟩ trivial ?_
        refine R1 d_nilCheckO rfl ?_
        refine R1 (d_fieldO fo81_0 rfl) rfl ?_
        refine R1 (d_fieldO fo25_2 rfl) rfl ?_
        refine RE (d_load (2) ti23 rfl rfl) ⟨rfl, trivial⟩ ⟨rfl, trivial⟩ trivial ?_
        refine R1 d_move rfl ?_
        refine R2 (d_indexO sl23 (by omega) (by omega) rfl) rfl rfl ?_
        refine RE (d_load (((apl l m).getD k 0)) ti3 (rI_get (by omega)) (by omega)) ⟨rfl, trivial⟩ ⟨rfl, trivial⟩ trivial ?_
        refine R2 (d_sub (by first | exact wr64 (by omega) (by omega))) rfl rfl ?_
        refine R2 (d_indexO sl23 (by omega) (by omega) rfl) rfl rfl ?_
        refine RE (d_store (((apl l m).getD k 0) + 1) ti3 (rI_lt (by omega)) (by omega) (rI_set (m := (s.pd l ((apl l m).getD k 0) - s.p.getD ((apl l m).getD k 0) 0)) rfl)) ⟨rfl, rfl, trivial⟩ ⟨rfl, trivial⟩ trivial ?_
        refine R_end (by kernel_rfl) ?_
        refine K_then ?_
        refine C_seq ?_
        refine C_reg ?_
        refine RE (d_load (0) ti116 rfl rfl) ⟨rfl, trivial⟩ ⟨rfl, trivial⟩ trivial ?_
        refine R1 d_nilCheckO rfl ?_
        refine R1 (d_fieldO fo81_0 rfl) rfl ?_
        refine R1 (d_fieldO fo25_2 rfl) rfl ?_
        refine RE (d_load (2) ti23 rfl rfl) ⟨rfl, trivial⟩ ⟨rfl, trivial⟩ trivial ?_
        refine R1 d_move rfl ?_
        refine R1 d_move rfl ?_
        refine R2 (d_indexO sl23 (by omega) (by omega) rfl) rfl rfl ?_
        refine RE (d_store (((apl l m).getD k 0)) ti3 (rI_lt (by omega)) (by omega) (rI_set (m := (s.pd l ((apl l m).getD k 0))) rfl)) ⟨rfl, rfl, trivial⟩ ⟨rfl, trivial⟩ trivial ?_
        refine R_nil (by kernel_rfl) ?_
        refine K_then ?_
        refine C_draw mixed ?_
        refine RE (d_load (0) ti3 rfl rfl) ⟨rfl, trivial⟩ ⟨rfl, trivial⟩ trivial ?_
        refine RE (d_load (0) ti23 rfl rfl) ⟨rfl, trivial⟩ ⟨rfl, trivial⟩ trivial ?_
        refine R1 d_move rfl ?_
        refine R2 (d_add (by first | exact wr64 (by omega) (by omega))) rfl rfl ?_
        refine R2 (d_indexO sl23 (by omega) (by omega) rfl) rfl rfl ?_
        refine RE (d_load (((apl l m).getD k 0) + 1) ti3 (rI_get_set (by omega)) (by omega)) ⟨rfl, trivial⟩ ⟨rfl, trivial⟩ trivial ?_
        refine R2 (d_sub (by first | exact wr64 (by omega) (by omega))) rfl rfl ?_
        refine RE (d_store (es := 1) (agg := false) (0) ti3 rfl rfl rfl) ⟨rfl, rfl, trivial⟩ ⟨rfl, trivial⟩ trivial ?_
        refine R_end (by kernel_rfl) ?_
        refine K_norB ?_
        exact K_rnd (dv1 l s ((apl l m).getD k 0)) ⟨hv1.next hv hd hi hw, run_yes hk hrun hw⟩ (SubK.cons rfl (SubK.cons rfl (SubK.cons rfl (SubK.cons rfl (SubK.cons rfl (SubK.cons rfl (SubK.cons rfl (SubK.cons rfl (SubK.cons rfl SubK.nil))))))))) (SupH.cons rfl (supJ sup_rI) (SupH.cons rfl (supJ sup_rI) (SupH.cons rfl (supJL rfl) (SupH.cons rfl (supJ sup_rI) (SupH.cons rfl (supJL rfl) (SupH.cons rfl (supJL rfl) (SupH.cons rfl (supJL rfl) (SupH.cons rfl (supJL rfl) (SupH.cons rfl (supJL rfl) SupH.nil))))))))) (lkOk rfl)
  ·
    intro D hD s hI
    obtain ⟨hv1, hrun⟩ := hI
    have hbl := hv1.b
    have hpl := hv1.p
    have hql := hv1.q
    have hr := hv1.r
    have hN := apl_len (l := l) (m := m)
    have hR := run_end hrun
    refine K_norB ?_
    refine K_then ?_
    refine C_seq ?_
    refine C_reg ?_
    refine RE (d_load (0) ti23 rfl rfl) ⟨rfl, trivial⟩ ⟨rfl, trivial⟩ trivial ?_
    refine RE (d_load (0) ti3 rfl rfl) ⟨rfl, trivial⟩ ⟨rfl, trivial⟩ trivial ?_
    refine R2 (d_indexO sl23 (by omega) (by omega) rfl) rfl rfl ?_
    refine RE (d_store (0) ti3 (rI_lt (by omega)) (by omega) (rI_set (m := s.r) rfl)) ⟨rfl, rfl, trivial⟩ ⟨rfl, trivial⟩ trivial ?_
    refine R_nil (by kernel_rfl) ?_
    refine K_then ?_
    refine C_seq ?_
    refine C_draw mixed ?_
    refine RE (d_load (0) ti116 rfl rfl) ⟨rfl, trivial⟩ ⟨rfl, trivial⟩ trivial ?_
    refine R1 d_nilCheckO rfl ?_
    refine R1 (d_fieldO fo81_0 rfl) rfl ?_
    refine R1 (d_fieldO fo25_0 rfl) rfl ?_
    refine RE (d_load (0) ti3 rfl rfl) ⟨rfl, trivial⟩ ⟨rfl, trivial⟩ trivial ?_
    refine RE (d_load (0) ti3 rfl rfl) ⟨rfl, trivial⟩ ⟨rfl, trivial⟩ trivial ?_
    refine R2 (d_add (by first | exact wr64 (by omega) (by omega))) rfl rfl ?_
    refine R1 d_nilCheckO rfl ?_
    refine R1 (d_fieldO fo81_0 rfl) rfl ?_
    refine R1 (d_fieldO fo25_0 rfl) rfl ?_
    refine RE (d_store (es := 1) (agg := false) (0) ti3 rfl rfl rfl) ⟨rfl, rfl, trivial⟩ ⟨rfl, trivial⟩ trivial ?_
    refine R_end (by kernel_rfl) ?_
    refine K_then ?_
    refine C_seq ?_
    refine C_draw mixed ?_
    refine RE (d_load (0) ti23 rfl rfl) ⟨rfl, trivial⟩ ⟨rfl, trivial⟩ trivial ?_
    refine RE (d_load (0) ti116 rfl rfl) ⟨rfl, trivial⟩ ⟨rfl, trivial⟩ trivial ?_
    refine R1 d_nilCheckO rfl ?_
    refine R1 (d_fieldO fo81_0 rfl) rfl ?_
    refine R1 (d_fieldO fo25_0 rfl) rfl ?_
    refine RE (d_load (0) ti3 rfl rfl) ⟨rfl, trivial⟩ ⟨rfl, trivial⟩ trivial ?_
    refine R1 (d_call (c_within _) fi45 rfl) rfl ?_
    refine RE (d_store (es := 1) (agg := false) (0) ti23 rfl rfl rfl) ⟨rfl, rfl, trivial⟩ ⟨rfl, trivial⟩ trivial ?_
    refine RE (d_store (es := 1) (agg := false) (0) ti4 rfl rfl rfl) ⟨rfl, rfl, trivial⟩ ⟨rfl, trivial⟩ trivial ?_
    refine R_end (by kernel_rfl) ?_
    refine K_then ?_
    refine C_giveC (q := 6) (j := 19) (f := fun n : Int => tI n) (xs := s.q.set 0 s.r) 0 rfl rfl rfl rfl (NoLbK.lent (LentC.loop LentC.mk' hD) rfl rfl rfl) (rI_all (by rw [List.length_set]; exact hql)) (by rw [List.length_set]; exact hql) rfl ?_
    refine C_ret ?_
    exact E_retGN (LentC.loop LentC.mk' hD) (rs := [.cell 6 23, .cell 7 4]) rfl rfl ⟨⟨_, _, _, _, _, rfl, rfl, ti23, (Le.of (by rw [hR]; rfl))⟩, ⟨_, _, _, _, _, rfl, rfl, ti4, (Le.bool (by rw [hR]; rfl))⟩, trivial⟩ ⟨(by rw [hR]; rfl), (by rw [hR]; rfl), (by rw [hR]; rfl), trivial⟩ ⟨⟨rfl, (SupX.lit rfl)⟩, ⟨rfl, sup_rI⟩, ⟨rfl, sup_rI⟩, trivial⟩ rfl
  ·
    intro D hD e i hi
    obtain ⟨rfl, hx⟩ := hi
    refine K_retB ?_
    refine K_retT ?_
    exact E_retGN (LentC.loop LentC.mk' hD) (rs := [.cell 6 23, .cell 7 4]) rfl rfl ⟨⟨_, _, _, _, _, rfl, rfl, ti23, (leNil (by rw [hx]; rfl))⟩, ⟨_, _, _, _, _, rfl, rfl, ti4, (Le.bool (by rw [hx]; rfl))⟩, trivial⟩ ⟨(by rw [hx]; rfl), rfl, rfl, trivial⟩ ⟨⟨rfl, (SupX.lit rfl)⟩, ⟨rfl, sup_rI⟩, ⟨rfl, sup_rI⟩, trivial⟩ rfl
end An.S

/- Package split: a step. -/
namespace An.S
open Go Go.Proofs An
set_option maxHeartbeats 2000000
theorem ti81 : TyI Tryz.prog 81 4 true := ⟨by kernel_rfl, by kernel_rfl⟩
theorem fi15 : FnI Tryz.prog 15 := ⟨_, Tryz.func15, by kernel_rfl, rfl⟩
theorem fi46 : FnI Tryz.prog 46 := ⟨_, Tryz.func46, by kernel_rfl, rfl⟩
theorem fi47 : FnI Tryz.prog 47 := ⟨_, Tryz.func47, by kernel_rfl, rfl⟩
theorem zr81 : (Tryz.prog.info? 81).bind (·.zero) = some (.agg #[.int .i64 0, .slice none 0 0, .slice none 0 0, .slice none 0 0]) ∧ ∀ F w, (tS [⟨3, true, (tS [⟨1, false, (tE (.int .i64 0))⟩, ⟨1, false, (tIs [])⟩, ⟨1, false, (tIs [])⟩])⟩, ⟨1, false, (tE (.slice none 0 0))⟩]).p F w (.agg #[.int .i64 0, .slice none 0 0, .slice none 0 0, .slice none 0 0]) := ⟨by kernel_rfl, fun _ _ => ⟨_, rfl, rfl, ⟨fun h => Bool.noConfusion h, ⟨_, rfl, rfl, ⟨fun _ => rfl, rfl⟩, ⟨fun _ => rfl, ⟨none, 0, rfl, Nat.le_refl _, by decide, .inl rfl⟩⟩, ⟨fun _ => rfl, ⟨none, 0, rfl, Nat.le_refl _, by decide, .inl rfl⟩⟩, trivial⟩⟩, ⟨fun _ => rfl, rfl⟩, trivial⟩⟩
theorem bu81 : BuI Tryz.prog 81 (fun i => [(0, 3), (3, 1)][i]?) (.agg #[.int .i64 0, .slice none 0 0, .slice none 0 0, .slice none 0 0]) := BuI.struct Tryz.underlying81 (by kernel_rfl) (by kernel_rfl)
theorem run_len {l : List Deal} : ∀ (is : List Nat) (s : Dv), (dvRun l s is).1.b.length = s.b.length ∧ (dvRun l s is).1.p.length = s.p.length ∧ (dvRun l s is).1.q.length = s.q.length
  | [], s => ⟨rfl, rfl, rfl⟩
  | i :: r, s => by
    rw [dvRun]
    split
    · obtain ⟨h1, h2, h3⟩ := run_len r (dv1 l s i)
      exact ⟨h1.trans (by simp [dv1]), h2.trans (by simp [dv1]), h3.trans (by simp [dv1])⟩
    · exact ⟨by simp, rfl, rfl⟩
/-- What a step answers: the new state, the parts, the error. -/
def stepBad (l : List Deal) (o : Int) (b p : List Int) (m a : Int) : Bool := !rightL l o b p || decide (m < 0) || decide (1048576 < m) || !wIn a
def stepOk (l : List Deal) (o : Int) (b p : List Int) (m a : Int) : Bool := (dvAll l m b p a).2 && wIn (o + (dvAll l m b p a).1.r)
def stepE (l : List Deal) (o : Int) (b p : List Int) (m a : Int) : Int := bif stepBad l o b p m a then 2 else bif stepOk l o b p m a then 0 else 4
def stepG (l : List Deal) (o : Int) (b p : List Int) (m a : Int) : Bool := !stepBad l o b p m a && stepOk l o b p m a
def stepO (l : List Deal) (o : Int) (b p : List Int) (m a : Int) : Int := bif stepG l o b p m a then o + (dvAll l m b p a).1.r else 0
def stepB (l : List Deal) (o : Int) (b p : List Int) (m a : Int) : List Int := bif stepG l o b p m a then (dvAll l m b p a).1.b else []
def stepP (l : List Deal) (o : Int) (b p : List Int) (m a : Int) : List Int := bif stepG l o b p m a then (dvAll l m b p a).1.p else []
def stepQ (l : List Deal) (o : Int) (b p : List Int) (m a : Int) : List Int := bif stepG l o b p m a then (dvAll l m b p a).1.q.set 0 (dvAll l m b p a).1.r else []
theorem step_bad {l : List Deal} {o : Int} {b p : List Int} {m a : Int} (h : stepBad l o b p m a = true) : stepO l o b p m a = 0 ∧ stepB l o b p m a = [] ∧ stepP l o b p m a = [] ∧ stepQ l o b p m a = [] ∧ stepE l o b p m a = 2 := by
  have hg : stepG l o b p m a = false := by rw [stepG, h]; rfl
  simp only [stepO, stepB, stepP, stepQ, stepE, hg, h, cond_true, cond_false, and_self]
theorem step_full {l : List Deal} {o : Int} {b p : List Int} {m a : Int} (h : stepBad l o b p m a = false) (h2 : stepOk l o b p m a = false) : stepO l o b p m a = 0 ∧ stepB l o b p m a = [] ∧ stepP l o b p m a = [] ∧ stepQ l o b p m a = [] ∧ stepE l o b p m a = 4 := by
  have hg : stepG l o b p m a = false := by rw [stepG, h, h2]; rfl
  simp only [stepO, stepB, stepP, stepQ, stepE, hg, h, h2, cond_false, and_self]
theorem step_good {l : List Deal} {o : Int} {b p : List Int} {m a : Int} (h : stepBad l o b p m a = false) (h2 : stepOk l o b p m a = true) : stepO l o b p m a = o + (dvAll l m b p a).1.r ∧ stepB l o b p m a = (dvAll l m b p a).1.b ∧ stepP l o b p m a = (dvAll l m b p a).1.p ∧ stepQ l o b p m a = (dvAll l m b p a).1.q.set 0 (dvAll l m b p a).1.r ∧ stepE l o b p m a = 0 ∧ (dvAll l m b p a).2 = true := by
  have hg : stepG l o b p m a = true := by rw [stepG, h, h2]; rfl
  have h3 := (Bool.and_eq_true_iff.1 h2).1
  simp only [stepO, stepB, stepP, stepQ, stepE, hg, h, h2, h3, cond_true, cond_false, and_self]
theorem right_parts {l : List Deal} {o : Int} {b p : List Int} (hd : ∀ d ∈ l, d.share.dig) (h : rightL l o b p = true) : validL l = true ∧ b.length = l.length ∧ p.length = l.length ∧ wIn o = true ∧ ∀ i, i < l.length → wIn (b.getD i 0) = true ∧ p.getD i 0 = take (shr l i) (b.getD i 0) := by
  simp only [rightL, Bool.and_eq_true, decide_eq_true_eq, List.all_eq_true, List.mem_range] at h
  obtain ⟨⟨⟨⟨h1, h2⟩, h3⟩, h4⟩, h5⟩ := h
  have _ := hd
  exact ⟨h1, h2, h3, h4, fun i hi => h5 i hi⟩
theorem right_in {l : List Deal} {o : Int} {b p : List Int} (hd : ∀ d ∈ l, d.share.dig) (h : rightL l o b p = true) : ∀ i, i < l.length → wIn (b.getD i 0) = true ∧ wIn (p.getD i 0) = true := fun i hi => by
  obtain ⟨h1, _, _, _, h5⟩ := right_parts hd h
  obtain ⟨h6, h7⟩ := h5 i hi
  obtain ⟨q0, q1⟩ := shr_bd h1 hd hi
  exact ⟨h6, by rw [h7]; exact wIn_take q0 q1 h6⟩
theorem c_Step (l : List Deal) (o : Int) (b p : List Int) (m a : Int) (hd : ∀ d ∈ l, d.share.dig) :
    Ct Tryz.prog 13 [tL 7 true tDeal l, tState o b p, tI m, tI a] (tT [tState (stepO l o b p m a) (stepB l o b p m a) (stepP l o b p m a), tIs (stepQ l o b p m a), tI (stepE l o b p m a)]) := by
  refine Ct.intro Tryz.func13 rfl Tryz.ntmps13 rfl ?_
  intro w F
  refine C_seq ?_
  refine C_reg ?_
  refine RE (d_box (k := 5) ti25 rfl) ⟨rfl, trivial⟩ trivial ⟨rfl, trivial⟩ ?_
  refine RE (d_alloc (k := 8) (n := 3) (agg := true) zr25.1 zr25.2 rfl) trivial trivial ⟨rfl, trivial⟩ ?_
  refine R1 d_assign rfl ?_
  refine R1 d_assign rfl ?_
  refine R_nil (by kernel_rfl) ?_
  refine K_then ?_
  refine C_seq ?_
  refine C_seq ?_
  refine C_reg ?_
  refine R1 d_move rfl ?_
  refine RE (d_load (0) ti25 rfl rfl) ⟨rfl, trivial⟩ ⟨rfl, trivial⟩ trivial ?_
  refine R2 (d_call (c_SRight l o b p hd) fi15 rfl) rfl rfl ?_
  refine R1 d_not rfl ?_
  refine R1 d_move rfl ?_
  refine RGcase (t := 18) rfl (fun h131 => ?_) (fun h131 => ?_)
  ·
    have hB : stepBad l o b p m a = true := by rw [stepBad, h131]; rfl
    obtain ⟨e1, e2, e3, e4, e5⟩ := step_bad hB
    refine RGoff h131 rfl rfl ?_
    refine RGoff h131 rfl rfl ?_
    refine R2 (d_pickT h131) rfl rfl ?_
    refine R1 d_move rfl ?_
    refine RGoff1 rfl rfl ?_
    refine RGoff1 rfl rfl ?_
    refine R2 (d_pickT rfl) rfl rfl ?_
    refine R1 d_move rfl ?_
    refine RGoff1 rfl rfl ?_
    refine RGoff1 rfl rfl ?_
    refine RGoff1 rfl rfl ?_
    refine R2 (d_pickT rfl) rfl rfl ?_
    refine R_nil (by kernel_rfl) ?_
    refine K_then ?_
    refine C_bT rfl rfl ?_
    refine C_seq ?_
    refine C_reg ?_
    refine R0 (d_build (r := tS [⟨1, false, (tE (.int .i64 0))⟩, ⟨1, false, (tIs [])⟩, ⟨1, false, (tIs [])⟩]) (ts := []) bu25 zr25.2 ⟨_, rfl⟩ rfl Le.refl)  ?_
    refine RE (d_store (es := 3) (agg := true) (0) ti25 rfl rfl rfl) ⟨rfl, rfl, trivial⟩ ⟨rfl, trivial⟩ trivial ?_
    refine R1 d_assign rfl ?_
    refine R1 d_assign rfl ?_
    refine R_nil (by kernel_rfl) ?_
    refine K_then ?_
    refine C_ret ?_
    refine K_retT ?_
    exact E_retN Plain.mk' (rs := [.cell 8 25, .tmp 9, .tmp 10]) rfl rfl ⟨⟨_, _, _, _, _, rfl, rfl, ti25, (Le.of (by first | (rw [e1, e2, e3]; done) | (rw [e1, e2, e3]; rfl)))⟩, ⟨_, rfl, (leNil e4)⟩, ⟨_, rfl, (Le.int (by rw [e5]))⟩, trivial⟩
  ·
    have hr : rightL l o b p = true := by rw [Bool.not_eq_false'] at h131; exact h131
    refine RGon h131 rfl d_move rfl ⟨rfl, trivial⟩ trivial trivial ?_
    refine RGon h131 rfl d_lss rfl ⟨rfl, rfl, trivial⟩ trivial trivial ?_
    refine R2 (d_pickF h131) rfl rfl ?_
    refine R1 d_move rfl ?_
    refine RGcaseD (t := 22) rfl (fun h131_2 => ?_) (fun h131_2 => ?_)
    ·
      have hB : stepBad l o b p m a = true := by rw [stepBad, decide_eq_true h131_2]; simp
      obtain ⟨e1, e2, e3, e4, e5⟩ := step_bad hB
      refine RGoff (decide_eq_true h131_2) rfl rfl ?_
      refine RGoff (decide_eq_true h131_2) rfl rfl ?_
      refine R2 (d_pickT (decide_eq_true h131_2)) rfl rfl ?_
      refine R1 d_move rfl ?_
      refine RGoff1 rfl rfl ?_
      refine RGoff1 rfl rfl ?_
      refine RGoff1 rfl rfl ?_
      refine R2 (d_pickT rfl) rfl rfl ?_
      refine R_nil (by kernel_rfl) ?_
      refine K_then ?_
      refine C_bT rfl rfl ?_
      refine C_seq ?_
      refine C_reg ?_
      refine R0 (d_build (r := tS [⟨1, false, (tE (.int .i64 0))⟩, ⟨1, false, (tIs [])⟩, ⟨1, false, (tIs [])⟩]) (ts := []) bu25 zr25.2 ⟨_, rfl⟩ rfl Le.refl)  ?_
      refine RE (d_store (es := 3) (agg := true) (0) ti25 rfl rfl rfl) ⟨rfl, rfl, trivial⟩ ⟨rfl, trivial⟩ trivial ?_
      refine R1 d_assign rfl ?_
      refine R1 d_assign rfl ?_
      refine R_nil (by kernel_rfl) ?_
      refine K_then ?_
      refine C_ret ?_
      refine K_retT ?_
      exact E_retN Plain.mk' (rs := [.cell 8 25, .tmp 9, .tmp 10]) rfl rfl ⟨⟨_, _, _, _, _, rfl, rfl, ti25, (Le.of (by first | (rw [e1, e2, e3]; done) | (rw [e1, e2, e3]; rfl)))⟩, ⟨_, rfl, (leNil e4)⟩, ⟨_, rfl, (Le.int (by rw [e5]))⟩, trivial⟩
    ·
      refine RGon (decide_eq_false h131_2) rfl d_move rfl ⟨rfl, trivial⟩ trivial trivial ?_
      refine RGon (decide_eq_false h131_2) rfl d_gtr rfl ⟨rfl, rfl, trivial⟩ trivial trivial ?_
      refine R2 (d_pickF (decide_eq_false h131_2)) rfl rfl ?_
      refine R1 d_move rfl ?_
      refine RGcaseD (t := 26) rfl (fun h131_3 => ?_) (fun h131_3 => ?_)
      ·
        have hB : stepBad l o b p m a = true := by rw [stepBad, decide_eq_true h131_3]; simp
        obtain ⟨e1, e2, e3, e4, e5⟩ := step_bad hB
        refine RGoff (decide_eq_true h131_3) rfl rfl ?_
        refine RGoff (decide_eq_true h131_3) rfl rfl ?_
        refine RGoff (decide_eq_true h131_3) rfl rfl ?_
        refine R2 (d_pickT (decide_eq_true h131_3)) rfl rfl ?_
        refine R_nil (by kernel_rfl) ?_
        refine K_then ?_
        refine C_bT rfl rfl ?_
        refine C_seq ?_
        refine C_reg ?_
        refine R0 (d_build (r := tS [⟨1, false, (tE (.int .i64 0))⟩, ⟨1, false, (tIs [])⟩, ⟨1, false, (tIs [])⟩]) (ts := []) bu25 zr25.2 ⟨_, rfl⟩ rfl Le.refl)  ?_
        refine RE (d_store (es := 3) (agg := true) (0) ti25 rfl rfl rfl) ⟨rfl, rfl, trivial⟩ ⟨rfl, trivial⟩ trivial ?_
        refine R1 d_assign rfl ?_
        refine R1 d_assign rfl ?_
        refine R_nil (by kernel_rfl) ?_
        refine K_then ?_
        refine C_ret ?_
        refine K_retT ?_
        exact E_retN Plain.mk' (rs := [.cell 8 25, .tmp 9, .tmp 10]) rfl rfl ⟨⟨_, _, _, _, _, rfl, rfl, ti25, (Le.of (by first | (rw [e1, e2, e3]; done) | (rw [e1, e2, e3]; rfl)))⟩, ⟨_, rfl, (leNil e4)⟩, ⟨_, rfl, (Le.int (by rw [e5]))⟩, trivial⟩
      ·
        refine RGon (decide_eq_false h131_3) rfl d_move rfl ⟨rfl, trivial⟩ trivial trivial ?_
        refine RGon (decide_eq_false h131_3) rfl (d_call (c_within _) fi45 rfl) rfl ⟨rfl, trivial⟩ trivial trivial ?_
        refine RGon (decide_eq_false h131_3) rfl d_not rfl ⟨rfl, trivial⟩ trivial trivial ?_
        refine R2 (d_pickF (decide_eq_false h131_3)) rfl rfl ?_
        refine R_nil (by kernel_rfl) ?_
        refine K_then ?_
        refine C_cond rfl (fun h131_4 => ?_) (fun h131_4 => ?_)
        ·
          have hB : stepBad l o b p m a = true := by rw [stepBad, h131_4]; simp
          obtain ⟨e1, e2, e3, e4, e5⟩ := step_bad hB
          refine C_seq ?_
          refine C_reg ?_
          refine R0 (d_build (r := tS [⟨1, false, (tE (.int .i64 0))⟩, ⟨1, false, (tIs [])⟩, ⟨1, false, (tIs [])⟩]) (ts := []) bu25 zr25.2 ⟨_, rfl⟩ rfl Le.refl)  ?_
          refine RE (d_store (es := 3) (agg := true) (0) ti25 rfl rfl rfl) ⟨rfl, rfl, trivial⟩ ⟨rfl, trivial⟩ trivial ?_
          refine R1 d_assign rfl ?_
          refine R1 d_assign rfl ?_
          refine R_nil (by kernel_rfl) ?_
          refine K_then ?_
          refine C_ret ?_
          refine K_retT ?_
          exact E_retN Plain.mk' (rs := [.cell 8 25, .tmp 9, .tmp 10]) rfl rfl ⟨⟨_, _, _, _, _, rfl, rfl, ti25, (Le.of (by first | (rw [e1, e2, e3]; done) | (rw [e1, e2, e3]; rfl)))⟩, ⟨_, rfl, (leNil e4)⟩, ⟨_, rfl, (Le.int (by rw [e5]))⟩, trivial⟩
        ·
          have ha : wIn a = true := by rw [Bool.not_eq_false'] at h131_4; exact h131_4
          have hB : stepBad l o b p m a = false := by rw [stepBad, hr, ha, decide_eq_false h131_2, decide_eq_false h131_3]; rfl
          refine C_skip ?_
          refine K_then ?_
          refine C_seq ?_
          obtain ⟨hv, hbl, hpl, ho, _⟩ := right_parts hd hr
          have hl16 := validL_len hv
          refine C_draw mixed ?_
          refine R1 (d_fieldO fo25_0 rfl) rfl ?_
          refine R_loadF (0) ti3 rfl rfl rfl (At.g 0 rfl rfl) rfl ?_
          refine R1 (d_fieldO fo25_1 rfl) rfl ?_
          refine R_loadF (0) ti23 rfl rfl rfl (At.g 1 rfl rfl) rfl ?_
          refine RE (d_callGX (fun _ => 36) (c_cloneI _ (by omega)) fi46 rfl (krN (ρ := fun _ => 36)) (krC (ρ := fun _ => 36) (k := 2) ren_rI (krN (ρ := fun _ => 36))) ⟨⟨rfl, sup_rI⟩, trivial⟩ rfl) ⟨rfl, trivial⟩ trivial ⟨rfl, trivial⟩ ?_
          refine R1 (d_fieldO fo25_2 rfl) rfl ?_
          refine R_loadF (0) ti23 rfl rfl rfl (At.g 2 rfl rfl) rfl ?_
          refine RE (d_callGX (fun _ => 39) (c_cloneI _ (by omega)) fi46 rfl (krN (ρ := fun _ => 39)) (krC (ρ := fun _ => 39) (k := 2) ren_rI (krN (ρ := fun _ => 39))) ⟨⟨rfl, sup_rI⟩, trivial⟩ rfl) ⟨rfl, trivial⟩ trivial ⟨rfl, trivial⟩ ?_
          refine R3 (d_buildO (es := [.val (tI o), .own (.sl 36 1 0 b.length), .own (.sl 39 1 0 p.length)]) (r := [.val (tI o), .own (.sl 36 1 0 b.length), .own (.sl 39 1 0 p.length)]) bu25 rfl rfl rfl rfl) rfl rfl rfl ?_
          refine R1 d_move rfl ?_
          refine R2 (d_buildO (es := [.own (rowV [.val (tI o), .own (.sl 36 1 0 b.length), .own (.sl 39 1 0 p.length)]), .val (tL 7 true tDeal l)]) (r := [.val (tI o), .own (.sl 36 1 0 b.length), .own (.sl 39 1 0 p.length), .val (tL 7 true tDeal l)]) bu81 rfl rfl rfl rfl) rfl rfl ?_
          refine RE (d_allocC (k := 11) (n := 4) [.int .i64 0, .slice none 0 0, .slice none 0 0, .slice none 0 0] zr81.1 rfl rfl rfl rfl) trivial trivial ⟨rfl, trivial⟩ ?_
          refine RE (d_storeM ti81 rfl rfl rfl) ⟨rfl, rfl, trivial⟩ ⟨rfl, trivial⟩ trivial ?_
          refine R_end (by kernel_rfl) ?_
          refine K_then ?_
          refine C_seq ?_
          refine C_key (k := 11) rfl (e' := ⟨81, 1, false, [.val (tI o), .own (.sl 36 1 0 l.length), .own (.sl 39 1 0 l.length), .val (tL 7 true tDeal l)]⟩) (by rw [hbl, hpl]) ?_
          refine C_reg ?_
          refine R1 d_move rfl ?_
          refine R1 d_move rfl ?_
          refine RE (d_callGX (fun j => cond (Nat.beq j 101) 36 (cond (Nat.beq j 100) 11 (39))) (c_divideS l m a o b p hv hd hbl hpl (right_in hd hr) ho ha) fi47 rfl (krC (ρ := fun j => cond (Nat.beq j 101) 36 (cond (Nat.beq j 100) 11 (39))) (k := 100) rfl (krC (ρ := fun j => cond (Nat.beq j 101) 36 (cond (Nat.beq j 100) 11 (39))) (k := 101) ren_rI (krC (ρ := fun j => cond (Nat.beq j 101) 36 (cond (Nat.beq j 100) 11 (39))) (k := 102) ren_rI (krN (ρ := fun j => cond (Nat.beq j 101) 36 (cond (Nat.beq j 100) 11 (39))))))) (krC (ρ := fun j => cond (Nat.beq j 101) 36 (cond (Nat.beq j 100) 11 (39))) (k := 100) rfl (krC (ρ := fun j => cond (Nat.beq j 101) 36 (cond (Nat.beq j 100) 11 (39))) (k := 101) ren_rI (krC (ρ := fun j => cond (Nat.beq j 101) 36 (cond (Nat.beq j 100) 11 (39))) (k := 102) ren_rI (krN (ρ := fun j => cond (Nat.beq j 101) 36 (cond (Nat.beq j 100) 11 (39))))))) ⟨⟨rfl, (SupX.lit rfl)⟩, ⟨rfl, sup_rI⟩, ⟨rfl, sup_rI⟩, trivial⟩ rfl) ⟨rfl, rfl, rfl, trivial⟩ ⟨rfl, rfl, rfl, trivial⟩ trivial ?_
          refine R1 d_move rfl ?_
          refine R1 (d_extract rfl) rfl ?_
          refine R1 (d_extract rfl) rfl ?_
          refine R1 d_assign rfl ?_
          refine R1 d_assign rfl ?_
          refine R_nil (by kernel_rfl) ?_
          refine K_then ?_
          refine C_seq ?_
          refine C_seq ?_
          refine C_reg ?_
          refine R1 d_move rfl ?_
          refine R1 d_not rfl ?_
          refine R_nil (by kernel_rfl) ?_
          refine K_then ?_
          refine C_cond rfl (fun h139 => ?_) (fun h139 => ?_)
          ·
            have hF : stepOk l o b p m a = false := by rw [Bool.not_eq_true'] at h139; exact h139
            obtain ⟨e1, e2, e3, e4, e5⟩ := step_full hB hF
            refine C_seq ?_
            refine C_reg ?_
            refine R0 (d_build (r := tS [⟨1, false, (tE (.int .i64 0))⟩, ⟨1, false, (tIs [])⟩, ⟨1, false, (tIs [])⟩]) (ts := []) bu25 zr25.2 ⟨_, rfl⟩ rfl Le.refl)  ?_
            refine RE (d_store (es := 3) (agg := true) (0) ti25 rfl rfl rfl) ⟨rfl, rfl, trivial⟩ ⟨rfl, trivial⟩ trivial ?_
            refine R1 d_assign rfl ?_
            refine R1 d_assign rfl ?_
            refine R_nil (by kernel_rfl) ?_
            refine K_then ?_
            refine C_ret ?_
            refine K_retT ?_
            exact E_retN Plain.mk' (rs := [.cell 8 25, .tmp 9, .tmp 10]) rfl rfl ⟨⟨_, _, _, _, _, rfl, rfl, ti25, (Le.of (by first | (rw [e1, e2, e3]; done) | (rw [e1, e2, e3]; rfl)))⟩, ⟨_, rfl, (leNil e4)⟩, ⟨_, rfl, (Le.int (by rw [e5]))⟩, trivial⟩
          ·
            have hF : stepOk l o b p m a = true := by rw [Bool.not_eq_false'] at h139; exact h139
            obtain ⟨e1, e2, e3, e4, e5, e6⟩ := step_good hB hF
            refine C_skip ?_
            refine K_then ?_
            refine C_seq ?_
            obtain ⟨hl1, hl2, _⟩ := run_len (l := l) (apl l m) ⟨b, p, List.replicate (l.length + 1) 0, a⟩
            replace hl1 : (dvAll l m b p a).1.b.length = l.length := hl1.trans hbl
            replace hl2 : (dvAll l m b p a).1.p.length = l.length := hl2.trans hpl
            refine C_giveC (q := 11) (j := 36) (f := fun n : Int => tI n) (xs := (dvAll l m b p a).1.b) 1 rfl rfl rfl rfl (NoLbK.of fun _ h => h) (rI_all hl1) hl1 rfl ?_
            refine C_giveC (q := 11) (j := 39) (f := fun n : Int => tI n) (xs := (dvAll l m b p a).1.p) 2 rfl rfl rfl rfl (NoLbK.of fun _ h => h) (rI_all hl2) hl2 rfl ?_
            refine C_reg ?_
            refine R1 (d_fieldO fo81_0 rfl) rfl ?_
            refine RE (d_loadM (us := [tI (bif (dvAll l m b p a).2 then o + (dvAll l m b p a).1.r else o), tIs (dvAll l m b p a).1.b, tIs (dvAll l m b p a).1.p]) (t := tState (bif (dvAll l m b p a).2 then o + (dvAll l m b p a).1.r else o) (dvAll l m b p a).1.b (dvAll l m b p a).1.p) ti25 rfl rfl rfl rfl) ⟨rfl, trivial⟩ ⟨rfl, trivial⟩ trivial ?_
            refine R1 d_move rfl ?_
            refine RE (d_store (es := 3) (agg := true) (0) ti25 rfl rfl rfl) ⟨rfl, rfl, trivial⟩ ⟨rfl, trivial⟩ trivial ?_
            refine R1 d_assign rfl ?_
            refine R1 d_assign rfl ?_
            refine R_nil (by kernel_rfl) ?_
            refine K_then ?_
            refine C_ret ?_
            exact E_retN Plain.mk' (rs := [.cell 8 25, .tmp 9, .tmp 10]) rfl rfl ⟨⟨_, _, _, _, _, rfl, rfl, ti25, (Le.of (by rw [e1, e2, e3, e6]; rfl))⟩, ⟨_, rfl, (Le.of (by rw [e4, e6]; rfl))⟩, ⟨_, rfl, (Le.int (by rw [e5]))⟩, trivial⟩
end An.S

/- The reference's arithmetic on limbs: plain numbers. -/
namespace An
open Go
abbrev tM (v : Nat) : Ty := tLm (dig 65536 v)
theorem trim_step' {a : List Nat} {k : Nat} (hk : k ≤ a.length) (h0 : 0 < k) (hz : a.getD (k - 1) 0 = 0) : trimL (a.take (k - 1)) = trimL (a.take k) := by
  have h1 := take_succ_getD a (k - 1) (by omega)
  rw [show k - 1 + 1 = k from by omega] at h1
  rw [h1, hz, trimL_snoc_zero]
theorem trim_stop' {a : List Nat} {k : Nat} (hk : k ≤ a.length) (h0 : 0 < k) (hz : ¬ a.getD (k - 1) 0 = 0) : trimL (a.take k) = a.take k := by
  refine trimL_Top fun x hx => ?_
  have h1 := take_succ_getD a (k - 1) (by omega)
  rw [show k - 1 + 1 = k from by omega] at h1
  rw [h1, List.getLast?_append] at hx
  simp at hx
  rw [← hx]
  simpa [List.getD_eq_getElem?_getD] using hz
/-- Dividing by a limb. -/
theorem short_in {a d r k q n : Nat} {qs : List Nat} (hk : k < n) (hl : qs.length = n) (hD : Dig 65536 qs) (hd : 0 < d) (hr : r = a / 65536 ^ (k + 1) % d) (hv : val 65536 (qs.drop (k + 1)) = a / 65536 ^ (k + 1) / d) (hq : (r * 65536 + a / 65536 ^ k % 65536) / d = q) :
    (qs.set k q).length = n ∧ Dig 65536 (qs.set k q) ∧ (r * 65536 + a / 65536 ^ k % 65536) % d = a / 65536 ^ k % d ∧ val 65536 ((qs.set k q).drop k) = a / 65536 ^ k / d ∧ q < 65536 := by
  have e0 : a / 65536 ^ k = 65536 * (a / 65536 ^ (k + 1)) + a / 65536 ^ k % 65536 := div_succ 65536 a k (by decide)
  have hrd : r < d := by rw [hr]; exact Nat.mod_lt _ hd
  have e1 : a / 65536 ^ k = (r * 65536 + a / 65536 ^ k % 65536) + d * (65536 * (a / 65536 ^ (k + 1) / d)) := by
    have h1 := Nat.div_add_mod (a / 65536 ^ (k + 1)) d
    rw [← hr] at h1
    have h2 : 65536 * (a / 65536 ^ (k + 1)) = d * (65536 * (a / 65536 ^ (k + 1) / d)) + 65536 * r := by
      conv => lhs; rw [← h1]
      rw [Nat.mul_add, Nat.mul_left_comm]
    omega
  have hqW : q < 65536 := by
    rw [← hq]; refine Nat.div_lt_of_lt_mul ?_
    have h4 : a / 65536 ^ k % 65536 < 65536 := Nat.mod_lt _ (by decide)
    have h5 : (r + 1) * 65536 ≤ d * 65536 := Nat.mul_le_mul_right _ hrd
    omega
  refine ⟨by simpa using hl, hD.set hqW, ?_, ?_, hqW⟩
  · conv => rhs; rw [e1, Nat.add_mul_mod_self_left]
  · rw [val_drop_succ _ _ _ (by simpa using (by omega : k < qs.length)), getD_set_self (by omega), drop_set_succ, hv]
    conv => rhs; rw [e1, Nat.add_mul_div_left _ _ hd, hq]
theorem one_limb {b : Nat} (h : (dig 65536 b).length = 1) : (dig 65536 b).getD 0 0 = b := by
  rw [dig_getD two_le_L, Nat.pow_zero, Nat.div_one]
  have := (len_le_iff two_le_L b 1).1 (Nat.le_of_eq h)
  rw [Nat.pow_one] at this
  exact Nat.mod_eq_of_lt this
theorem trim1L {x : Nat} (hx : x < 65536) : trimL [x] = dig 65536 x := by
  rw [trimL_eq_dig two_le_L (Dig.cons hx (Dig.nil _)), val_cons, val_nil]; simp
theorem dig_lt_of {B a b k : Nat} (hB : 2 ≤ B) (h : a / B ^ (k + 1) = b / B ^ (k + 1)) (hd : (dig B a).getD k 0 < (dig B b).getD k 0) : a < b := cmp_lt (by omega) h (by rw [← dig_getD hB, ← dig_getD hB]; exact hd)
end An

/- The reference of layer 1: limbs. -/
namespace An.S
open Go Go.Proofs An
set_option maxHeartbeats 2000000
theorem fi185 : FnI Tryz.prog 185 := ⟨_, Tryz.func185, by kernel_rfl, rfl⟩
theorem c_RTrim (a : List Nat) :
    Ct Tryz.prog 185 [tLm a] (tLm (trimL a)) := by
  refine Ct.intro Tryz.func185 rfl Tryz.ntmps185 rfl ?_
  intro w F
  refine C_len (s := 0) rfl (fun hl0 => ?_)
  refine C_seq ?_
  refine C_reg ?_
  refine R1 d_assign rfl ?_
  refine R_nil (by kernel_rfl) ?_
  refine K_then ?_
  refine C_seq ?_
  refine C_reg ?_
  refine R1 d_move rfl ?_
  refine R1 (d_len Tryz.underlying46) rfl ?_
  refine R1 d_assign rfl ?_
  refine R_nil (by kernel_rfl) ?_
  refine K_then ?_
  refine C_seq ?_
  refine C_block ?_
  refine C_loop (fun (k : Nat) => k ≤ a.length ∧ trimL (a.take k) = trimL a) (fun (k : Nat) => upd (upd (fun _ => none) 0 (some (.val (tLm a)))) 3 (some (.val (tI k)))) (fun (k : Nat) => fun _ => none) (nm []) (fun (k : Nat) => k) (a.length) ⟨Nat.le_refl _, by rw [List.take_length]⟩ (Sub.int rfl (by first | omega | rfl | (dsimp only; omega)) (Sub.cons rfl Sub.nil)) SubK.nil (SupG.val (SupG.val SupG.nil)) SupH.nil (lkOk rfl) ?_
  intro k hI
  obtain ⟨hk, hc⟩ := hI
  refine C_seq ?_
  refine C_seq ?_
  refine C_reg ?_
  refine R1 d_move rfl ?_
  refine R2 d_gtr rfl rfl ?_
  refine R1 d_move rfl ?_
  refine RGcaseD (t := 8) rfl (fun h12 => ?_) (fun h12 => ?_)
  ·
    refine RGon (decide_eq_true h12) rfl d_move rfl ⟨rfl, trivial⟩ trivial trivial ?_
    refine RGon (decide_eq_true h12) rfl d_move rfl ⟨rfl, trivial⟩ trivial trivial ?_
    refine RGon (decide_eq_true h12) rfl (d_sub (by first | exact wr64 (by omega) (by omega))) rfl ⟨rfl, rfl, trivial⟩ trivial trivial ?_
    refine RGon (decide_eq_true h12) rfl (d_indexP sl46 (k - 1) (by omega) (gN (by omega))) rfl ⟨rfl, rfl, trivial⟩ trivial trivial ?_
    refine RGon (decide_eq_true h12) rfl (d_loadP ti122) rfl ⟨rfl, trivial⟩ trivial trivial ?_
    refine RGon (decide_eq_true h12) rfl d_eql rfl ⟨rfl, rfl, trivial⟩ trivial trivial ?_
    refine R2 (d_pickT (decide_eq_true h12)) rfl rfl ?_
    refine R_nil (by kernel_rfl) ?_
    refine K_then ?_
    refine C_if rfl (fun h12_2 => ?_) (fun h12_2 => ?_)
    ·
      refine C_skip ?_
      refine K_then ?_
      refine C_block ?_
      refine C_reg ?_
      refine R1 d_move rfl ?_
      refine R2 (d_sub (by first | exact wr64 (by omega) (by omega))) rfl rfl ?_
      refine R1 d_assign rfl ?_
      refine R_nil (by kernel_rfl) ?_
      refine K_norB ?_
      exact K_fam (k - 1) ⟨⟨by omega, by rw [trim_step' hk (by omega) (by omega)]; exact hc⟩, (by omega)⟩ (Sub.int rfl (by first | omega | rfl | (dsimp only; omega)) (Sub.cons rfl Sub.nil)) SubK.nil (SupG.val (SupG.val SupG.nil)) SupH.nil (lkOk rfl)
    ·
      refine C_exit ?_
      refine K_exT ?_
      refine K_exT ?_
      refine K_exB ?_
      refine K_then ?_
      refine C_seq ?_
      refine C_reg ?_
      refine R1 d_move rfl ?_
      refine R1 d_move rfl ?_
      refine R2 (d_sliceTo sl46 k (by omega) (by omega) rfl) rfl rfl ?_
      refine R1 d_assign rfl ?_
      refine R_nil (by kernel_rfl) ?_
      refine K_then ?_
      refine C_ret ?_
      exact E_ret1 Plain.mk' rfl rfl (Le.of (congrArg tLm (by rw [← hc, trim_stop' hk (by omega) (by omega)])))
  ·
    refine RGoff (decide_eq_false h12) rfl rfl ?_
    refine RGoff (decide_eq_false h12) rfl rfl ?_
    refine RGoff (decide_eq_false h12) rfl rfl ?_
    refine RGoff (decide_eq_false h12) rfl rfl ?_
    refine RGoff (decide_eq_false h12) rfl rfl ?_
    refine RGoff (decide_eq_false h12) rfl rfl ?_
    refine R2 (d_pickF (decide_eq_false h12)) rfl rfl ?_
    refine R_nil (by kernel_rfl) ?_
    refine K_then ?_
    refine C_bF rfl rfl ?_
    refine C_exit ?_
    refine K_exT ?_
    refine K_exT ?_
    refine K_exB ?_
    refine K_then ?_
    refine C_seq ?_
    refine C_reg ?_
    refine R1 d_move rfl ?_
    refine R1 d_move rfl ?_
    refine R2 (d_sliceTo sl46 k (by omega) (by omega) rfl) rfl rfl ?_
    refine R1 d_assign rfl ?_
    refine R_nil (by kernel_rfl) ?_
    refine K_then ?_
    refine C_ret ?_
    exact E_ret1 Plain.mk' rfl rfl (Le.of (congrArg tLm (by rw [← hc, show k = 0 by omega, List.take_zero]; rfl)))
theorem c_RLess (a b : Nat) :
    Ct Tryz.prog 160 [tM a, tM b] (tB (decide (a < b))) := by
  refine Ct.intro Tryz.func160 rfl Tryz.ntmps160 rfl ?_
  intro w F
  refine C_len (s := 0) rfl (fun hl0 => ?_)
  refine C_len (s := 1) rfl (fun hl1 => ?_)
  have ha := lt_len two_le_L a
  have hb := lt_len two_le_L b
  refine C_seq ?_
  refine C_reg ?_
  refine R1 d_assign rfl ?_
  refine R_nil (by kernel_rfl) ?_
  refine K_then ?_
  refine C_seq ?_
  refine C_seq ?_
  refine C_reg ?_
  refine R1 d_move rfl ?_
  refine R1 (d_len Tryz.underlying46) rfl ?_
  refine R1 d_move rfl ?_
  refine R1 (d_len Tryz.underlying46) rfl ?_
  refine R2 d_neq rfl rfl ?_
  refine R_nil (by kernel_rfl) ?_
  refine K_then ?_
  refine C_if rfl (fun h20 => ?_) (fun h20 => ?_)
  ·
    refine C_seq ?_
    refine C_reg ?_
    refine R1 d_move rfl ?_
    refine R1 (d_len Tryz.underlying46) rfl ?_
    refine R1 d_move rfl ?_
    refine R1 (d_len Tryz.underlying46) rfl ?_
    refine R2 d_lss rfl rfl ?_
    refine R1 d_assign rfl ?_
    refine R_nil (by kernel_rfl) ?_
    refine K_then ?_
    refine C_ret ?_
    refine K_retT ?_
    exact E_ret1 Plain.mk' rfl rfl (Le.bool (decide_eq_decide.2 ⟨fun h => len_lt two_le_L (by omega), fun h => by have := dig_len_mono two_le_L (Nat.le_of_lt h); omega⟩))
  ·
    refine C_skip ?_
    refine K_then ?_
    refine C_seq ?_
    refine C_seq ?_
    refine C_reg ?_
    refine R1 d_move rfl ?_
    refine R1 (d_len Tryz.underlying46) rfl ?_
    refine R2 (d_sub (by first | exact wr64 (by omega) (by omega))) rfl rfl ?_
    refine R1 d_assign rfl ?_
    refine R_nil (by kernel_rfl) ?_
    refine K_then ?_
    refine C_block ?_
    have hlen : (dig 65536 a).length = (dig 65536 b).length := by omega
    rw [← hlen] at hb
    refine C_loop (fun (k : Nat) => k ≤ (dig 65536 a).length ∧ a / 65536 ^ k = b / 65536 ^ k) (fun (k : Nat) => upd (upd (upd (fun _ => none) 0 (some (.val (tM a)))) 1 (some (.val (tM b)))) 5 (some (.val (tI ((k : Int) - 1))))) (fun (k : Nat) => fun _ => none) (nm []) (fun (k : Nat) => k) ((dig 65536 a).length) ⟨Nat.le_refl _, by rw [Nat.div_eq_of_lt ha, Nat.div_eq_of_lt hb]⟩ (Sub.int rfl (by first | omega | rfl | (dsimp only; omega)) (Sub.cons rfl (Sub.cons rfl Sub.nil))) SubK.nil (SupG.val (SupG.val (SupG.val SupG.nil))) SupH.nil (lkOk rfl) ?_
    intro k hI
    obtain ⟨hk, hc⟩ := hI
    refine C_seq ?_
    refine C_seq ?_
    refine C_reg ?_
    refine R1 d_move rfl ?_
    refine R2 d_geq rfl rfl ?_
    refine R_nil (by kernel_rfl) ?_
    refine K_then ?_
    refine C_if rfl (fun h23 => ?_) (fun h23 => ?_)
    ·
      obtain ⟨j, rfl⟩ : ∃ j, k = j + 1 := ⟨k - 1, by omega⟩
      refine C_skip ?_
      refine K_then ?_
      refine C_seq ?_
      refine C_block ?_
      refine C_seq ?_
      refine C_draw mixed ?_
      refine R1 d_move rfl ?_
      refine R1 d_move rfl ?_
      refine R2 (d_indexP sl46 (j) (by omega) (gN (by omega))) rfl rfl ?_
      refine R1 (d_loadP ti122) rfl ?_
      refine R1 d_move rfl ?_
      refine R1 d_move rfl ?_
      refine R2 (d_indexP sl46 (j) (by omega) (gN (by omega))) rfl rfl ?_
      refine R1 (d_loadP ti122) rfl ?_
      refine R2 d_neq rfl rfl ?_
      refine R_end (by kernel_rfl) ?_
      refine K_then ?_
      refine C_if rfl (fun h24 => ?_) (fun h24 => ?_)
      ·
        refine C_seq ?_
        refine C_draw mixed ?_
        refine R1 d_move rfl ?_
        refine R1 d_move rfl ?_
        refine R2 (d_indexP sl46 (j) (by omega) (gN (by omega))) rfl rfl ?_
        refine R1 (d_loadP ti122) rfl ?_
        refine R1 d_move rfl ?_
        refine R1 d_move rfl ?_
        refine R2 (d_indexP sl46 (j) (by omega) (gN (by omega))) rfl rfl ?_
        refine R1 (d_loadP ti122) rfl ?_
        refine R2 d_lss rfl rfl ?_
        refine R1 d_assign rfl ?_
        refine R_end (by kernel_rfl) ?_
        refine K_then ?_
        refine C_ret ?_
        refine K_retB ?_
        refine K_retT ?_
        refine K_retT ?_
        refine K_retB ?_
        refine K_retT ?_
        exact E_ret1 Plain.mk' rfl rfl (Le.bool (decide_eq_decide.2 ⟨fun h => dig_lt_of two_le_L hc (by omega), fun h => Classical.byContradiction fun h2 => by have := dig_lt_of two_le_L hc.symm (show (dig 65536 b).getD j 0 < (dig 65536 a).getD j 0 by omega); omega⟩))
      ·
        refine C_skip ?_
        refine K_norB ?_
        refine K_then ?_
        refine C_reg ?_
        refine R1 d_move rfl ?_
        refine R2 (d_sub (by first | exact wr64 (by omega) (by omega))) rfl rfl ?_
        refine R1 d_assign rfl ?_
        refine R_nil (by kernel_rfl) ?_
        exact K_fam (j) ⟨⟨by omega, cmp_step (by decide) hc (by rw [← dig_getD two_le_L, ← dig_getD two_le_L]; omega)⟩, (by omega)⟩ (Sub.int rfl (by first | omega | rfl | (dsimp only; omega)) (Sub.cons rfl (Sub.cons rfl Sub.nil))) SubK.nil (SupG.val (SupG.val (SupG.val SupG.nil))) SupH.nil (lkOk rfl)
    ·
      refine C_exit ?_
      refine K_exT ?_
      refine K_exT ?_
      refine K_exB ?_
      refine K_then ?_
      refine C_seq ?_
      refine C_reg ?_
      refine R1 d_assign rfl ?_
      refine R_nil (by kernel_rfl) ?_
      refine K_then ?_
      refine C_ret ?_
      exact E_ret1 Plain.mk' rfl rfl (Le.bool (decide_eq_false (by have h0 := hc; rw [show k = 0 by omega] at h0; simp at h0; omega)).symm)
theorem len_ne {v : Nat} : (0 : Int) < ((dig 65536 v).length : Nat) ↔ v ≠ 0 := by
  have h : (dig 65536 v).length = 0 ↔ v = 0 := by rw [List.length_eq_zero_iff, dig_eq_nil two_le_L]
  omega
theorem c_RMake (p : Bool) (v : Nat) :
    Ct Tryz.prog 110 [tB p, tM v] (tWh (wh (sgn p v))) := by
  refine Ct.intro Tryz.func110 rfl Tryz.ntmps110 rfl ?_
  intro w F
  refine C_seq ?_
  refine C_reg ?_
  refine RE (d_alloc (k := 4) (n := 2) (agg := true) zr48.1 zr48.2 rfl) trivial trivial ⟨rfl, trivial⟩ ?_
  refine R_nil (by kernel_rfl) ?_
  refine K_then ?_
  refine C_seq ?_
  refine C_reg ?_
  refine R1 d_move rfl ?_
  refine R1 d_move rfl ?_
  refine RGcase (t := 6) rfl (fun h129 => ?_) (fun h129 => ?_)
  ·
    refine RGon h129 rfl d_move rfl ⟨rfl, trivial⟩ trivial trivial ?_
    refine RGon h129 rfl (d_len Tryz.underlying46) rfl ⟨rfl, trivial⟩ trivial trivial ?_
    refine RGon h129 rfl d_gtr rfl ⟨rfl, rfl, trivial⟩ trivial trivial ?_
    refine R2 (d_pickT h129) rfl rfl ?_
    refine R1 d_move rfl ?_
    refine R2 (d_build (r := tS [⟨1, false, tB (decide ((0 : Int) < ((dig 65536 v).length : Nat)))⟩, ⟨1, false, tM v⟩]) (ts := [(0, tB (decide ((0 : Int) < ((dig 65536 v).length : Nat)))), (1, tM v)]) bu48 zr48.2 ⟨_, rfl⟩ rfl ⟨_, _, _, _, rfl, Up.f (fs := [⟨1, false, (tE (.bool false))⟩, ⟨1, false, (tLm [])⟩]) (f := ⟨1, false, (tE (.bool false))⟩) (fs' := [⟨1, false, tB (decide ((0 : Int) < ((dig 65536 v).length : Nat)))⟩, ⟨1, false, (tLm [])⟩]) 0 rfl rfl rfl, inferInstance, ⟨_, _, _, _, rfl, Up.f (fs := [⟨1, false, tB (decide ((0 : Int) < ((dig 65536 v).length : Nat)))⟩, ⟨1, false, (tLm [])⟩]) (f := ⟨1, false, (tLm [])⟩) (fs' := [⟨1, false, tB (decide ((0 : Int) < ((dig 65536 v).length : Nat)))⟩, ⟨1, false, tM v⟩]) 1 rfl rfl rfl, inferInstance, Le.refl⟩⟩) rfl rfl ?_
    refine RE (d_store (es := 2) (agg := true) (0) ti48 rfl rfl rfl) ⟨rfl, rfl, trivial⟩ ⟨rfl, trivial⟩ trivial ?_
    refine R_nil (by kernel_rfl) ?_
    refine K_then ?_
    refine C_ret ?_
    exact E_retC Plain.mk' rfl ⟨_, _, _, _, _, rfl, rfl, ti48, (Le.of (by rw [wh_sgn, h129, Bool.true_and, decide_eq_decide.2 (show (0 : Int) < ((dig 65536 v).length : Nat) ↔ v ≠ 0 from len_ne)]))⟩
  ·
    refine RGoff h129 rfl rfl ?_
    refine RGoff h129 rfl rfl ?_
    refine RGoff h129 rfl rfl ?_
    refine R2 (d_pickF h129) rfl rfl ?_
    refine R1 d_move rfl ?_
    refine R2 (d_build (r := tS [⟨1, false, tB false⟩, ⟨1, false, tM v⟩]) (ts := [(0, tB false), (1, tM v)]) bu48 zr48.2 ⟨_, rfl⟩ rfl ⟨_, _, _, _, rfl, Up.f (fs := [⟨1, false, (tE (.bool false))⟩, ⟨1, false, (tLm [])⟩]) (f := ⟨1, false, (tE (.bool false))⟩) (fs' := [⟨1, false, tB false⟩, ⟨1, false, (tLm [])⟩]) 0 rfl rfl rfl, inferInstance, ⟨_, _, _, _, rfl, Up.f (fs := [⟨1, false, tB false⟩, ⟨1, false, (tLm [])⟩]) (f := ⟨1, false, (tLm [])⟩) (fs' := [⟨1, false, tB false⟩, ⟨1, false, tM v⟩]) 1 rfl rfl rfl, inferInstance, Le.refl⟩⟩) rfl rfl ?_
    refine RE (d_store (es := 2) (agg := true) (0) ti48 rfl rfl rfl) ⟨rfl, rfl, trivial⟩ ⟨rfl, trivial⟩ trivial ?_
    refine R_nil (by kernel_rfl) ?_
    refine K_then ?_
    refine C_ret ?_
    exact E_retC Plain.mk' rfl ⟨_, _, _, _, _, rfl, rfl, ti48, (Le.of (by rw [wh_sgn, h129, Bool.false_and]))⟩
theorem c_RSame (x y : Wh) :
    Ct Tryz.prog 77 [tWh x, tWh y] (tB (decide (x = y))) := by
  refine Ct.intro Tryz.func77 rfl Tryz.ntmps77 rfl ?_
  intro w F
  refine C_seq ?_
  refine C_reg ?_
  refine RE (d_box (k := 2) ti48 rfl) ⟨rfl, trivial⟩ trivial ⟨rfl, trivial⟩ ?_
  refine RE (d_box (k := 3) ti48 rfl) ⟨rfl, trivial⟩ trivial ⟨rfl, trivial⟩ ?_
  refine R1 d_assign rfl ?_
  refine R_nil (by kernel_rfl) ?_
  refine K_then ?_
  refine C_seq ?_
  refine C_seq ?_
  refine C_reg ?_
  refine R1 (d_fieldO fo48_0 rfl) rfl ?_
  refine R_loadF (0) ti4 rfl rfl rfl (At.g 0 rfl rfl) rfl ?_
  refine R1 (d_fieldO fo48_0 rfl) rfl ?_
  refine R_loadF (0) ti4 rfl rfl rfl (At.g 0 rfl rfl) rfl ?_
  refine R2 (d_neqB Tryz.underlying4) rfl rfl ?_
  refine R1 d_move rfl ?_
  refine RGcase (t := 11) rfl (fun h150 => ?_) (fun h150 => ?_)
  ·
    have hn : x.neg ≠ y.neg := fun h => by rw [h] at h150; simp at h150
    refine RGoff h150 rfl rfl ?_
    refine RGoff h150 rfl rfl ?_
    refine RGoff h150 rfl rfl ?_
    refine RGoff h150 rfl rfl ?_
    refine RGoff h150 rfl rfl ?_
    refine RGoff h150 rfl rfl ?_
    refine RGoff h150 rfl rfl ?_
    refine R2 (d_pickT h150) rfl rfl ?_
    refine R_nil (by kernel_rfl) ?_
    refine K_then ?_
    refine C_bT rfl rfl ?_
    refine C_seq ?_
    refine C_reg ?_
    refine R1 d_assign rfl ?_
    refine R_nil (by kernel_rfl) ?_
    refine K_then ?_
    refine C_ret ?_
    refine K_retT ?_
    exact E_ret1 Plain.mk' rfl rfl (Le.bool (decide_eq_false (fun h => hn (by rw [h]))).symm)
  ·
    have hn : x.neg = y.neg := by simpa using h150
    refine RGon h150 rfl (d_fieldO fo48_1 rfl) rfl ⟨rfl, trivial⟩ trivial trivial ?_
    refine RG_loadF h150 rfl rfl (0) ti46 rfl rfl rfl (At.g 1 rfl rfl) rfl ?_
    refine RGon h150 rfl (d_len Tryz.underlying46) rfl ⟨rfl, trivial⟩ trivial trivial ?_
    refine RGon h150 rfl (d_fieldO fo48_1 rfl) rfl ⟨rfl, trivial⟩ trivial trivial ?_
    refine RG_loadF h150 rfl rfl (0) ti46 rfl rfl rfl (At.g 1 rfl rfl) rfl ?_
    refine RGon h150 rfl (d_len Tryz.underlying46) rfl ⟨rfl, trivial⟩ trivial trivial ?_
    refine RGon h150 rfl d_neq rfl ⟨rfl, rfl, trivial⟩ trivial trivial ?_
    refine R2 (d_pickF h150) rfl rfl ?_
    refine R_nil (by kernel_rfl) ?_
    refine K_then ?_
    refine C_if rfl (fun h150_2 => ?_) (fun h150_2 => ?_)
    ·
      have hll : x.l.length ≠ y.l.length := by omega
      refine C_seq ?_
      refine C_reg ?_
      refine R1 d_assign rfl ?_
      refine R_nil (by kernel_rfl) ?_
      refine K_then ?_
      refine C_ret ?_
      refine K_retT ?_
      exact E_ret1 Plain.mk' rfl rfl (Le.bool (decide_eq_false (fun h => hll (by rw [h]))).symm)
    ·
      have hll : x.l.length = y.l.length := by omega
      refine C_skip ?_
      refine K_then ?_
      refine C_seq ?_
      refine C_seq ?_
      refine C_reg ?_
      refine R1 d_assign rfl ?_
      refine R_nil (by kernel_rfl) ?_
      refine K_then ?_
      refine C_block ?_
      refine C_loop (fun (i : Nat) => i ≤ x.l.length ∧ x.l.take i = y.l.take i) (fun (i : Nat) => upd (upd (upd (fun _ => none) 2 (some (.own (.ptr 2 0)))) 3 (some (.own (.ptr 3 0)))) 5 (some (.val (tI i)))) (fun (i : Nat) => upd (upd (fun _ => none) 2 (some (⟨48, 2, true, [.val (tWh x)]⟩))) 3 (some (⟨48, 2, true, [.val (tWh y)]⟩))) (nm [2, 3]) (fun (i : Nat) => x.l.length - i) (0) ⟨Nat.zero_le _, rfl⟩ (Sub.int rfl (by first | omega | rfl | (dsimp only; omega)) (Sub.cons rfl (Sub.cons rfl Sub.nil))) ((SubK.consI rfl ImpK.refl) ((SubK.consI rfl ImpK.refl) SubK.nil)) (SupG.val (SupG.own rfl (SupG.own rfl SupG.nil))) (SupH.cons rfl (supJL rfl) (SupH.cons rfl (supJL rfl) SupH.nil)) (lkOk rfl) ?_
      intro i hI
      obtain ⟨hi, ht⟩ := hI
      refine C_seq ?_
      refine C_seq ?_
      refine C_reg ?_
      refine R1 d_move rfl ?_
      refine R1 (d_fieldO fo48_1 rfl) rfl ?_
      refine R_loadF (0) ti46 rfl rfl rfl (At.g 1 rfl rfl) rfl ?_
      refine R1 (d_len Tryz.underlying46) rfl ?_
      refine R2 d_lss rfl rfl ?_
      refine R_nil (by kernel_rfl) ?_
      refine K_then ?_
      refine C_if rfl (fun h153 => ?_) (fun h153 => ?_)
      ·
        refine C_skip ?_
        refine K_then ?_
        refine C_seq ?_
        refine C_block ?_
        refine C_seq ?_
        refine C_len (s := 22) rfl (fun hl22 => ?_)
        refine C_draw mixed ?_
        refine R1 (d_fieldO fo48_1 rfl) rfl ?_
        refine R_loadF (0) ti46 rfl rfl rfl (At.g 1 rfl rfl) rfl ?_
        refine R1 d_move rfl ?_
        refine R2 (d_indexP sl46 (i) (by omega) (gN (by omega))) rfl rfl ?_
        refine R1 (d_loadP ti122) rfl ?_
        refine R1 (d_fieldO fo48_1 rfl) rfl ?_
        refine R_loadF (0) ti46 rfl rfl rfl (At.g 1 rfl rfl) rfl ?_
        refine R1 d_move rfl ?_
        refine R2 (d_indexP sl46 (i) (by omega) (gN (by omega))) rfl rfl ?_
        refine R1 (d_loadP ti122) rfl ?_
        refine R2 d_neq rfl rfl ?_
        refine R_end (by kernel_rfl) ?_
        refine K_then ?_
        refine C_if rfl (fun h154 => ?_) (fun h154 => ?_)
        ·
          refine C_seq ?_
          refine C_reg ?_
          refine R1 d_assign rfl ?_
          refine R_nil (by kernel_rfl) ?_
          refine K_then ?_
          refine C_ret ?_
          refine K_retB ?_
          refine K_retT ?_
          refine K_retT ?_
          refine K_retB ?_
          refine K_retT ?_
          exact E_ret1 Plain.mk' rfl rfl (Le.bool (decide_eq_false (fun h => by rw [h] at h154; omega)).symm)
        ·
          refine C_skip ?_
          refine K_norB ?_
          refine K_then ?_
          refine C_reg ?_
          refine R1 d_move rfl ?_
          refine R2 (d_add (by first | exact wr64 (by omega) (by omega))) rfl rfl ?_
          refine R1 d_assign rfl ?_
          refine R_nil (by kernel_rfl) ?_
          exact K_fam (i + 1) ⟨⟨by omega, by rw [take_succ_getD x.l i (by omega), take_succ_getD y.l i (by omega), ht, show x.l.getD i 0 = y.l.getD i 0 by omega]⟩, (by omega)⟩ (Sub.int rfl (by first | omega | rfl | (dsimp only; omega)) (Sub.cons rfl (Sub.cons rfl Sub.nil))) ((SubK.consI rfl ImpK.refl) ((SubK.consI rfl ImpK.refl) SubK.nil)) (SupG.val (SupG.own rfl (SupG.own rfl SupG.nil))) (SupH.cons rfl (supJL rfl) (SupH.cons rfl (supJL rfl) SupH.nil)) (lkOk rfl)
      ·
        refine C_exit ?_
        refine K_exT ?_
        refine K_exT ?_
        refine K_exB ?_
        refine K_then ?_
        refine C_seq ?_
        refine C_reg ?_
        refine R1 d_assign rfl ?_
        refine R_nil (by kernel_rfl) ?_
        refine K_then ?_
        refine C_ret ?_
        exact E_ret1 Plain.mk' rfl rfl (Le.bool (decide_eq_true (by rw [show i = x.l.length by omega, List.take_length, hll, List.take_length] at ht; obtain ⟨a, b⟩ := x; obtain ⟨c, d⟩ := y; simp only at hn ht; rw [hn, ht])).symm)
theorem iquo64 {a b : Nat} (ha : a < 9223372036854775808) : IntKind.i64.wrap ((a : Int).tdiv (b : Int)) = ((a / b : Nat) : Int) := by
  rw [Int.tdiv_eq_ediv_of_nonneg (by omega)]
  have h : (a : Int) / (b : Int) = ((a / b : Nat) : Int) := (Int.natCast_ediv a b).symm
  rw [h]
  have := Nat.div_le_self a b
  generalize a / b = q at *
  exact wr64 (by omega) (by omega)
theorem c_RShort (a d : Nat) (ha : (dig 65536 a).length ≤ 100000) (hd : 0 < d) (hdW : d < 65536) :
    Ct Tryz.prog 159 [tM a, tI d] (tT [tM (a / d), tM (a % d)]) := by
  refine Ct.intro Tryz.func159 rfl Tryz.ntmps159 rfl ?_
  intro w F
  refine C_seq ?_
  refine C_reg ?_
  refine R1 d_assign rfl ?_
  refine R1 d_assign rfl ?_
  refine R_nil (by kernel_rfl) ?_
  refine K_then ?_
  refine C_seq ?_
  refine C_reg ?_
  refine R1 d_move rfl ?_
  refine R1 (d_len Tryz.underlying46) rfl ?_
  refine RE (d_makeO (k := 11) (t := tE (.int .u16 0)) (ts := rW .u16 (List.replicate ((dig 65536 a).length) 0)) ((dig 65536 a).length) ((dig 65536 a).length) Tryz.underlying46 el122 (fun _ _ => rfl) rfl (by omega) (by omega) (Nat.le_refl _) (by omega) (by omega) (rW_rep _)) ⟨rfl, rfl, trivial⟩ trivial ⟨rfl, trivial⟩ ?_
  refine R1 d_assign rfl ?_
  refine R_nil (by kernel_rfl) ?_
  refine K_then ?_
  refine C_seq ?_
  refine C_reg ?_
  refine R1 d_assign rfl ?_
  refine R_nil (by kernel_rfl) ?_
  refine K_then ?_
  refine C_seq ?_
  refine C_seq ?_
  refine C_reg ?_
  refine R1 d_move rfl ?_
  refine R1 (d_len Tryz.underlying46) rfl ?_
  refine R2 (d_sub (by first | exact wr64 (by omega) (by omega))) rfl rfl ?_
  refine R1 d_assign rfl ?_
  refine R_nil (by kernel_rfl) ?_
  refine K_then ?_
  refine C_block ?_
  refine C_loop (fun (fm : (Nat) × (List Nat)) => (fun (k : Nat) (qs : List Nat) => k ≤ (dig 65536 a).length ∧ qs.length = (dig 65536 a).length ∧ Dig 65536 qs ∧ val 65536 (qs.drop k) = a / 65536 ^ k / d) fm.1 fm.2) (fun (fm : (Nat) × (List Nat)) => (fun (k : Nat) (qs : List Nat) => upd (upd (upd (upd (upd (fun _ => none) 0 (some (.val (tM a)))) 1 (some (.val (tI d)))) 6 (some (.own (.sl 11 1 0 (dig 65536 a).length)))) 7 (some (.val (tI ((a / 65536 ^ k % d : Nat) : Int))))) 8 (some (.val (tI ((k : Int) - 1))))) fm.1 fm.2) (fun (fm : (Nat) × (List Nat)) => (fun (k : Nat) (qs : List Nat) => upd (fun _ => none) 11 (some (⟨122, 1, false, rW .u16 qs⟩))) fm.1 fm.2) (nm [11]) (fun (fm : (Nat) × (List Nat)) => (fun (k : Nat) (qs : List Nat) => k) fm.1 fm.2) (((dig 65536 a).length, List.replicate (dig 65536 a).length 0)) (by dsimp only; exact ⟨Nat.le_refl _, by simp, Dig.rep (by decide) _, by rw [Nat.div_eq_of_lt (lt_len two_le_L a), Nat.zero_div, List.drop_replicate, val_replicate_zero]⟩) (Sub.int rfl (by first | omega | rfl | (dsimp only; omega)) (Sub.le rfl (Le.int (by dsimp only; rw [Nat.div_eq_of_lt (lt_len two_le_L a), Nat.zero_mod]; rfl)) (Sub.cons rfl (Sub.int rfl (by first | omega | rfl | (dsimp only; omega)) (Sub.cons rfl Sub.nil))))) ((SubK.consI rfl ImpK.refl) SubK.nil) (SupG.val (SupG.val (SupG.own rfl (SupG.val (SupG.val SupG.nil))))) (SupH.cons rfl (supJ sup_rW) SupH.nil) (lkOk rfl) ?_
  intro fm hI
  obtain ⟨k, qs⟩ := fm
  replace hI : k ≤ (dig 65536 a).length ∧ qs.length = (dig 65536 a).length ∧ Dig 65536 qs ∧ val 65536 (qs.drop k) = a / 65536 ^ k / d := hI
  show wc _ _ _ _ (upd (upd (upd (upd (upd (fun _ => none) 0 (some (.val (tM a)))) 1 (some (.val (tI d)))) 6 (some (.own (.sl 11 1 0 (dig 65536 a).length)))) 7 (some (.val (tI ((a / 65536 ^ k % d : Nat) : Int))))) 8 (some (.val (tI ((k : Int) - 1))))) (upd (fun _ => none) 11 (some (⟨122, 1, false, rW .u16 qs⟩))) _
  obtain ⟨hk, hl, hD, hv⟩ := hI
  have hr : a / 65536 ^ k % d < d := Nat.mod_lt _ hd
  refine C_seq ?_
  refine C_seq ?_
  refine C_reg ?_
  refine R1 d_move rfl ?_
  refine R2 d_geq rfl rfl ?_
  refine R_nil (by kernel_rfl) ?_
  refine K_then ?_
  refine C_if rfl (fun h93 => ?_) (fun h93 => ?_)
  ·
    obtain ⟨j, rfl⟩ : ∃ j, k = j + 1 := ⟨k - 1, by omega⟩
    have hx := dig_getD two_le_L a j
    have hx1 := (dig_Dig two_le_L a).getD (by decide) j
    obtain ⟨n1, n2, n3, n4, n5⟩ := short_in (k := j) (by omega) hl hD hd rfl hv (by rw [← hx])
    have hq0 := Nat.zero_le (((a / 65536 ^ (j + 1) % d) * 65536 + (dig 65536 a).getD j 0) / d)
    refine C_skip ?_
    refine K_then ?_
    refine C_seq ?_
    refine C_block ?_
    refine C_seq ?_
    refine C_reg ?_
    refine R1 d_move rfl ?_
    refine R2 (d_mul (r := (((a / 65536 ^ (j + 1) % d) * 65536 : Nat) : Int)) (by rw [wr64 (by omega) (by omega)]; omega)) rfl rfl ?_
    refine R1 d_move rfl ?_
    refine R1 d_move rfl ?_
    refine R2 (d_indexP sl46 (j) (by omega) (gN (by omega))) rfl rfl ?_
    refine R1 (d_loadP ti122) rfl ?_
    refine R1 (d_convert Tryz.underlying3 (isS Tryz.underlying122) (by first | exact wr64 (by omega) (by omega))) rfl ?_
    refine R2 (d_add (r := ((((a / 65536 ^ (j + 1) % d) * 65536 + (dig 65536 a).getD j 0) : Nat) : Int)) (by rw [wr64 (by omega) (by omega)]; omega)) rfl rfl ?_
    refine R1 d_assign rfl ?_
    refine R_nil (by kernel_rfl) ?_
    refine K_then ?_
    refine C_seq ?_
    refine C_reg ?_
    refine R1 d_move rfl ?_
    refine R1 d_move rfl ?_
    refine R1 d_move rfl ?_
    refine R1 d_move rfl ?_
    refine R2 (d_quo (r := ((((a / 65536 ^ (j + 1) % d) * 65536 + (dig 65536 a).getD j 0) / d : Nat) : Int)) (by omega) (iquo64 (by omega))) rfl rfl ?_
    refine R1 (d_convert Tryz.underlying122 (isS Tryz.underlying3) (wu16 (by omega) (by omega))) rfl ?_
    refine R2 (d_indexO sl46 (by omega) (by omega) rfl) rfl rfl ?_
    refine RE (d_store (j) ti122 (rW_lt (by omega)) (by omega) (rW_set (m := _) rfl)) ⟨rfl, rfl, trivial⟩ ⟨rfl, trivial⟩ trivial ?_
    refine R_nil (by kernel_rfl) ?_
    refine K_then ?_
    refine C_reg ?_
    refine R1 d_move rfl ?_
    refine R1 d_move rfl ?_
    refine R2 (d_rem (by omega) wrem64) rfl rfl ?_
    refine R1 d_assign rfl ?_
    refine R_nil (by kernel_rfl) ?_
    refine K_norB ?_
    refine K_then ?_
    refine C_reg ?_
    refine R1 d_move rfl ?_
    refine R2 (d_sub (by first | exact wr64 (by omega) (by omega))) rfl rfl ?_
    refine R1 d_assign rfl ?_
    refine R_nil (by kernel_rfl) ?_
    exact K_fam ((j, qs.set j (((a / 65536 ^ (j + 1) % d) * 65536 + (dig 65536 a).getD j 0) / d))) ⟨(by dsimp only; exact ⟨by omega, n1, n2, n4⟩), (by dsimp only; omega)⟩ (Sub.int rfl (by first | omega | rfl | (dsimp only; omega)) (Sub.le rfl (Le.int (by dsimp only; rw [hx, n3])) (Sub.cons rfl (Sub.int rfl (by first | omega | rfl | (dsimp only; omega)) (Sub.cons rfl Sub.nil))))) ((SubK.consI rfl ImpK.refl) SubK.nil) (SupG.val (SupG.val (SupG.own rfl (SupG.val (SupG.val SupG.nil))))) (SupH.cons rfl (supJ sup_rW) SupH.nil) (lkOk rfl)
  ·
    have hk0 : k = 0 := by omega
    subst hk0
    rw [List.drop_zero, Nat.pow_zero, Nat.div_one] at hv
    refine C_exit ?_
    refine K_exT ?_
    refine K_exT ?_
    refine K_exB ?_
    refine K_then ?_
    refine C_seq ?_
    refine C_reg ?_
    refine RE (d_moveS (f := fun n : Nat => tE (.int .u16 n)) (fun _ h => h) (rW_all hl) hl) ⟨rfl, trivial⟩ ⟨rfl, trivial⟩ trivial ?_
    refine R1 (d_call (c_RTrim _) fi185 rfl) rfl ?_
    refine R1 d_move rfl ?_
    refine R1 (d_convert Tryz.underlying122 (isS Tryz.underlying3) (wu16 (by omega) (by omega))) rfl ?_
    refine R1 (d_nums (n := 1) [a / 65536 ^ 0 % d] Tryz.underlying46 el122 zf122 rfl rfl rfl) rfl ?_
    refine R1 (d_call (c_RTrim _) fi185 rfl) rfl ?_
    refine R1 d_assign rfl ?_
    refine R1 d_assign rfl ?_
    refine R_nil (by kernel_rfl) ?_
    refine K_then ?_
    refine C_ret ?_
    exact E_ret2 Plain.mk' rfl rfl rfl (Le.of (congrArg tLm (by rw [trimL_eq_dig two_le_L hD, hv]))) (Le.of (congrArg tLm (by rw [trim1L (by omega), Nat.pow_zero, Nat.div_one])))
end An.S

/- The reference's arithmetic on limbs: sums, differences, halves. Plain numbers. -/
namespace An
open Go
theorem pow_le_of_lt_len {a i : Nat} (h : i < (dig 65536 a).length) : 65536 ^ i ≤ a := by
  rcases Nat.lt_or_ge a (65536 ^ i) with h' | h'
  · have := (len_le_iff two_le_L a i).2 h'; omega
  · exact h'
theorem rplus_in {a b i n s : Nat} (hn : n = (a % 65536 ^ i + b % 65536 ^ i) / 65536 ^ i) (hs : s = n + a / 65536 ^ i % 65536 + b / 65536 ^ i % 65536) :
    dgs 65536 i (a + b) ++ [s % 65536] = dgs 65536 (i + 1) (a + b) ∧ s / 65536 = (a % 65536 ^ (i + 1) + b % 65536 ^ (i + 1)) / 65536 ^ (i + 1) := by
  have hp : 0 < 65536 ^ i := Nat.pow_pos (by decide)
  have ea := Nat.div_add_mod a (65536 ^ i)
  have eb := Nat.div_add_mod b (65536 ^ i)
  have e1 : (a + b) / 65536 ^ i = n + a / 65536 ^ i + b / 65536 ^ i := by
    have : a + b = (a % 65536 ^ i + b % 65536 ^ i) + 65536 ^ i * (a / 65536 ^ i + b / 65536 ^ i) := by rw [Nat.mul_add]; omega
    rw [this, Nat.add_mul_div_left _ _ hp, ← hn]; omega
  refine ⟨?_, ?_⟩
  · rw [dgs_succ, e1, hs]
    congr 2
    omega
  · rw [Nat.pow_succ, ← Nat.div_div_eq_div_mul, ← Nat.pow_succ, mod_step, mod_step]
    have e2 : a % 65536 ^ i + 65536 ^ i * (a / 65536 ^ i % 65536) + (b % 65536 ^ i + 65536 ^ i * (b / 65536 ^ i % 65536)) = (a % 65536 ^ i + b % 65536 ^ i) + 65536 ^ i * (a / 65536 ^ i % 65536 + b / 65536 ^ i % 65536) := by rw [Nat.mul_add]; omega
    rw [e2, Nat.add_mul_div_left _ _ hp, ← hn, hs]
    congr 1; omega
theorem rplus_more {a b i n : Nat} (hn : n = (a % 65536 ^ i + b % 65536 ^ i) / 65536 ^ i) (h : i < (dig 65536 a).length ∨ i < (dig 65536 b).length ∨ 0 < n) : i + 1 ≤ (dig 65536 (a + b)).length := by
  have hp : 0 < 65536 ^ i := Nat.pow_pos (by decide)
  have h1 : 65536 ^ i ≤ a + b := by
    rcases h with h | h | h
    · have := pow_le_of_lt_len h; omega
    · have := pow_le_of_lt_len h; omega
    · have h2 : 65536 ^ i ≤ a % 65536 ^ i + b % 65536 ^ i := by
        rcases Nat.lt_or_ge (a % 65536 ^ i + b % 65536 ^ i) (65536 ^ i) with h' | h'
        · rw [Nat.div_eq_of_lt h'] at hn; omega
        · exact h'
      have := Nat.mod_le a (65536 ^ i); have := Nat.mod_le b (65536 ^ i)
      omega
  rcases Nat.lt_or_ge i (dig 65536 (a + b)).length with h' | h'
  · exact h'
  · have := (len_le_iff two_le_L (a + b) i).1 h'; omega
theorem rplus_end {a b i n : Nat} (hn : n = (a % 65536 ^ i + b % 65536 ^ i) / 65536 ^ i) (h0 : n = 0) (ha : (dig 65536 a).length ≤ i) (hb : (dig 65536 b).length ≤ i) (hi : i ≤ (dig 65536 (a + b)).length) : dgs 65536 i (a + b) = dig 65536 (a + b) := by
  have hp : 0 < 65536 ^ i := Nat.pow_pos (by decide)
  rw [mod_all two_le_L ha, mod_all two_le_L hb, h0] at hn
  have h1 : a + b < 65536 ^ i := (Nat.div_eq_zero_iff_lt hp).1 hn.symm
  have h2 := (len_le_iff two_le_L (a + b) i).2 h1
  rw [show i = (dig 65536 (a + b)).length by omega, dig_eq_dgs two_le_L]
theorem rplus_small {a b i n : Nat} (hn : n = (a % 65536 ^ i + b % 65536 ^ i) / 65536 ^ i) : n ≤ 1 := by
  have hp : 0 < 65536 ^ i := Nat.pow_pos (by decide)
  have h1 := Nat.mod_lt a hp; have h2 := Nat.mod_lt b hp
  rw [hn]
  exact Nat.le_of_lt_succ (Nat.div_lt_of_lt_mul (by omega))
theorem rminus_in {a b i br n : Nat} {cs : List Nat} (hl : cs.length = i) (hv : val 65536 cs + b % 65536 ^ i = a % 65536 ^ i + br * 65536 ^ i) (hbr : br ≤ 1) (hn : n + br + b / 65536 ^ i % 65536 = 65536 + a / 65536 ^ i % 65536) :
    val 65536 (cs ++ [n % 65536]) + b % 65536 ^ (i + 1) = a % 65536 ^ (i + 1) + (1 - n / 65536) * 65536 ^ (i + 1) ∧ n / 65536 ≤ 1 ∧ 1 - n / 65536 ≤ 1 := by
  have h1 : a / 65536 ^ i % 65536 < 65536 := Nat.mod_lt _ (by decide)
  have h2 : b / 65536 ^ i % 65536 < 65536 := Nat.mod_lt _ (by decide)
  refine ⟨?_, by omega, by omega⟩
  rw [val_snoc, hl]
  exact sub_step hv rfl rfl (by omega)
theorem rminus_end {n a b br : Nat} {ws : List Nat} (hl : ws.length = n) (hD : Dig 65536 ws) (ha : a < 65536 ^ n) (hba : b ≤ a) (h : val 65536 ws + b % 65536 ^ n = a % 65536 ^ n + br * 65536 ^ n) : trimL ws = dig 65536 (a - b) := by
  rw [Nat.mod_eq_of_lt ha, Nat.mod_eq_of_lt (by omega)] at h
  have h1 := val_lt hD
  rw [hl] at h1
  rw [trimL_eq_dig two_le_L hD]
  congr 1
  rcases Nat.eq_zero_or_pos br with h0 | h0
  · subst h0; omega
  · have : 65536 ^ n ≤ br * 65536 ^ n := Nat.le_mul_of_pos_left _ h0
    omega
theorem len_dbl {a b k : Nat} (ha : (dig 65536 a).length ≤ k) (hb : (dig 65536 b).length ≤ k) : (dig 65536 (a + b)).length ≤ k + 1 := by
  rw [len_le_iff two_le_L] at *
  rw [Nat.pow_succ]; generalize 65536 ^ k = P at *; omega
end An

/- The reference of layer 1: sums, differences. -/
namespace An.S
open Go Go.Proofs An
set_option maxHeartbeats 2000000
theorem c_RPlus (a b : Nat) (ha : (dig 65536 a).length ≤ 100000) (hb : (dig 65536 b).length ≤ 100000) :
    Ct Tryz.prog 130 [tM a, tM b] (tM (a + b)) := by
  have hab := len_dbl ha hb
  refine Ct.intro Tryz.func130 rfl Tryz.ntmps130 rfl ?_
  intro w F
  refine C_seq ?_
  refine C_reg ?_
  refine R1 d_assign rfl ?_
  refine R_nil (by kernel_rfl) ?_
  refine K_then ?_
  refine C_seq ?_
  refine C_reg ?_
  refine RE (d_assignN (k := 5) 122 1 false rfl (fun _ => rfl)) trivial trivial ⟨rfl, trivial⟩ ?_
  refine R_nil (by kernel_rfl) ?_
  refine K_then ?_
  refine C_seq ?_
  refine C_reg ?_
  refine R1 d_assign rfl ?_
  refine R_nil (by kernel_rfl) ?_
  refine K_then ?_
  refine C_seq ?_
  refine C_seq ?_
  refine C_reg ?_
  refine R1 d_assign rfl ?_
  refine R_nil (by kernel_rfl) ?_
  refine K_then ?_
  refine C_block ?_
  refine C_loop (fun (fm : (Nat) × (Nat) × (List Nat)) => (fun (i : Nat) (n : Nat) (cs : List Nat) => i ≤ (dig 65536 (a + b)).length ∧ n = (a % 65536 ^ i + b % 65536 ^ i) / 65536 ^ i ∧ cs = dgs 65536 i (a + b)) fm.1 fm.2.1 fm.2.2) (fun (fm : (Nat) × (Nat) × (List Nat)) => (fun (i : Nat) (n : Nat) (cs : List Nat) => upd (upd (upd (upd (upd (fun _ => none) 0 (some (.val (tM a)))) 1 (some (.val (tM b)))) 5 (some (.own (.sl 5 1 0 cs.length)))) 7 (some (.val (tI i)))) 6 (some (.val (tI n)))) fm.1 fm.2.1 fm.2.2) (fun (fm : (Nat) × (Nat) × (List Nat)) => (fun (i : Nat) (n : Nat) (cs : List Nat) => upd (fun _ => none) 5 (some (⟨122, 1, false, rW .u16 cs⟩))) fm.1 fm.2.1 fm.2.2) (nm [5]) (fun (fm : (Nat) × (Nat) × (List Nat)) => (fun (i : Nat) (n : Nat) (cs : List Nat) => (dig 65536 (a + b)).length - i) fm.1 fm.2.1 fm.2.2) ((0, 0, [])) (by dsimp only; exact ⟨Nat.zero_le _, by simp [Nat.mod_one], rfl⟩) (Sub.int rfl (by first | omega | rfl | (dsimp only; omega)) (Sub.int rfl (by first | omega | rfl | (dsimp only; omega)) (Sub.cons rfl (Sub.cons rfl (Sub.cons rfl Sub.nil))))) ((SubK.consI rfl ImpK.refl) SubK.nil) (SupG.val (SupG.val (SupG.own rfl (SupG.val (SupG.val SupG.nil))))) (SupH.cons rfl (supJ sup_rW) SupH.nil) (lkOk rfl) ?_
  intro fm hI
  obtain ⟨i, n, cs⟩ := fm
  replace hI : i ≤ (dig 65536 (a + b)).length ∧ n = (a % 65536 ^ i + b % 65536 ^ i) / 65536 ^ i ∧ cs = dgs 65536 i (a + b) := hI
  show wc _ _ _ _ (upd (upd (upd (upd (upd (fun _ => none) 0 (some (.val (tM a)))) 1 (some (.val (tM b)))) 5 (some (.own (.sl 5 1 0 cs.length)))) 7 (some (.val (tI i)))) 6 (some (.val (tI n)))) (upd (fun _ => none) 5 (some (⟨122, 1, false, rW .u16 cs⟩))) _
  obtain ⟨hi, hn, hcs⟩ := hI
  have hcl : cs.length = i := by rw [hcs, dgs_length]
  have hn1 := rplus_small hn
  have xa := dig_getD two_le_L a i
  have xb := dig_getD two_le_L b i
  have xa1 := (dig_Dig two_le_L a).getD (by decide) i
  have xb1 := (dig_Dig two_le_L b).getD (by decide) i
  refine C_seq ?_
  refine C_seq ?_
  refine C_reg ?_
  refine R1 d_move rfl ?_
  refine R1 d_move rfl ?_
  refine R1 (d_len Tryz.underlying46) rfl ?_
  refine R2 d_lss rfl rfl ?_
  refine R1 d_move rfl ?_
  refine RGcaseD (t := 12) rfl (fun h35 => ?_) (fun h35 => ?_)
  ·
    have hmore := rplus_more hn (.inl (by omega))
    refine RGoff (decide_eq_true h35) rfl rfl ?_
    refine RGoff (decide_eq_true h35) rfl rfl ?_
    refine RGoff (decide_eq_true h35) rfl rfl ?_
    refine RGoff (decide_eq_true h35) rfl rfl ?_
    refine R2 (d_pickT (decide_eq_true h35)) rfl rfl ?_
    refine R1 d_move rfl ?_
    refine RGoff1 rfl rfl ?_
    refine RGoff1 rfl rfl ?_
    refine R2 (d_pickT rfl) rfl rfl ?_
    refine R_nil (by kernel_rfl) ?_
    refine K_then ?_
    refine C_bT rfl rfl ?_
    refine C_skip ?_
    refine K_then ?_
    refine C_seq ?_
    refine C_block ?_
    refine C_join (fun (m1 : Nat) => m1 = (n + a / 65536 ^ i % 65536)) (fun (m1 : Nat) => upd (upd (upd (upd (upd (fun _ => none) 0 (some (.val (tM a)))) 1 (some (.val (tM b)))) 5 (some (.own (.sl 5 1 0 cs.length)))) 7 (some (.val (tI i)))) 6 (some (.val (tI m1)))) (fun (m1 : Nat) => upd (fun _ => none) 5 (some (⟨122, 1, false, rW .u16 cs⟩))) (nm [5]) ?_ ?_
    ·
      refine C_seq ?_
      refine C_reg ?_
      refine R1 d_move rfl ?_
      refine R1 d_move rfl ?_
      refine R1 (d_len Tryz.underlying46) rfl ?_
      refine R2 d_lss rfl rfl ?_
      refine R_nil (by kernel_rfl) ?_
      refine K_then ?_
      refine C_if rfl (fun h36 => ?_) (fun h36 => ?_)
      ·
        refine C_reg ?_
        refine R1 d_move rfl ?_
        refine R1 d_move rfl ?_
        refine R1 d_move rfl ?_
        refine R2 (d_indexP sl46 (i) (by omega) (gN (by omega))) rfl rfl ?_
        refine R1 (d_loadP ti122) rfl ?_
        refine R1 (d_convert Tryz.underlying3 (isS Tryz.underlying122) (by first | exact wr64 (by omega) (by omega))) rfl ?_
        refine R2 (d_add (r := ((n + (dig 65536 a).getD i 0 : Nat) : Int)) (by rw [wr64 (by omega) (by omega)]; omega)) rfl rfl ?_
        refine R1 d_assign rfl ?_
        refine R_nil (by kernel_rfl) ?_
        exact K_fam (n + (dig 65536 a).getD i 0) (by rw [xa]) (Sub.int rfl (by first | omega | rfl | (dsimp only; omega)) (Sub.int rfl (by first | omega | rfl | (dsimp only; omega)) (Sub.cons rfl (Sub.cons rfl (Sub.cons rfl Sub.nil))))) ((SubK.consI rfl ImpK.refl) SubK.nil) (SupG.val (SupG.val (SupG.own rfl (SupG.val (SupG.val SupG.nil))))) (SupH.cons rfl (supJ sup_rW) SupH.nil) (lkOk rfl)
      ·
        refine C_skip ?_
        exact K_fam (n) (by rw [dig_out two_le_L (by omega), Nat.add_zero]) (Sub.int rfl (by first | omega | rfl | (dsimp only; omega)) (Sub.int rfl (by first | omega | rfl | (dsimp only; omega)) (Sub.cons rfl (Sub.cons rfl (Sub.cons rfl Sub.nil))))) ((SubK.consI rfl ImpK.refl) SubK.nil) (SupG.val (SupG.val (SupG.own rfl (SupG.val (SupG.val SupG.nil))))) (SupH.cons rfl (supJ sup_rW) SupH.nil) (lkOk rfl)
    ·
      intro m1 hm1
      refine C_join (fun (m2 : Nat) => m2 = (m1 + b / 65536 ^ i % 65536)) (fun (m2 : Nat) => upd (upd (upd (upd (upd (fun _ => none) 0 (some (.val (tM a)))) 1 (some (.val (tM b)))) 5 (some (.own (.sl 5 1 0 cs.length)))) 7 (some (.val (tI i)))) 6 (some (.val (tI m2)))) (fun (m2 : Nat) => upd (fun _ => none) 5 (some (⟨122, 1, false, rW .u16 cs⟩))) (nm [5]) ?_ ?_
      ·
        refine C_seq ?_
        refine C_reg ?_
        refine R1 d_move rfl ?_
        refine R1 d_move rfl ?_
        refine R1 (d_len Tryz.underlying46) rfl ?_
        refine R2 d_lss rfl rfl ?_
        refine R_nil (by kernel_rfl) ?_
        refine K_then ?_
        refine C_if rfl (fun h39 => ?_) (fun h39 => ?_)
        ·
          refine C_reg ?_
          refine R1 d_move rfl ?_
          refine R1 d_move rfl ?_
          refine R1 d_move rfl ?_
          refine R2 (d_indexP sl46 (i) (by omega) (gN (by omega))) rfl rfl ?_
          refine R1 (d_loadP ti122) rfl ?_
          refine R1 (d_convert Tryz.underlying3 (isS Tryz.underlying122) (by first | exact wr64 (by omega) (by omega))) rfl ?_
          refine R2 (d_add (r := ((m1 + (dig 65536 b).getD i 0 : Nat) : Int)) (by rw [wr64 (by omega) (by omega)]; omega)) rfl rfl ?_
          refine R1 d_assign rfl ?_
          refine R_nil (by kernel_rfl) ?_
          exact K_fam (m1 + (dig 65536 b).getD i 0) (by rw [xb]) (Sub.int rfl (by first | omega | rfl | (dsimp only; omega)) (Sub.int rfl (by first | omega | rfl | (dsimp only; omega)) (Sub.cons rfl (Sub.cons rfl (Sub.cons rfl Sub.nil))))) ((SubK.consI rfl ImpK.refl) SubK.nil) (SupG.val (SupG.val (SupG.own rfl (SupG.val (SupG.val SupG.nil))))) (SupH.cons rfl (supJ sup_rW) SupH.nil) (lkOk rfl)
        ·
          refine C_skip ?_
          exact K_fam (m1) (by rw [dig_out two_le_L (by omega), Nat.add_zero]) (Sub.int rfl (by first | omega | rfl | (dsimp only; omega)) (Sub.int rfl (by first | omega | rfl | (dsimp only; omega)) (Sub.cons rfl (Sub.cons rfl (Sub.cons rfl Sub.nil))))) ((SubK.consI rfl ImpK.refl) SubK.nil) (SupG.val (SupG.val (SupG.own rfl (SupG.val (SupG.val SupG.nil))))) (SupH.cons rfl (supJ sup_rW) SupH.nil) (lkOk rfl)
      ·
        intro m2 hm2
        refine C_seq ?_
        refine C_reg ?_
        refine R1 d_move rfl ?_
        refine R1 d_move rfl ?_
        refine R2 (d_rem (r := ((m2 % 65536 : Nat) : Int)) (by decide) (wrem64 (b := 65536))) rfl rfl ?_
        refine R1 (d_convert Tryz.underlying122 (isS Tryz.underlying3) (wu16 (by omega) (by omega))) rfl ?_
        refine R1 (d_nums (n := 1) [m2 % 65536] Tryz.underlying46 el122 zf122 rfl rfl rfl) rfl ?_
        refine RE (d_appendO (k := 5) (k' := 51) (ts' := rW .u16 (cs ++ [m2 % 65536])) Tryz.underlying46 el122 zf122 rfl rfl (fun _ => inferInstance) rW_len (by simp; omega) (by simp; omega) (by simp [rW]) (n' := cs.length + 1) rfl) ⟨rfl, rfl, trivial⟩ ⟨rfl, trivial⟩ ⟨rfl, trivial⟩ ?_
        refine R1 d_assign rfl ?_
        refine R_nil (by kernel_rfl) ?_
        refine K_then ?_
        refine C_reg ?_
        refine R1 d_move rfl ?_
        refine R2 (d_quo (r := ((m2 / 65536 : Nat) : Int)) (by decide) (iquo64 (b := 65536) (by omega))) rfl rfl ?_
        refine R1 d_assign rfl ?_
        refine R_nil (by kernel_rfl) ?_
        refine K_norB ?_
        refine K_then ?_
        refine C_reg ?_
        refine R1 d_move rfl ?_
        refine R2 (d_add (by first | exact wr64 (by omega) (by omega))) rfl rfl ?_
        refine R1 d_assign rfl ?_
        refine R_nil (by kernel_rfl) ?_
        obtain ⟨n1, n2⟩ := rplus_in (s := m2) hn (by rw [hm2, hm1])
        exact K_famR (l := [5]) (fun j => cond (Nat.beq j 5) 51 (j)) ((i + 1, m2 / 65536, cs ++ [m2 % 65536])) ⟨(by dsimp only; exact ⟨hmore, n2, by rw [hcs]; exact n1⟩), (by dsimp only; omega)⟩ (SubR.int rfl (by first | omega | rfl | (dsimp only; omega)) (SubR.int rfl (by first | omega | rfl | (dsimp only; omega)) ((SubR.consI rfl (Imp.of (by dsimp only; rw [List.length_append]; rfl))) (SubR.cons rfl (SubR.cons rfl SubR.nil))))) ((SubKR.consI rfl (ImpK.of ren_rW.symm)) SubKR.nil) (SupG.val (SupG.val (SupG.own rfl (SupG.val (SupG.val SupG.nil))))) (SupH.cons rfl (supJ sup_rW) SupH.nil) (lkOk rfl) rfl rfl (fun _ h => by cases h)
  ·
    refine RGon (decide_eq_false h35) rfl d_move rfl ⟨rfl, trivial⟩ trivial trivial ?_
    refine RGon (decide_eq_false h35) rfl d_move rfl ⟨rfl, trivial⟩ trivial trivial ?_
    refine RGon (decide_eq_false h35) rfl (d_len Tryz.underlying46) rfl ⟨rfl, trivial⟩ trivial trivial ?_
    refine RGon (decide_eq_false h35) rfl d_lss rfl ⟨rfl, rfl, trivial⟩ trivial trivial ?_
    refine R2 (d_pickF (decide_eq_false h35)) rfl rfl ?_
    refine R1 d_move rfl ?_
    refine RGcaseD (t := 18) rfl (fun h35_2 => ?_) (fun h35_2 => ?_)
    ·
      have hmore := rplus_more hn (.inr (.inl (by omega)))
      refine RGoff (decide_eq_true h35_2) rfl rfl ?_
      refine RGoff (decide_eq_true h35_2) rfl rfl ?_
      refine R2 (d_pickT (decide_eq_true h35_2)) rfl rfl ?_
      refine R_nil (by kernel_rfl) ?_
      refine K_then ?_
      refine C_bT rfl rfl ?_
      refine C_skip ?_
      refine K_then ?_
      refine C_seq ?_
      refine C_block ?_
      refine C_join (fun (m1 : Nat) => m1 = (n + a / 65536 ^ i % 65536)) (fun (m1 : Nat) => upd (upd (upd (upd (upd (fun _ => none) 0 (some (.val (tM a)))) 1 (some (.val (tM b)))) 5 (some (.own (.sl 5 1 0 cs.length)))) 7 (some (.val (tI i)))) 6 (some (.val (tI m1)))) (fun (m1 : Nat) => upd (fun _ => none) 5 (some (⟨122, 1, false, rW .u16 cs⟩))) (nm [5]) ?_ ?_
      ·
        refine C_seq ?_
        refine C_reg ?_
        refine R1 d_move rfl ?_
        refine R1 d_move rfl ?_
        refine R1 (d_len Tryz.underlying46) rfl ?_
        refine R2 d_lss rfl rfl ?_
        refine R_nil (by kernel_rfl) ?_
        refine K_then ?_
        refine C_if rfl (fun h36 => ?_) (fun h36 => ?_)
        ·
          refine C_reg ?_
          refine R1 d_move rfl ?_
          refine R1 d_move rfl ?_
          refine R1 d_move rfl ?_
          refine R2 (d_indexP sl46 (i) (by omega) (gN (by omega))) rfl rfl ?_
          refine R1 (d_loadP ti122) rfl ?_
          refine R1 (d_convert Tryz.underlying3 (isS Tryz.underlying122) (by first | exact wr64 (by omega) (by omega))) rfl ?_
          refine R2 (d_add (r := ((n + (dig 65536 a).getD i 0 : Nat) : Int)) (by rw [wr64 (by omega) (by omega)]; omega)) rfl rfl ?_
          refine R1 d_assign rfl ?_
          refine R_nil (by kernel_rfl) ?_
          exact K_fam (n + (dig 65536 a).getD i 0) (by rw [xa]) (Sub.int rfl (by first | omega | rfl | (dsimp only; omega)) (Sub.int rfl (by first | omega | rfl | (dsimp only; omega)) (Sub.cons rfl (Sub.cons rfl (Sub.cons rfl Sub.nil))))) ((SubK.consI rfl ImpK.refl) SubK.nil) (SupG.val (SupG.val (SupG.own rfl (SupG.val (SupG.val SupG.nil))))) (SupH.cons rfl (supJ sup_rW) SupH.nil) (lkOk rfl)
        ·
          refine C_skip ?_
          exact K_fam (n) (by rw [dig_out two_le_L (by omega), Nat.add_zero]) (Sub.int rfl (by first | omega | rfl | (dsimp only; omega)) (Sub.int rfl (by first | omega | rfl | (dsimp only; omega)) (Sub.cons rfl (Sub.cons rfl (Sub.cons rfl Sub.nil))))) ((SubK.consI rfl ImpK.refl) SubK.nil) (SupG.val (SupG.val (SupG.own rfl (SupG.val (SupG.val SupG.nil))))) (SupH.cons rfl (supJ sup_rW) SupH.nil) (lkOk rfl)
      ·
        intro m1 hm1
        refine C_join (fun (m2 : Nat) => m2 = (m1 + b / 65536 ^ i % 65536)) (fun (m2 : Nat) => upd (upd (upd (upd (upd (fun _ => none) 0 (some (.val (tM a)))) 1 (some (.val (tM b)))) 5 (some (.own (.sl 5 1 0 cs.length)))) 7 (some (.val (tI i)))) 6 (some (.val (tI m2)))) (fun (m2 : Nat) => upd (fun _ => none) 5 (some (⟨122, 1, false, rW .u16 cs⟩))) (nm [5]) ?_ ?_
        ·
          refine C_seq ?_
          refine C_reg ?_
          refine R1 d_move rfl ?_
          refine R1 d_move rfl ?_
          refine R1 (d_len Tryz.underlying46) rfl ?_
          refine R2 d_lss rfl rfl ?_
          refine R_nil (by kernel_rfl) ?_
          refine K_then ?_
          refine C_if rfl (fun h39 => ?_) (fun h39 => ?_)
          ·
            refine C_reg ?_
            refine R1 d_move rfl ?_
            refine R1 d_move rfl ?_
            refine R1 d_move rfl ?_
            refine R2 (d_indexP sl46 (i) (by omega) (gN (by omega))) rfl rfl ?_
            refine R1 (d_loadP ti122) rfl ?_
            refine R1 (d_convert Tryz.underlying3 (isS Tryz.underlying122) (by first | exact wr64 (by omega) (by omega))) rfl ?_
            refine R2 (d_add (r := ((m1 + (dig 65536 b).getD i 0 : Nat) : Int)) (by rw [wr64 (by omega) (by omega)]; omega)) rfl rfl ?_
            refine R1 d_assign rfl ?_
            refine R_nil (by kernel_rfl) ?_
            exact K_fam (m1 + (dig 65536 b).getD i 0) (by rw [xb]) (Sub.int rfl (by first | omega | rfl | (dsimp only; omega)) (Sub.int rfl (by first | omega | rfl | (dsimp only; omega)) (Sub.cons rfl (Sub.cons rfl (Sub.cons rfl Sub.nil))))) ((SubK.consI rfl ImpK.refl) SubK.nil) (SupG.val (SupG.val (SupG.own rfl (SupG.val (SupG.val SupG.nil))))) (SupH.cons rfl (supJ sup_rW) SupH.nil) (lkOk rfl)
          ·
            refine C_skip ?_
            exact K_fam (m1) (by rw [dig_out two_le_L (by omega), Nat.add_zero]) (Sub.int rfl (by first | omega | rfl | (dsimp only; omega)) (Sub.int rfl (by first | omega | rfl | (dsimp only; omega)) (Sub.cons rfl (Sub.cons rfl (Sub.cons rfl Sub.nil))))) ((SubK.consI rfl ImpK.refl) SubK.nil) (SupG.val (SupG.val (SupG.own rfl (SupG.val (SupG.val SupG.nil))))) (SupH.cons rfl (supJ sup_rW) SupH.nil) (lkOk rfl)
        ·
          intro m2 hm2
          refine C_seq ?_
          refine C_reg ?_
          refine R1 d_move rfl ?_
          refine R1 d_move rfl ?_
          refine R2 (d_rem (r := ((m2 % 65536 : Nat) : Int)) (by decide) (wrem64 (b := 65536))) rfl rfl ?_
          refine R1 (d_convert Tryz.underlying122 (isS Tryz.underlying3) (wu16 (by omega) (by omega))) rfl ?_
          refine R1 (d_nums (n := 1) [m2 % 65536] Tryz.underlying46 el122 zf122 rfl rfl rfl) rfl ?_
          refine RE (d_appendO (k := 5) (k' := 51) (ts' := rW .u16 (cs ++ [m2 % 65536])) Tryz.underlying46 el122 zf122 rfl rfl (fun _ => inferInstance) rW_len (by simp; omega) (by simp; omega) (by simp [rW]) (n' := cs.length + 1) rfl) ⟨rfl, rfl, trivial⟩ ⟨rfl, trivial⟩ ⟨rfl, trivial⟩ ?_
          refine R1 d_assign rfl ?_
          refine R_nil (by kernel_rfl) ?_
          refine K_then ?_
          refine C_reg ?_
          refine R1 d_move rfl ?_
          refine R2 (d_quo (r := ((m2 / 65536 : Nat) : Int)) (by decide) (iquo64 (b := 65536) (by omega))) rfl rfl ?_
          refine R1 d_assign rfl ?_
          refine R_nil (by kernel_rfl) ?_
          refine K_norB ?_
          refine K_then ?_
          refine C_reg ?_
          refine R1 d_move rfl ?_
          refine R2 (d_add (by first | exact wr64 (by omega) (by omega))) rfl rfl ?_
          refine R1 d_assign rfl ?_
          refine R_nil (by kernel_rfl) ?_
          obtain ⟨n1, n2⟩ := rplus_in (s := m2) hn (by rw [hm2, hm1])
          exact K_famR (l := [5]) (fun j => cond (Nat.beq j 5) 51 (j)) ((i + 1, m2 / 65536, cs ++ [m2 % 65536])) ⟨(by dsimp only; exact ⟨hmore, n2, by rw [hcs]; exact n1⟩), (by dsimp only; omega)⟩ (SubR.int rfl (by first | omega | rfl | (dsimp only; omega)) (SubR.int rfl (by first | omega | rfl | (dsimp only; omega)) ((SubR.consI rfl (Imp.of (by dsimp only; rw [List.length_append]; rfl))) (SubR.cons rfl (SubR.cons rfl SubR.nil))))) ((SubKR.consI rfl (ImpK.of ren_rW.symm)) SubKR.nil) (SupG.val (SupG.val (SupG.own rfl (SupG.val (SupG.val SupG.nil))))) (SupH.cons rfl (supJ sup_rW) SupH.nil) (lkOk rfl) rfl rfl (fun _ h => by cases h)
    ·
      refine RGon (decide_eq_false h35_2) rfl d_move rfl ⟨rfl, trivial⟩ trivial trivial ?_
      refine RGon (decide_eq_false h35_2) rfl d_gtr rfl ⟨rfl, rfl, trivial⟩ trivial trivial ?_
      refine R2 (d_pickF (decide_eq_false h35_2)) rfl rfl ?_
      refine R_nil (by kernel_rfl) ?_
      refine K_then ?_
      refine C_if rfl (fun h35_3 => ?_) (fun h35_3 => ?_)
      ·
        have hmore := rplus_more hn (.inr (.inr (by omega)))
        refine C_skip ?_
        refine K_then ?_
        refine C_seq ?_
        refine C_block ?_
        refine C_join (fun (m1 : Nat) => m1 = (n + a / 65536 ^ i % 65536)) (fun (m1 : Nat) => upd (upd (upd (upd (upd (fun _ => none) 0 (some (.val (tM a)))) 1 (some (.val (tM b)))) 5 (some (.own (.sl 5 1 0 cs.length)))) 7 (some (.val (tI i)))) 6 (some (.val (tI m1)))) (fun (m1 : Nat) => upd (fun _ => none) 5 (some (⟨122, 1, false, rW .u16 cs⟩))) (nm [5]) ?_ ?_
        ·
          refine C_seq ?_
          refine C_reg ?_
          refine R1 d_move rfl ?_
          refine R1 d_move rfl ?_
          refine R1 (d_len Tryz.underlying46) rfl ?_
          refine R2 d_lss rfl rfl ?_
          refine R_nil (by kernel_rfl) ?_
          refine K_then ?_
          refine C_if rfl (fun h36 => ?_) (fun h36 => ?_)
          ·
            refine C_reg ?_
            refine R1 d_move rfl ?_
            refine R1 d_move rfl ?_
            refine R1 d_move rfl ?_
            refine R2 (d_indexP sl46 (i) (by omega) (gN (by omega))) rfl rfl ?_
            refine R1 (d_loadP ti122) rfl ?_
            refine R1 (d_convert Tryz.underlying3 (isS Tryz.underlying122) (by first | exact wr64 (by omega) (by omega))) rfl ?_
            refine R2 (d_add (r := ((n + (dig 65536 a).getD i 0 : Nat) : Int)) (by rw [wr64 (by omega) (by omega)]; omega)) rfl rfl ?_
            refine R1 d_assign rfl ?_
            refine R_nil (by kernel_rfl) ?_
            exact K_fam (n + (dig 65536 a).getD i 0) (by rw [xa]) (Sub.int rfl (by first | omega | rfl | (dsimp only; omega)) (Sub.int rfl (by first | omega | rfl | (dsimp only; omega)) (Sub.cons rfl (Sub.cons rfl (Sub.cons rfl Sub.nil))))) ((SubK.consI rfl ImpK.refl) SubK.nil) (SupG.val (SupG.val (SupG.own rfl (SupG.val (SupG.val SupG.nil))))) (SupH.cons rfl (supJ sup_rW) SupH.nil) (lkOk rfl)
          ·
            refine C_skip ?_
            exact K_fam (n) (by rw [dig_out two_le_L (by omega), Nat.add_zero]) (Sub.int rfl (by first | omega | rfl | (dsimp only; omega)) (Sub.int rfl (by first | omega | rfl | (dsimp only; omega)) (Sub.cons rfl (Sub.cons rfl (Sub.cons rfl Sub.nil))))) ((SubK.consI rfl ImpK.refl) SubK.nil) (SupG.val (SupG.val (SupG.own rfl (SupG.val (SupG.val SupG.nil))))) (SupH.cons rfl (supJ sup_rW) SupH.nil) (lkOk rfl)
        ·
          intro m1 hm1
          refine C_join (fun (m2 : Nat) => m2 = (m1 + b / 65536 ^ i % 65536)) (fun (m2 : Nat) => upd (upd (upd (upd (upd (fun _ => none) 0 (some (.val (tM a)))) 1 (some (.val (tM b)))) 5 (some (.own (.sl 5 1 0 cs.length)))) 7 (some (.val (tI i)))) 6 (some (.val (tI m2)))) (fun (m2 : Nat) => upd (fun _ => none) 5 (some (⟨122, 1, false, rW .u16 cs⟩))) (nm [5]) ?_ ?_
          ·
            refine C_seq ?_
            refine C_reg ?_
            refine R1 d_move rfl ?_
            refine R1 d_move rfl ?_
            refine R1 (d_len Tryz.underlying46) rfl ?_
            refine R2 d_lss rfl rfl ?_
            refine R_nil (by kernel_rfl) ?_
            refine K_then ?_
            refine C_if rfl (fun h39 => ?_) (fun h39 => ?_)
            ·
              refine C_reg ?_
              refine R1 d_move rfl ?_
              refine R1 d_move rfl ?_
              refine R1 d_move rfl ?_
              refine R2 (d_indexP sl46 (i) (by omega) (gN (by omega))) rfl rfl ?_
              refine R1 (d_loadP ti122) rfl ?_
              refine R1 (d_convert Tryz.underlying3 (isS Tryz.underlying122) (by first | exact wr64 (by omega) (by omega))) rfl ?_
              refine R2 (d_add (r := ((m1 + (dig 65536 b).getD i 0 : Nat) : Int)) (by rw [wr64 (by omega) (by omega)]; omega)) rfl rfl ?_
              refine R1 d_assign rfl ?_
              refine R_nil (by kernel_rfl) ?_
              exact K_fam (m1 + (dig 65536 b).getD i 0) (by rw [xb]) (Sub.int rfl (by first | omega | rfl | (dsimp only; omega)) (Sub.int rfl (by first | omega | rfl | (dsimp only; omega)) (Sub.cons rfl (Sub.cons rfl (Sub.cons rfl Sub.nil))))) ((SubK.consI rfl ImpK.refl) SubK.nil) (SupG.val (SupG.val (SupG.own rfl (SupG.val (SupG.val SupG.nil))))) (SupH.cons rfl (supJ sup_rW) SupH.nil) (lkOk rfl)
            ·
              refine C_skip ?_
              exact K_fam (m1) (by rw [dig_out two_le_L (by omega), Nat.add_zero]) (Sub.int rfl (by first | omega | rfl | (dsimp only; omega)) (Sub.int rfl (by first | omega | rfl | (dsimp only; omega)) (Sub.cons rfl (Sub.cons rfl (Sub.cons rfl Sub.nil))))) ((SubK.consI rfl ImpK.refl) SubK.nil) (SupG.val (SupG.val (SupG.own rfl (SupG.val (SupG.val SupG.nil))))) (SupH.cons rfl (supJ sup_rW) SupH.nil) (lkOk rfl)
          ·
            intro m2 hm2
            refine C_seq ?_
            refine C_reg ?_
            refine R1 d_move rfl ?_
            refine R1 d_move rfl ?_
            refine R2 (d_rem (r := ((m2 % 65536 : Nat) : Int)) (by decide) (wrem64 (b := 65536))) rfl rfl ?_
            refine R1 (d_convert Tryz.underlying122 (isS Tryz.underlying3) (wu16 (by omega) (by omega))) rfl ?_
            refine R1 (d_nums (n := 1) [m2 % 65536] Tryz.underlying46 el122 zf122 rfl rfl rfl) rfl ?_
            refine RE (d_appendO (k := 5) (k' := 51) (ts' := rW .u16 (cs ++ [m2 % 65536])) Tryz.underlying46 el122 zf122 rfl rfl (fun _ => inferInstance) rW_len (by simp; omega) (by simp; omega) (by simp [rW]) (n' := cs.length + 1) rfl) ⟨rfl, rfl, trivial⟩ ⟨rfl, trivial⟩ ⟨rfl, trivial⟩ ?_
            refine R1 d_assign rfl ?_
            refine R_nil (by kernel_rfl) ?_
            refine K_then ?_
            refine C_reg ?_
            refine R1 d_move rfl ?_
            refine R2 (d_quo (r := ((m2 / 65536 : Nat) : Int)) (by decide) (iquo64 (b := 65536) (by omega))) rfl rfl ?_
            refine R1 d_assign rfl ?_
            refine R_nil (by kernel_rfl) ?_
            refine K_norB ?_
            refine K_then ?_
            refine C_reg ?_
            refine R1 d_move rfl ?_
            refine R2 (d_add (by first | exact wr64 (by omega) (by omega))) rfl rfl ?_
            refine R1 d_assign rfl ?_
            refine R_nil (by kernel_rfl) ?_
            obtain ⟨n1, n2⟩ := rplus_in (s := m2) hn (by rw [hm2, hm1])
            exact K_famR (l := [5]) (fun j => cond (Nat.beq j 5) 51 (j)) ((i + 1, m2 / 65536, cs ++ [m2 % 65536])) ⟨(by dsimp only; exact ⟨hmore, n2, by rw [hcs]; exact n1⟩), (by dsimp only; omega)⟩ (SubR.int rfl (by first | omega | rfl | (dsimp only; omega)) (SubR.int rfl (by first | omega | rfl | (dsimp only; omega)) ((SubR.consI rfl (Imp.of (by dsimp only; rw [List.length_append]; rfl))) (SubR.cons rfl (SubR.cons rfl SubR.nil))))) ((SubKR.consI rfl (ImpK.of ren_rW.symm)) SubKR.nil) (SupG.val (SupG.val (SupG.own rfl (SupG.val (SupG.val SupG.nil))))) (SupH.cons rfl (supJ sup_rW) SupH.nil) (lkOk rfl) rfl rfl (fun _ h => by cases h)
      ·
        refine C_exit ?_
        refine K_exT ?_
        refine K_exT ?_
        refine K_exB ?_
        refine K_then ?_
        refine C_seq ?_
        refine C_reg ?_
        refine RE (d_moveS (f := fun n : Nat => tE (.int .u16 n)) (xs := cs) (fun _ h => h) (rW_all rfl) rfl) ⟨rfl, trivial⟩ ⟨rfl, trivial⟩ trivial ?_
        refine R1 d_assign rfl ?_
        refine R_nil (by kernel_rfl) ?_
        refine K_then ?_
        refine C_ret ?_
        exact E_ret1 Plain.mk' rfl rfl (Le.of (congrArg tLm (by rw [hcs, rplus_end hn (by omega) (by omega) (by omega) hi])))
end An.S

/- The reference's division: bit by bit. Plain numbers. -/
namespace An
open Go
theorem half_in {a k n q m : Nat} {qs : List Nat} (hk : k < m) (hl : qs.length = m) (hD : Dig 65536 qs) (hn : n % 2 = a / 65536 ^ (k + 1) % 2) (hv : val 65536 (qs.drop (k + 1)) = a / 65536 ^ (k + 1) / 2) (hq : (n % 2 * 65536 + a / 65536 ^ k % 65536) / 2 = q) :
    (qs.set k q).length = m ∧ Dig 65536 (qs.set k q) ∧ (n % 2 * 65536 + a / 65536 ^ k % 65536) % 2 = a / 65536 ^ k % 2 ∧ val 65536 ((qs.set k q).drop k) = a / 65536 ^ k / 2 ∧ q < 65536 := short_in hk hl hD (by decide) hn hv hq
theorem from_more {v i u : Nat} (hu : u = v / 65536 ^ i) (h0 : 0 < u) : i + 1 ≤ (dig 65536 v).length ∧ u / 65536 = v / 65536 ^ (i + 1) ∧ dgs 65536 i v ++ [u % 65536] = dgs 65536 (i + 1) v := by
  refine ⟨?_, by rw [hu, Nat.div_div_eq_div_mul, ← Nat.pow_succ], by rw [dgs_succ, hu]⟩
  rcases Nat.lt_or_ge i (dig 65536 v).length with h' | h'
  · exact h'
  · have := (len_le_iff two_le_L v i).1 h'
    rw [Nat.div_eq_of_lt this] at hu; omega
theorem from_end {v i : Nat} (h : v / 65536 ^ i = 0) (hi : i ≤ (dig 65536 v).length) : dgs 65536 i v = dig 65536 v := by
  have h1 : v < 65536 ^ i := (Nat.div_eq_zero_iff_lt (Nat.pow_pos (by decide))).1 h
  have h2 := (len_le_iff two_le_L v i).2 h1
  rw [show i = (dig 65536 v).length by omega, dig_eq_dgs two_le_L]
theorem bits_le {a n k : Nat} (h : 2 ^ n ≤ a) (hk : (dig 65536 a).length ≤ k) : n < 16 * k := by
  have h1 := (len_le_iff two_le_L a k).1 hk
  have e : 65536 ^ k = 2 ^ (16 * k) := by rw [Nat.pow_mul]
  rw [e] at h1
  exact (Nat.pow_lt_pow_iff_right (by decide)).1 (Nat.lt_of_le_of_lt h h1)
theorem div_bit {a b n i q r d : Nat} (hi : i < n) (hd : d = b * 2 ^ (n - i)) (ha : a = q * d + r) (hr : r < d) :
    d / 2 = b * 2 ^ (n - (i + 1)) ∧ (r < d / 2 → a = (q + q) * (d / 2) + r) ∧ (¬ r < d / 2 → a = (q + q + 1) * (d / 2) + (r - d / 2) ∧ r - d / 2 < d / 2 ∧ d / 2 ≤ r) := by
  have e : d = 2 * (b * 2 ^ (n - (i + 1))) := by rw [hd, show n - i = n - (i + 1) + 1 by omega, Nat.pow_succ]; grind
  have h1 : d / 2 = b * 2 ^ (n - (i + 1)) := by omega
  refine ⟨h1, fun h => ?_, fun h => ⟨?_, by omega, by omega⟩⟩
  · rw [h1, ha, e]; grind
  · rw [h1] at h ⊢
    generalize b * 2 ^ (n - (i + 1)) = c at *
    rw [ha, e]
    have : (q + q + 1) * c = q * (2 * c) + c := by grind
    rw [this]; omega
theorem div_done {a b q r : Nat} (ha : a = q * b + r) (hr : r < b) : q = a / b ∧ r = a % b := by
  have hb : 0 < b := by omega
  constructor
  · rw [ha, Nat.mul_comm, Nat.mul_add_div hb, Nat.div_eq_of_lt hr, Nat.add_zero]
  · rw [ha, Nat.mul_comm, Nat.mul_add_mod, Nat.mod_eq_of_lt hr]
end An

/- The reference of layer 1: differences, halves, quotients. -/
namespace An.S
open Go Go.Proofs An
set_option maxHeartbeats 2000000
theorem fi110 : FnI Tryz.prog 110 := ⟨_, Tryz.func110, by kernel_rfl, rfl⟩
theorem c_RMinus (a b : Nat) (hab : b ≤ a) (ha : (dig 65536 a).length ≤ 100000) :
    Ct Tryz.prog 131 [tM a, tM b] (tM (a - b)) := by
  refine Ct.intro Tryz.func131 rfl Tryz.ntmps131 rfl ?_
  intro w F
  refine C_seq ?_
  refine C_reg ?_
  refine R1 d_assign rfl ?_
  refine R_nil (by kernel_rfl) ?_
  refine K_then ?_
  refine C_seq ?_
  refine C_reg ?_
  refine RE (d_assignN (k := 5) 122 1 false rfl (fun _ => rfl)) trivial trivial ⟨rfl, trivial⟩ ?_
  refine R_nil (by kernel_rfl) ?_
  refine K_then ?_
  refine C_seq ?_
  refine C_reg ?_
  refine R1 d_assign rfl ?_
  refine R_nil (by kernel_rfl) ?_
  refine K_then ?_
  refine C_seq ?_
  refine C_seq ?_
  refine C_reg ?_
  refine R1 d_assign rfl ?_
  refine R_nil (by kernel_rfl) ?_
  refine K_then ?_
  refine C_block ?_
  refine C_loop (fun (fm : (Nat) × (Nat) × (List Nat)) => (fun (i : Nat) (br : Nat) (cs : List Nat) => i ≤ (dig 65536 a).length ∧ cs.length = i ∧ Dig 65536 cs ∧ val 65536 cs + b % 65536 ^ i = a % 65536 ^ i + br * 65536 ^ i ∧ br ≤ 1) fm.1 fm.2.1 fm.2.2) (fun (fm : (Nat) × (Nat) × (List Nat)) => (fun (i : Nat) (br : Nat) (cs : List Nat) => upd (upd (upd (upd (upd (fun _ => none) 0 (some (.val (tM a)))) 1 (some (.val (tM b)))) 5 (some (.own (.sl 5 1 0 cs.length)))) 6 (some (.val (tI br)))) 7 (some (.val (tI i)))) fm.1 fm.2.1 fm.2.2) (fun (fm : (Nat) × (Nat) × (List Nat)) => (fun (i : Nat) (br : Nat) (cs : List Nat) => upd (fun _ => none) 5 (some (⟨122, 1, false, rW .u16 cs⟩))) fm.1 fm.2.1 fm.2.2) (nm [5]) (fun (fm : (Nat) × (Nat) × (List Nat)) => (fun (i : Nat) (br : Nat) (cs : List Nat) => (dig 65536 a).length - i) fm.1 fm.2.1 fm.2.2) ((0, 0, [])) (by dsimp only; exact ⟨Nat.zero_le _, rfl, Dig.nil _, by simp [val, Nat.mod_one], by omega⟩) (Sub.int rfl (by first | omega | rfl | (dsimp only; omega)) (Sub.int rfl (by first | omega | rfl | (dsimp only; omega)) (Sub.cons rfl (Sub.cons rfl (Sub.cons rfl Sub.nil))))) ((SubK.consI rfl ImpK.refl) SubK.nil) (SupG.val (SupG.val (SupG.own rfl (SupG.val (SupG.val SupG.nil))))) (SupH.cons rfl (supJ sup_rW) SupH.nil) (lkOk rfl) ?_
  intro fm hI
  obtain ⟨i, br, cs⟩ := fm
  replace hI : i ≤ (dig 65536 a).length ∧ cs.length = i ∧ Dig 65536 cs ∧ val 65536 cs + b % 65536 ^ i = a % 65536 ^ i + br * 65536 ^ i ∧ br ≤ 1 := hI
  show wc _ _ _ _ (upd (upd (upd (upd (upd (fun _ => none) 0 (some (.val (tM a)))) 1 (some (.val (tM b)))) 5 (some (.own (.sl 5 1 0 cs.length)))) 6 (some (.val (tI br)))) 7 (some (.val (tI i)))) (upd (fun _ => none) 5 (some (⟨122, 1, false, rW .u16 cs⟩))) _
  obtain ⟨hi, hl, hD, hv, hbr⟩ := hI
  have xa := dig_getD two_le_L a i
  have xb := dig_getD two_le_L b i
  have xa1 := (dig_Dig two_le_L a).getD (by decide) i
  have xb1 := (dig_Dig two_le_L b).getD (by decide) i
  refine C_seq ?_
  refine C_seq ?_
  refine C_reg ?_
  refine R1 d_move rfl ?_
  refine R1 d_move rfl ?_
  refine R1 (d_len Tryz.underlying46) rfl ?_
  refine R2 d_lss rfl rfl ?_
  refine R_nil (by kernel_rfl) ?_
  refine K_then ?_
  refine C_if rfl (fun h52 => ?_) (fun h52 => ?_)
  ·
    refine C_skip ?_
    refine K_then ?_
    refine C_seq ?_
    refine C_block ?_
    refine C_seq ?_
    refine C_reg ?_
    refine R1 d_move rfl ?_
    refine R1 d_move rfl ?_
    refine R2 (d_indexP sl46 (i) (by omega) (gN (by omega))) rfl rfl ?_
    refine R1 (d_loadP ti122) rfl ?_
    refine R1 (d_convert Tryz.underlying3 (isS Tryz.underlying122) (by first | exact wr64 (by omega) (by omega))) rfl ?_
    refine R2 (d_add (r := ((65536 + ((dig 65536 a).getD i 0) : Nat) : Int)) (by rw [wr64 (by omega) (by omega)]; omega)) rfl rfl ?_
    refine R1 d_move rfl ?_
    refine R2 (d_sub (r := ((65536 + ((dig 65536 a).getD i 0) - br : Nat) : Int)) (by rw [wr64 (by omega) (by omega)]; omega)) rfl rfl ?_
    refine R1 d_assign rfl ?_
    refine R_nil (by kernel_rfl) ?_
    refine K_then ?_
    refine C_join (fun (m : Nat) => m + br + b / 65536 ^ i % 65536 = 65536 + a / 65536 ^ i % 65536) (fun (m : Nat) => upd (upd (upd (upd (upd (upd (fun _ => none) 0 (some (.val (tM a)))) 1 (some (.val (tM b)))) 5 (some (.own (.sl 5 1 0 cs.length)))) 6 (some (.val (tI br)))) 7 (some (.val (tI i)))) 8 (some (.val (tI m)))) (fun (m : Nat) => upd (fun _ => none) 5 (some (⟨122, 1, false, rW .u16 cs⟩))) (nm [5]) ?_ ?_
    ·
      refine C_seq ?_
      refine C_reg ?_
      refine R1 d_move rfl ?_
      refine R1 d_move rfl ?_
      refine R1 (d_len Tryz.underlying46) rfl ?_
      refine R2 d_lss rfl rfl ?_
      refine R_nil (by kernel_rfl) ?_
      refine K_then ?_
      refine C_if rfl (fun h54 => ?_) (fun h54 => ?_)
      ·
        refine C_reg ?_
        refine R1 d_move rfl ?_
        refine R1 d_move rfl ?_
        refine R1 d_move rfl ?_
        refine R2 (d_indexP sl46 (i) (by omega) (gN (by omega))) rfl rfl ?_
        refine R1 (d_loadP ti122) rfl ?_
        refine R1 (d_convert Tryz.underlying3 (isS Tryz.underlying122) (by first | exact wr64 (by omega) (by omega))) rfl ?_
        refine R2 (d_sub (r := ((65536 + ((dig 65536 a).getD i 0) - br - ((dig 65536 b).getD i 0) : Nat) : Int)) (by rw [wr64 (by omega) (by omega)]; omega)) rfl rfl ?_
        refine R1 d_assign rfl ?_
        refine R_nil (by kernel_rfl) ?_
        exact K_fam (65536 + ((dig 65536 a).getD i 0) - br - ((dig 65536 b).getD i 0)) (by omega) (Sub.int rfl (by first | omega | rfl | (dsimp only; omega)) (Sub.int rfl (by first | omega | rfl | (dsimp only; omega)) (Sub.int rfl (by first | omega | rfl | (dsimp only; omega)) (Sub.cons rfl (Sub.cons rfl (Sub.cons rfl Sub.nil)))))) ((SubK.consI rfl ImpK.refl) SubK.nil) (SupG.val (SupG.val (SupG.val (SupG.own rfl (SupG.val (SupG.val SupG.nil)))))) (SupH.cons rfl (supJ sup_rW) SupH.nil) (lkOk rfl)
      ·
        refine C_skip ?_
        exact K_fam (65536 + ((dig 65536 a).getD i 0) - br) (by rw [dig_out two_le_L (v := b) (i := i) (by omega)]; omega) (Sub.int rfl (by first | omega | rfl | (dsimp only; omega)) (Sub.int rfl (by first | omega | rfl | (dsimp only; omega)) (Sub.int rfl (by first | omega | rfl | (dsimp only; omega)) (Sub.cons rfl (Sub.cons rfl (Sub.cons rfl Sub.nil)))))) ((SubK.consI rfl ImpK.refl) SubK.nil) (SupG.val (SupG.val (SupG.val (SupG.own rfl (SupG.val (SupG.val SupG.nil)))))) (SupH.cons rfl (supJ sup_rW) SupH.nil) (lkOk rfl)
    ·
      intro m hm
      refine C_seq ?_
      refine C_reg ?_
      refine R1 d_move rfl ?_
      refine R1 d_move rfl ?_
      refine R2 (d_rem (r := ((m % 65536 : Nat) : Int)) (by decide) (wrem64 (b := 65536))) rfl rfl ?_
      refine R1 (d_convert Tryz.underlying122 (isS Tryz.underlying3) (wu16 (by omega) (by omega))) rfl ?_
      refine R1 (d_nums (n := 1) [m % 65536] Tryz.underlying46 el122 zf122 rfl rfl rfl) rfl ?_
      refine RE (d_appendO (k := 5) (k' := 39) (ts' := rW .u16 (cs ++ [m % 65536])) Tryz.underlying46 el122 zf122 rfl rfl (fun _ => inferInstance) rW_len (by simp; omega) (by simp; omega) (by simp [rW]) (n' := cs.length + 1) rfl) ⟨rfl, rfl, trivial⟩ ⟨rfl, trivial⟩ ⟨rfl, trivial⟩ ?_
      refine R1 d_assign rfl ?_
      refine R_nil (by kernel_rfl) ?_
      refine K_then ?_
      refine C_reg ?_
      refine R1 d_move rfl ?_
      refine R2 (d_quo (r := ((m / 65536 : Nat) : Int)) (by decide) (iquo64 (b := 65536) (by omega))) rfl rfl ?_
      refine R2 (d_sub (r := ((1 - m / 65536 : Nat) : Int)) (by rw [wr64 (by omega) (by omega)]; omega)) rfl rfl ?_
      refine R1 d_assign rfl ?_
      refine R_nil (by kernel_rfl) ?_
      refine K_norB ?_
      refine K_then ?_
      refine C_reg ?_
      refine R1 d_move rfl ?_
      refine R2 (d_add (by first | exact wr64 (by omega) (by omega))) rfl rfl ?_
      refine R1 d_assign rfl ?_
      refine R_nil (by kernel_rfl) ?_
      obtain ⟨n1, n2, n3⟩ := rminus_in hl hv hbr hm
      exact K_famR (l := [5]) (fun j => cond (Nat.beq j 5) 39 (j)) ((i + 1, 1 - m / 65536, cs ++ [m % 65536])) ⟨(by dsimp only; exact ⟨by omega, by rw [List.length_append, hl]; rfl, hD.append (Dig.cons (Nat.mod_lt _ (by decide)) (Dig.nil _)), n1, n3⟩), (by dsimp only; omega)⟩ (SubR.int rfl (by first | omega | rfl | (dsimp only; omega)) (SubR.int rfl (by first | omega | rfl | (dsimp only; omega)) ((SubR.consI rfl (Imp.of (by dsimp only; rw [List.length_append]; rfl))) (SubR.cons rfl (SubR.cons rfl SubR.nil))))) ((SubKR.consI rfl (ImpK.of ren_rW.symm)) SubKR.nil) (SupG.val (SupG.val (SupG.own rfl (SupG.val (SupG.val SupG.nil))))) (SupH.cons rfl (supJ sup_rW) SupH.nil) (lkOk rfl) rfl rfl (fun _ h => by cases h)
  ·
    refine C_exit ?_
    refine K_exT ?_
    refine K_exT ?_
    refine K_exB ?_
    refine K_then ?_
    refine C_seq ?_
    refine C_reg ?_
    refine RE (d_moveS (f := fun n : Nat => tE (.int .u16 n)) (xs := cs) (fun _ h => h) (rW_all rfl) rfl) ⟨rfl, trivial⟩ ⟨rfl, trivial⟩ trivial ?_
    refine R1 (d_call (c_RTrim _) fi185 rfl) rfl ?_
    refine R1 d_assign rfl ?_
    refine R_nil (by kernel_rfl) ?_
    refine K_then ?_
    refine C_ret ?_
    exact E_ret1 Plain.mk' rfl rfl (Le.of (congrArg tLm (by rw [show i = (dig 65536 a).length by omega] at hv hl; exact rminus_end hl hD (lt_len two_le_L a) hab hv)))
theorem c_RHalf (a : Nat) (ha : (dig 65536 a).length ≤ 200000) :
    Ct Tryz.prog 161 [tM a] (tM (a / 2)) := by
  refine Ct.intro Tryz.func161 rfl Tryz.ntmps161 rfl ?_
  intro w F
  refine C_seq ?_
  refine C_reg ?_
  refine R1 d_assign rfl ?_
  refine R_nil (by kernel_rfl) ?_
  refine K_then ?_
  refine C_seq ?_
  refine C_reg ?_
  refine R1 d_move rfl ?_
  refine R1 (d_len Tryz.underlying46) rfl ?_
  refine RE (d_makeO (k := 8) (t := tE (.int .u16 0)) (ts := rW .u16 (List.replicate ((dig 65536 a).length) 0)) ((dig 65536 a).length) ((dig 65536 a).length) Tryz.underlying46 el122 (fun _ _ => rfl) rfl (by omega) (by omega) (Nat.le_refl _) (by omega) (by omega) (rW_rep _)) ⟨rfl, rfl, trivial⟩ trivial ⟨rfl, trivial⟩ ?_
  refine R1 d_assign rfl ?_
  refine R_nil (by kernel_rfl) ?_
  refine K_then ?_
  refine C_seq ?_
  refine C_reg ?_
  refine R1 d_assign rfl ?_
  refine R_nil (by kernel_rfl) ?_
  refine K_then ?_
  refine C_seq ?_
  refine C_seq ?_
  refine C_reg ?_
  refine R1 d_move rfl ?_
  refine R1 (d_len Tryz.underlying46) rfl ?_
  refine R2 (d_sub (by first | exact wr64 (by omega) (by omega))) rfl rfl ?_
  refine R1 d_assign rfl ?_
  refine R_nil (by kernel_rfl) ?_
  refine K_then ?_
  refine C_block ?_
  refine C_loop (fun (fm : (Nat) × (Nat) × (List Nat)) => (fun (k : Nat) (n : Nat) (qs : List Nat) => k ≤ (dig 65536 a).length ∧ qs.length = (dig 65536 a).length ∧ Dig 65536 qs ∧ n % 2 = a / 65536 ^ k % 2 ∧ val 65536 (qs.drop k) = a / 65536 ^ k / 2) fm.1 fm.2.1 fm.2.2) (fun (fm : (Nat) × (Nat) × (List Nat)) => (fun (k : Nat) (n : Nat) (qs : List Nat) => upd (upd (upd (upd (fun _ => none) 0 (some (.val (tM a)))) 3 (some (.own (.sl 8 1 0 (dig 65536 a).length)))) 4 (some (.val (tI n)))) 5 (some (.val (tI ((k : Int) - 1))))) fm.1 fm.2.1 fm.2.2) (fun (fm : (Nat) × (Nat) × (List Nat)) => (fun (k : Nat) (n : Nat) (qs : List Nat) => upd (fun _ => none) 8 (some (⟨122, 1, false, rW .u16 qs⟩))) fm.1 fm.2.1 fm.2.2) (nm [8]) (fun (fm : (Nat) × (Nat) × (List Nat)) => (fun (k : Nat) (n : Nat) (qs : List Nat) => k) fm.1 fm.2.1 fm.2.2) (((dig 65536 a).length, 0, List.replicate (dig 65536 a).length 0)) (by dsimp only; exact ⟨Nat.le_refl _, by simp, Dig.rep (by decide) _, by rw [Nat.div_eq_of_lt (lt_len two_le_L a)], by rw [Nat.div_eq_of_lt (lt_len two_le_L a), Nat.zero_div, List.drop_replicate, val_replicate_zero]⟩) (Sub.int rfl (by first | omega | rfl | (dsimp only; omega)) (Sub.int rfl (by first | omega | rfl | (dsimp only; omega)) (Sub.cons rfl (Sub.cons rfl Sub.nil)))) ((SubK.consI rfl ImpK.refl) SubK.nil) (SupG.val (SupG.val (SupG.own rfl (SupG.val SupG.nil)))) (SupH.cons rfl (supJ sup_rW) SupH.nil) (lkOk rfl) ?_
  intro fm hI
  obtain ⟨k, n, qs⟩ := fm
  replace hI : k ≤ (dig 65536 a).length ∧ qs.length = (dig 65536 a).length ∧ Dig 65536 qs ∧ n % 2 = a / 65536 ^ k % 2 ∧ val 65536 (qs.drop k) = a / 65536 ^ k / 2 := hI
  show wc _ _ _ _ (upd (upd (upd (upd (fun _ => none) 0 (some (.val (tM a)))) 3 (some (.own (.sl 8 1 0 (dig 65536 a).length)))) 4 (some (.val (tI n)))) 5 (some (.val (tI ((k : Int) - 1))))) (upd (fun _ => none) 8 (some (⟨122, 1, false, rW .u16 qs⟩))) _
  obtain ⟨hk, hl, hD, hn, hv⟩ := hI
  refine C_seq ?_
  refine C_seq ?_
  refine C_reg ?_
  refine R1 d_move rfl ?_
  refine R2 d_geq rfl rfl ?_
  refine R_nil (by kernel_rfl) ?_
  refine K_then ?_
  refine C_if rfl (fun h82 => ?_) (fun h82 => ?_)
  ·
    obtain ⟨j, rfl⟩ : ∃ j, k = j + 1 := ⟨k - 1, by omega⟩
    have hx := dig_getD two_le_L a j
    have hx1 := (dig_Dig two_le_L a).getD (by decide) j
    obtain ⟨n1, n2, n3, n4, n5⟩ := half_in (k := j) (by omega) hl hD hn hv rfl
    rw [← hx] at n1 n2 n3 n4 n5
    refine C_skip ?_
    refine K_then ?_
    refine C_seq ?_
    refine C_block ?_
    refine C_seq ?_
    refine C_reg ?_
    refine R1 d_move rfl ?_
    refine R2 (d_rem (r := ((n % 2 : Nat) : Int)) (by decide) (wrem64 (b := 2))) rfl rfl ?_
    refine R2 (d_mul (r := ((n % 2 * 65536 : Nat) : Int)) (by rw [wr64 (by omega) (by omega)]; omega)) rfl rfl ?_
    refine R1 d_move rfl ?_
    refine R1 d_move rfl ?_
    refine R2 (d_indexP sl46 (j) (by omega) (gN (by omega))) rfl rfl ?_
    refine R1 (d_loadP ti122) rfl ?_
    refine R1 (d_convert Tryz.underlying3 (isS Tryz.underlying122) (by first | exact wr64 (by omega) (by omega))) rfl ?_
    refine R2 (d_add (r := (((n % 2 * 65536 + (dig 65536 a).getD j 0) : Nat) : Int)) (by rw [wr64 (by omega) (by omega)]; omega)) rfl rfl ?_
    refine R1 d_assign rfl ?_
    refine R_nil (by kernel_rfl) ?_
    refine K_then ?_
    refine C_reg ?_
    refine R1 d_move rfl ?_
    refine R1 d_move rfl ?_
    refine R1 d_move rfl ?_
    refine R2 (d_quo (r := (((n % 2 * 65536 + (dig 65536 a).getD j 0) / 2 : Nat) : Int)) (by decide) (iquo64 (b := 2) (by omega))) rfl rfl ?_
    refine R1 (d_convert Tryz.underlying122 (isS Tryz.underlying3) (wu16 (by omega) (by omega))) rfl ?_
    refine R2 (d_indexO sl46 (by omega) (by omega) rfl) rfl rfl ?_
    refine RE (d_store (j) ti122 (rW_lt (by omega)) (by omega) (rW_set (m := _) rfl)) ⟨rfl, rfl, trivial⟩ ⟨rfl, trivial⟩ trivial ?_
    refine R_nil (by kernel_rfl) ?_
    refine K_norB ?_
    refine K_then ?_
    refine C_reg ?_
    refine R1 d_move rfl ?_
    refine R2 (d_sub (by first | exact wr64 (by omega) (by omega))) rfl rfl ?_
    refine R1 d_assign rfl ?_
    refine R_nil (by kernel_rfl) ?_
    exact K_fam ((j, (n % 2 * 65536 + (dig 65536 a).getD j 0), qs.set j ((n % 2 * 65536 + (dig 65536 a).getD j 0) / 2))) ⟨(by dsimp only; exact ⟨by omega, n1, n2, n3, n4⟩), (by dsimp only; omega)⟩ (Sub.int rfl (by first | omega | rfl | (dsimp only; omega)) (Sub.int rfl (by first | omega | rfl | (dsimp only; omega)) (Sub.cons rfl (Sub.cons rfl Sub.nil)))) ((SubK.consI rfl ImpK.refl) SubK.nil) (SupG.val (SupG.val (SupG.own rfl (SupG.val SupG.nil)))) (SupH.cons rfl (supJ sup_rW) SupH.nil) (lkOk rfl)
  ·
    have hk0 : k = 0 := by omega
    subst hk0
    rw [List.drop_zero, Nat.pow_zero, Nat.div_one] at hv
    refine C_exit ?_
    refine K_exT ?_
    refine K_exT ?_
    refine K_exB ?_
    refine K_then ?_
    refine C_seq ?_
    refine C_reg ?_
    refine RE (d_moveS (f := fun n : Nat => tE (.int .u16 n)) (xs := qs) (fun _ h => h) (rW_all hl) hl) ⟨rfl, trivial⟩ ⟨rfl, trivial⟩ trivial ?_
    refine R1 (d_call (c_RTrim _) fi185 rfl) rfl ?_
    refine R1 d_assign rfl ?_
    refine R_nil (by kernel_rfl) ?_
    refine K_then ?_
    refine C_ret ?_
    exact E_ret1 Plain.mk' rfl rfl (Le.of (congrArg tLm (by rw [trimL_eq_dig two_le_L hD, hv])))
theorem c_RFromInt (n : Int) (h1 : -9223372036854775808 ≤ n) (h2 : n ≤ 9223372036854775807) :
    Ct Tryz.prog 74 [tI n] (tWh (wh n)) := by
  refine Ct.intro Tryz.func74 rfl Tryz.ntmps74 rfl ?_
  intro w F
  refine C_seq ?_
  refine C_reg ?_
  refine RE (d_alloc (k := 2) (n := 2) (agg := true) zr48.1 zr48.2 rfl) trivial trivial ⟨rfl, trivial⟩ ?_
  refine R_nil (by kernel_rfl) ?_
  refine K_then ?_
  refine C_seq ?_
  refine C_reg ?_
  refine R1 d_move rfl ?_
  refine R1 (d_convert Tryz.underlying121 (isS Tryz.underlying3) toU64) rfl ?_
  refine R1 d_assign rfl ?_
  refine R_nil (by kernel_rfl) ?_
  refine K_then ?_
  refine C_join (fun (v : Nat) => v = n.natAbs) (fun (v : Nat) => upd (upd (upd (fun _ => none) 0 (some (.val (tI n)))) 2 (some (.own (.ptr 2 0)))) 3 (some (.val (tE (.int .u64 ((v : Nat) : Int)))))) (fun (v : Nat) => upd (fun _ => none) 2 (some (⟨48, 2, true, [.val (tWh ⟨false, []⟩)]⟩))) (nm [2]) ?_ ?_
  ·
    refine C_seq ?_
    refine C_reg ?_
    refine R1 d_move rfl ?_
    refine R2 d_lss rfl rfl ?_
    refine R_nil (by kernel_rfl) ?_
    refine K_then ?_
    refine C_if rfl (fun h164 => ?_) (fun h164 => ?_)
    ·
      refine C_reg ?_
      refine R1 d_move rfl ?_
      refine R1 (d_neg (negU64 (by omega))) rfl ?_
      refine R1 d_assign rfl ?_
      refine R_nil (by kernel_rfl) ?_
      exact K_fam ((18446744073709551616 - (n % 18446744073709551616).toNat) % 18446744073709551616) (by omega) (Sub.int rfl (by first | omega | rfl | (dsimp only; omega)) (Sub.cons rfl (Sub.int rfl (by first | omega | rfl | (dsimp only; omega)) Sub.nil))) ((SubK.consI rfl ImpK.refl) SubK.nil) (SupG.val (SupG.own rfl (SupG.val SupG.nil))) (SupH.cons rfl (supJL rfl) SupH.nil) (lkOk rfl)
    ·
      refine C_skip ?_
      exact K_fam ((n % 18446744073709551616).toNat) (by omega) (Sub.int rfl (by first | omega | rfl | (dsimp only; omega)) (Sub.cons rfl (Sub.int rfl (by first | omega | rfl | (dsimp only; omega)) Sub.nil))) ((SubK.consI rfl ImpK.refl) SubK.nil) (SupG.val (SupG.own rfl (SupG.val SupG.nil))) (SupH.cons rfl (supJL rfl) SupH.nil) (lkOk rfl)
  ·
    intro v hv
    have hvl := wh_len v (by omega)
    refine C_seq ?_
    refine C_reg ?_
    refine RE (d_assignN (k := 4) 122 1 false rfl (fun _ => rfl)) trivial trivial ⟨rfl, trivial⟩ ?_
    refine R_nil (by kernel_rfl) ?_
    refine K_then ?_
    refine C_seq ?_
    refine C_block ?_
    refine C_loop (fun (fm : (Nat) × (Nat) × (List Nat)) => (fun (i : Nat) (u : Nat) (cs : List Nat) => i ≤ (dig 65536 v).length ∧ u = v / 65536 ^ i ∧ cs = dgs 65536 i v ∧ u < 18446744073709551616) fm.1 fm.2.1 fm.2.2) (fun (fm : (Nat) × (Nat) × (List Nat)) => (fun (i : Nat) (u : Nat) (cs : List Nat) => upd (upd (upd (upd (fun _ => none) 0 (some (.val (tI n)))) 2 (some (.own (.ptr 2 0)))) 3 (some (.val (tE (.int .u64 ((u : Nat) : Int)))))) 4 (some (.own (.sl 4 1 0 cs.length)))) fm.1 fm.2.1 fm.2.2) (fun (fm : (Nat) × (Nat) × (List Nat)) => (fun (i : Nat) (u : Nat) (cs : List Nat) => upd (upd (fun _ => none) 2 (some (⟨48, 2, true, [.val (tWh ⟨false, []⟩)]⟩))) 4 (some (⟨122, 1, false, rW .u16 cs⟩))) fm.1 fm.2.1 fm.2.2) (nm [2, 4]) (fun (fm : (Nat) × (Nat) × (List Nat)) => (fun (i : Nat) (u : Nat) (cs : List Nat) => u) fm.1 fm.2.1 fm.2.2) ((0, v, [])) (by dsimp only; exact ⟨Nat.zero_le _, by simp, rfl, by omega⟩) (Sub.cons rfl (Sub.int rfl (by first | omega | rfl | (dsimp only; omega)) (Sub.cons rfl (Sub.int rfl (by first | omega | rfl | (dsimp only; omega)) Sub.nil)))) ((SubK.consI rfl ImpK.refl) ((SubK.consI rfl ImpK.refl) SubK.nil)) (SupG.own rfl (SupG.val (SupG.own rfl (SupG.val SupG.nil)))) (SupH.cons rfl (supJ sup_rW) (SupH.cons rfl (supJL rfl) SupH.nil)) (lkOk rfl) ?_
    intro fm hI
    obtain ⟨i, u, cs⟩ := fm
    replace hI : i ≤ (dig 65536 v).length ∧ u = v / 65536 ^ i ∧ cs = dgs 65536 i v ∧ u < 18446744073709551616 := hI
    show wc _ _ _ _ (upd (upd (upd (upd (fun _ => none) 0 (some (.val (tI n)))) 2 (some (.own (.ptr 2 0)))) 3 (some (.val (tE (.int .u64 ((u : Nat) : Int)))))) 4 (some (.own (.sl 4 1 0 cs.length)))) (upd (upd (fun _ => none) 2 (some (⟨48, 2, true, [.val (tWh ⟨false, []⟩)]⟩))) 4 (some (⟨122, 1, false, rW .u16 cs⟩))) _
    obtain ⟨hi, hu, hcs, hu64⟩ := hI
    have hcl : cs.length = i := by rw [hcs, dgs_length]
    refine C_seq ?_
    refine C_seq ?_
    refine C_reg ?_
    refine R1 d_move rfl ?_
    refine R2 d_gtr rfl rfl ?_
    refine R_nil (by kernel_rfl) ?_
    refine K_then ?_
    refine C_if rfl (fun h168 => ?_) (fun h168 => ?_)
    ·
      refine C_skip ?_
      refine K_then ?_
      refine C_block ?_
      refine C_seq ?_
      refine C_reg ?_
      refine R1 d_move rfl ?_
      refine R1 d_move rfl ?_
      refine R2 (d_rem (r := ((u % 65536 : Nat) : Int)) (by decide) (wrem64 (b := 65536))) rfl rfl ?_
      refine R1 (d_convert Tryz.underlying122 (isS Tryz.underlying121) (wu16 (by omega) (by omega))) rfl ?_
      refine R1 (d_nums (n := 1) [u % 65536] Tryz.underlying46 el122 zf122 rfl rfl rfl) rfl ?_
      refine RE (d_appendO (k := 4) (k' := 18) (ts' := rW .u16 (cs ++ [u % 65536])) Tryz.underlying46 el122 zf122 rfl rfl (fun _ => inferInstance) rW_len (by simp; omega) (by simp; omega) (by simp [rW]) (n' := cs.length + 1) rfl) ⟨rfl, rfl, trivial⟩ ⟨rfl, trivial⟩ ⟨rfl, trivial⟩ ?_
      refine R1 d_assign rfl ?_
      refine R_nil (by kernel_rfl) ?_
      refine K_then ?_
      refine C_reg ?_
      refine R1 d_move rfl ?_
      refine R2 (d_quo (r := ((u / 65536 : Nat) : Int)) (by decide) (wquo64 (b := 65536) (by omega))) rfl rfl ?_
      refine R1 d_assign rfl ?_
      refine R_nil (by kernel_rfl) ?_
      refine K_norB ?_
      obtain ⟨n1, n2, n3⟩ := from_more hu (by omega)
      exact K_famR (l := [2, 4]) (fun j => cond (Nat.beq j 4) 18 (j)) ((i + 1, u / 65536, cs ++ [u % 65536])) ⟨(by dsimp only; exact ⟨n1, n2, by rw [hcs]; exact n3, by omega⟩), (by dsimp only; omega)⟩ ((SubR.consI rfl (Imp.of (by dsimp only; rw [List.length_append]; rfl))) (SubR.int rfl (by first | omega | rfl | (dsimp only; omega)) (SubR.cons rfl (SubR.int rfl (by first | omega | rfl | (dsimp only; omega)) SubR.nil)))) ((SubKR.consI rfl (ImpK.of ren_rW.symm)) ((SubKR.consI rfl ImpK.refl) SubKR.nil)) (SupG.own rfl (SupG.val (SupG.own rfl (SupG.val SupG.nil)))) (SupH.cons rfl (supJ sup_rW) (SupH.cons rfl (supJL rfl) SupH.nil)) (lkOk rfl) rfl rfl (fun _ h => by cases h)
    ·
      refine C_exit ?_
      refine K_exT ?_
      refine K_exT ?_
      refine K_exB ?_
      refine K_then ?_
      refine C_seq ?_
      refine C_reg ?_
      refine R1 d_move rfl ?_
      refine R2 d_lss rfl rfl ?_
      have hfin : cs = dig 65536 v := by rw [hcs]; exact from_end (by rw [← hu]; omega) hi
      subst hfin
      refine RE (d_moveS (f := fun n : Nat => tE (.int .u16 n)) (xs := (dig 65536 v)) (fun _ h => h) (rW_all rfl) rfl) ⟨rfl, trivial⟩ ⟨rfl, trivial⟩ trivial ?_
      refine R2 (d_call (c_RMake _ v) fi110 rfl) rfl rfl ?_
      refine RE (d_store (es := 2) (agg := true) (0) ti48 rfl rfl rfl) ⟨rfl, rfl, trivial⟩ ⟨rfl, trivial⟩ trivial ?_
      refine R_nil (by kernel_rfl) ?_
      refine K_then ?_
      refine C_ret ?_
      exact E_retC Plain.mk' rfl ⟨_, _, _, _, _, rfl, rfl, ti48, (Le.of (by rw [wh_sgn, hv, wh]; congr 2; by_cases h : n < 0 <;> simp [h]; omega))⟩
end An.S

/- The references: quotients, divisors, quick fractions. -/
namespace An.S
open Go Go.Proofs An
set_option maxHeartbeats 2000000
theorem fi111 : FnI Tryz.prog 111 := ⟨_, Tryz.func111, by kernel_rfl, rfl⟩
theorem fi130 : FnI Tryz.prog 130 := ⟨_, Tryz.func130, by kernel_rfl, rfl⟩
theorem fi131 : FnI Tryz.prog 131 := ⟨_, Tryz.func131, by kernel_rfl, rfl⟩
theorem fi159 : FnI Tryz.prog 159 := ⟨_, Tryz.func159, by kernel_rfl, rfl⟩
theorem fi160 : FnI Tryz.prog 160 := ⟨_, Tryz.func160, by kernel_rfl, rfl⟩
theorem fi161 : FnI Tryz.prog 161 := ⟨_, Tryz.func161, by kernel_rfl, rfl⟩
theorem c_RPlusOne (q : Nat) (h : (dig 65536 q).length ≤ 100000) : Ct Tryz.prog 130 [tM q, tLm [1]] (tM (q + 1)) := by
  have e : dig 65536 1 = [1] := by rw [dig_pos two_le_L (by decide), show (1 : Nat) / 65536 = 0 by decide, dig_zero]
  have := c_RPlus q 1 h (by rw [e]; decide)
  rw [tM, tM, e] at this; exact this
theorem lenM {a b k : Nat} (h : a ≤ b) (hb : (dig 65536 b).length ≤ k) : (dig 65536 a).length ≤ k := Nat.le_trans (dig_len_mono two_le_L h) hb
theorem one_dec {l : List Nat} (h : l.length = 1) : decide (((l.getD 0 0 : Nat) : Int) = 1) = decide (l = [1]) := by
  obtain ⟨a, rfl⟩ := List.length_eq_one_iff.1 h
  simp
  omega
theorem low_sgn {n d : Int} (hd : d ≠ 0) : fr (Rat.divInt n d) = ⟨wh (sgn (!((wh n).neg == (wh d).neg)) (n.natAbs / Nat.gcd n.natAbs d.natAbs)), wh (sgn false (d.natAbs / Nat.gcd n.natAbs d.natAbs))⟩ := by
  have key : ∀ (n d : Int), 0 < d → fr (Rat.divInt n d) = ⟨wh (sgn (decide (n < 0)) (n.natAbs / Nat.gcd n.natAbs d.natAbs)), wh (sgn false (d.natAbs / Nat.gcd n.natAbs d.natAbs))⟩ := fun n d h => by
    rw [lowest_eq h]
    have hg : (Int.gcd n d : Nat) = Nat.gcd n.natAbs d.natAbs := rfl
    rw [hg]
    have hdn : Nat.gcd n.natAbs d.natAbs ∣ n.natAbs := Nat.gcd_dvd_left _ _
    have hdd : Nat.gcd n.natAbs d.natAbs ∣ d.natAbs := Nat.gcd_dvd_right _ _
    generalize Nat.gcd n.natAbs d.natAbs = g at *
    have e2 : d / (g : Int) = sgn false (d.natAbs / g) := by
      show _ = ((d.natAbs / g : Nat) : Int)
      rw [Int.natCast_ediv]; congr 1; omega
    have e1 : n / (g : Int) = sgn (decide (n < 0)) (n.natAbs / g) := by
      by_cases hn : n < 0
      · rw [decide_eq_true hn]
        show _ = -((n.natAbs / g : Nat) : Int)
        have : n = -(n.natAbs : Int) := by omega
        conv => lhs; rw [this]
        rw [Int.neg_ediv_of_dvd (Int.natCast_dvd_natCast.2 hdn), Int.natCast_ediv]
      · rw [decide_eq_false hn]
        show _ = ((n.natAbs / g : Nat) : Int)
        rw [Int.natCast_ediv]; congr 1; omega
    rw [e1, e2]
  rcases Int.lt_or_gt_of_ne hd with h | h
  · have e : Rat.divInt n d = Rat.divInt (-n) (-d) := (Rat.neg_divInt_neg n d).symm
    rw [e, key (-n) (-d) (by omega), Int.natAbs_neg, Int.natAbs_neg]
    have e3 : (wh d).neg = true := decide_eq_true h
    have e4 : (wh n).neg = decide (n < 0) := rfl
    rw [e3, e4]
    by_cases h0 : n = 0
    · subst h0; simp [sgn]
    · have : decide (-n < 0) = !(decide (n < 0) == true) := by
        by_cases hn : n < 0
        · simp [hn]; omega
        · simp [hn]; omega
      rw [this]
  · rw [key n d h]
    have e3 : (wh d).neg = false := decide_eq_false (by omega)
    have e4 : (wh n).neg = decide (n < 0) := rfl
    rw [e3, e4]; simp
theorem c_RDivided (a b : Nat) (hb : 0 < b) (ha : (dig 65536 a).length ≤ 4000) (hbl : (dig 65536 b).length ≤ 4000) :
    Ct Tryz.prog 111 [tM a, tM b] (tT [tM (a / b), tM (a % b)]) := by
  refine Ct.intro Tryz.func111 rfl Tryz.ntmps111 rfl ?_
  intro w F
  refine C_seq ?_
  refine C_reg ?_
  refine R1 d_assign rfl ?_
  refine R1 d_assign rfl ?_
  refine R_nil (by kernel_rfl) ?_
  refine K_then ?_
  refine C_seq ?_
  refine C_seq ?_
  refine C_reg ?_
  refine R1 d_move rfl ?_
  refine R1 (d_len Tryz.underlying46) rfl ?_
  refine R2 d_eql rfl rfl ?_
  refine R_nil (by kernel_rfl) ?_
  refine K_then ?_
  refine C_if rfl (fun h103 => ?_) (fun h103 => ?_)
  ·
    have hb0 := one_limb (b := b) (by omega)
    have hbW := (dig_Dig two_le_L b).getD (by decide) 0
    refine C_seq ?_
    refine C_reg ?_
    refine R1 d_move rfl ?_
    refine R1 d_move rfl ?_
    refine R2 (d_indexP sl46 (0) (by omega) (gN (by omega))) rfl rfl ?_
    refine R1 (d_loadP ti122) rfl ?_
    refine R1 (d_convert Tryz.underlying3 (isS Tryz.underlying122) (by first | exact wr64 (by omega) (by omega))) rfl ?_
    refine R2 (d_call (c_RShort a _ (by omega) (by omega) (by omega)) fi159 rfl) rfl rfl ?_
    refine R1 (d_extract rfl) rfl ?_
    refine R1 (d_extract rfl) rfl ?_
    refine R1 d_assign rfl ?_
    refine R1 d_assign rfl ?_
    refine R_nil (by kernel_rfl) ?_
    refine K_then ?_
    refine C_ret ?_
    refine K_retT ?_
    exact E_ret2 Plain.mk' rfl rfl rfl (Le.of (by rw [hb0])) (Le.of (by rw [hb0]))
  ·
    refine C_skip ?_
    refine K_then ?_
    refine C_seq ?_
    refine C_reg ?_
    refine R1 d_assign rfl ?_
    refine R_nil (by kernel_rfl) ?_
    refine K_then ?_
    refine C_seq ?_
    refine C_seq ?_
    refine C_reg ?_
    refine R1 d_move rfl ?_
    refine R1 d_assign rfl ?_
    refine R_nil (by kernel_rfl) ?_
    refine K_then ?_
    refine C_block ?_
    refine C_loop (fun (n : Nat) => n = 0 ∨ b * 2 ^ n ≤ a + a) (fun (n : Nat) => upd (upd (upd (upd (fun _ => none) 0 (some (.val (tM a)))) 1 (some (.val (tM b)))) 6 (some (.val (tI n)))) 7 (some (.val (tM (b * 2 ^ n))))) (fun (n : Nat) => fun _ => none) (nm []) (fun (n : Nat) => a + 1 - b * 2 ^ n) (0) (.inl rfl) (Sub.le rfl (Le.of (by first | rw [Nat.pow_zero, Nat.mul_one] | (dsimp only; rw [Nat.pow_zero, Nat.mul_one]))) (Sub.int rfl (by first | omega | rfl | (dsimp only; omega)) (Sub.cons rfl (Sub.cons rfl Sub.nil)))) SubK.nil (SupG.val (SupG.val (SupG.val (SupG.val SupG.nil)))) SupH.nil (lkOk rfl) ?_
    intro n hI
    have hn : n < 16 * 4001 := by
      rcases hI with h | h
      · omega
      · refine bits_le (a := a + a) ?_ (by have := len_dbl ha ha; omega)
        exact Nat.le_trans (Nat.le_mul_of_pos_left _ hb) h
    refine C_seq ?_
    refine C_seq ?_
    refine C_reg ?_
    refine R1 d_move rfl ?_
    refine R1 d_move rfl ?_
    refine R2 (d_call (c_RLess a (b * 2 ^ n)) fi160 rfl) rfl rfl ?_
    refine R1 d_not rfl ?_
    refine R_nil (by kernel_rfl) ?_
    refine K_then ?_
    refine C_cond rfl (fun h107 => ?_) (fun h107 => ?_)
    ·
      have hle : b * 2 ^ n ≤ a := by
        have h := h107
        simp at h; exact h
      have hnl := lenM hle ha
      refine C_skip ?_
      refine K_then ?_
      refine C_seq ?_
      refine C_block ?_
      refine C_reg ?_
      refine R1 d_move rfl ?_
      refine R1 d_move rfl ?_
      refine R2 (d_call (c_RPlus (b * 2 ^ n) (b * 2 ^ n) (by omega) (by omega)) fi130 rfl) rfl rfl ?_
      refine R1 d_assign rfl ?_
      refine R_nil (by kernel_rfl) ?_
      refine K_norB ?_
      refine K_then ?_
      refine C_reg ?_
      refine R1 d_move rfl ?_
      refine R2 (d_add (by first | exact wr64 (by omega) (by omega))) rfl rfl ?_
      refine R1 d_assign rfl ?_
      refine R_nil (by kernel_rfl) ?_
      have he : b * 2 ^ n + b * 2 ^ n = b * 2 ^ (n + 1) := by rw [Nat.pow_succ, ← Nat.mul_assoc, Nat.mul_two]
      have hp : 0 < b * 2 ^ n := Nat.mul_pos hb (Nat.pow_pos (by decide))
      exact K_fam (n + 1) ⟨(.inr (by omega)), (by show a + 1 - b * 2 ^ (n + 1) < a + 1 - b * 2 ^ n; omega)⟩ (Sub.le rfl (Le.of (by rw [he])) (Sub.int rfl (by first | omega | rfl | (dsimp only; omega)) (Sub.cons rfl (Sub.cons rfl Sub.nil)))) SubK.nil (SupG.val (SupG.val (SupG.val (SupG.val SupG.nil)))) SupH.nil (lkOk rfl)
    ·
      have hlt : a < b * 2 ^ n := by
        have h := h107
        simp at h; exact h
      have hnl : (dig 65536 (b * 2 ^ n)).length ≤ 4001 := by
        rcases hI with h | h
        · rw [h, Nat.pow_zero, Nat.mul_one]; omega
        · exact lenM h (len_dbl ha ha)
      refine C_exit ?_
      refine K_exT ?_
      refine K_exT ?_
      refine K_exB ?_
      refine K_then ?_
      refine C_seq ?_
      refine C_reg ?_
      refine R1 d_move rfl ?_
      refine R1 d_assign rfl ?_
      refine R_nil (by kernel_rfl) ?_
      refine K_then ?_
      refine C_seq ?_
      refine C_seq ?_
      refine C_reg ?_
      refine R1 d_assign rfl ?_
      refine R_nil (by kernel_rfl) ?_
      refine K_then ?_
      refine C_block ?_
      refine C_loop (fun (i : Nat) => i ≤ n) (fun (i : Nat) => upd (upd (upd (upd (upd (fun _ => none) 0 (some (.val (tM a)))) 1 (some (.val (tM b)))) 6 (some (.val (tI n)))) 8 (some (.val (tM (b * 2 ^ i))))) 9 (some (.val (tI i)))) (fun (i : Nat) => fun _ => none) (nm []) (fun (i : Nat) => n - i) (0) (Nat.zero_le _) (Sub.int rfl (by first | omega | rfl | (dsimp only; omega)) (Sub.le rfl (Le.of (by first | rw [Nat.pow_zero, Nat.mul_one] | (dsimp only; rw [Nat.pow_zero, Nat.mul_one]))) (Sub.int rfl (by first | omega | rfl | (dsimp only; omega)) (Sub.cons rfl (Sub.cons rfl Sub.nil))))) SubK.nil (SupG.val (SupG.val (SupG.val (SupG.val (SupG.val SupG.nil))))) SupH.nil (lkOk rfl) ?_
      intro i hJ
      refine C_seq ?_
      refine C_seq ?_
      refine C_reg ?_
      refine R1 d_move rfl ?_
      refine R1 d_move rfl ?_
      refine R2 d_lss rfl rfl ?_
      refine R_nil (by kernel_rfl) ?_
      refine K_then ?_
      refine C_if rfl (fun h111 => ?_) (fun h111 => ?_)
      ·
        have hil : (dig 65536 (b * 2 ^ i)).length ≤ 4001 := lenM (Nat.mul_le_mul_left _ (Nat.pow_le_pow_right (by decide) (by omega))) hnl
        refine C_skip ?_
        refine K_then ?_
        refine C_seq ?_
        refine C_block ?_
        refine C_reg ?_
        refine R1 d_move rfl ?_
        refine R1 d_move rfl ?_
        refine R2 (d_call (c_RPlus (b * 2 ^ i) (b * 2 ^ i) (by omega) (by omega)) fi130 rfl) rfl rfl ?_
        refine R1 d_assign rfl ?_
        refine R_nil (by kernel_rfl) ?_
        refine K_norB ?_
        refine K_then ?_
        refine C_reg ?_
        refine R1 d_move rfl ?_
        refine R2 (d_add (by first | exact wr64 (by omega) (by omega))) rfl rfl ?_
        refine R1 d_assign rfl ?_
        refine R_nil (by kernel_rfl) ?_
        have he : b * 2 ^ i + b * 2 ^ i = b * 2 ^ (i + 1) := by rw [Nat.pow_succ, ← Nat.mul_assoc, Nat.mul_two]
        exact K_fam (i + 1) ⟨(by omega), (by omega)⟩ (Sub.int rfl (by first | omega | rfl | (dsimp only; omega)) (Sub.le rfl (Le.of (by rw [he])) (Sub.int rfl (by first | omega | rfl | (dsimp only; omega)) (Sub.cons rfl (Sub.cons rfl Sub.nil))))) SubK.nil (SupG.val (SupG.val (SupG.val (SupG.val (SupG.val SupG.nil))))) SupH.nil (lkOk rfl)
      ·
        refine C_exit ?_
        refine K_exT ?_
        refine K_exT ?_
        refine K_exB ?_
        refine K_then ?_
        refine C_seq ?_
        refine C_reg ?_
        refine R1 d_assign rfl ?_
        refine R_nil (by kernel_rfl) ?_
        refine K_then ?_
        refine C_seq ?_
        refine C_reg ?_
        refine RE (d_sliceOfO (k := 43) (ents := []) Tryz.underlying46 el122 zf122 rfl (by simp) rfl rfl rfl) trivial trivial ⟨rfl, trivial⟩ ?_
        refine R1 d_move rfl ?_
        refine RE (d_appendO (k := 43) (k' := 45) (ts' := rW .u16 (dig 65536 a)) Tryz.underlying46 el122 zf122 rfl rfl (fun _ => inferInstance) rfl (by simp; omega) (by simp; omega) (by simp [rW]) (n' := (dig 65536 a).length) (by simp)) ⟨rfl, rfl, trivial⟩ ⟨rfl, trivial⟩ ⟨rfl, trivial⟩ ?_
        refine RE (d_assignS (f := fun n : Nat => tE (.int .u16 n)) (xs := dig 65536 a) (fun _ h => h) (rW_all rfl) rfl) ⟨rfl, trivial⟩ ⟨rfl, trivial⟩ trivial ?_
        refine R_nil (by kernel_rfl) ?_
        refine K_then ?_
        refine C_seq ?_
        refine C_seq ?_
        refine C_reg ?_
        refine R1 d_assign rfl ?_
        refine R_nil (by kernel_rfl) ?_
        refine K_then ?_
        refine C_block ?_
        refine C_loop (fun (fm : (Nat) × (Nat) × (Nat) × (Nat)) => (fun (j : Nat) (q : Nat) (r : Nat) (d : Nat) => j ≤ n ∧ d = b * 2 ^ (n - j) ∧ a = q * d + r ∧ r < d) fm.1 fm.2.1 fm.2.2.1 fm.2.2.2) (fun (fm : (Nat) × (Nat) × (Nat) × (Nat)) => (fun (j : Nat) (q : Nat) (r : Nat) (d : Nat) => upd (upd (upd (upd (upd (fun _ => none) 6 (some (.val (tI n)))) 8 (some (.val (tM d)))) 10 (some (.val (tM q)))) 11 (some (.val (tM r)))) 12 (some (.val (tI j)))) fm.1 fm.2.1 fm.2.2.1 fm.2.2.2) (fun (fm : (Nat) × (Nat) × (Nat) × (Nat)) => (fun (j : Nat) (q : Nat) (r : Nat) (d : Nat) => fun _ => none) fm.1 fm.2.1 fm.2.2.1 fm.2.2.2) (nm []) (fun (fm : (Nat) × (Nat) × (Nat) × (Nat)) => (fun (j : Nat) (q : Nat) (r : Nat) (d : Nat) => n - j) fm.1 fm.2.1 fm.2.2.1 fm.2.2.2) ((0, 0, a, b * 2 ^ n)) (by dsimp only; exact ⟨Nat.zero_le _, rfl, by omega, by omega⟩) (Sub.int rfl (by first | omega | rfl | (dsimp only; omega)) (Sub.cons rfl (Sub.le rfl (leNil (dig_zero _)) (Sub.le rfl (Le.of (by first | rw [show i = n by omega] | (dsimp only; rw [show i = n by omega]))) (Sub.int rfl (by first | omega | rfl | (dsimp only; omega)) Sub.nil))))) SubK.nil (SupG.val (SupG.val (SupG.val (SupG.val (SupG.val SupG.nil))))) SupH.nil (lkOk rfl) ?_
        intro fm hK
        obtain ⟨j, q, r, d⟩ := fm
        replace hK : j ≤ n ∧ d = b * 2 ^ (n - j) ∧ a = q * d + r ∧ r < d := hK
        show wc _ _ _ _ (upd (upd (upd (upd (upd (fun _ => none) 6 (some (.val (tI n)))) 8 (some (.val (tM d)))) 10 (some (.val (tM q)))) 11 (some (.val (tM r)))) 12 (some (.val (tI j)))) (fun _ => none) _
        obtain ⟨hj, hd, hq, hr⟩ := hK
        have hqa : q ≤ a := by
          have h1 : q * 1 ≤ q * d := Nat.mul_le_mul_left _ (by omega)
          omega
        have hql := lenM hqa ha
        have hdn : b * 2 ^ (n - j) ≤ b * 2 ^ n := Nat.mul_le_mul_left _ (Nat.pow_le_pow_right (by decide) (by omega))
        have hdl : (dig 65536 d).length ≤ 4001 := by rw [← hd] at hdn; exact lenM hdn hnl
        have hqq := len_dbl hql hql
        refine C_seq ?_
        refine C_seq ?_
        refine C_reg ?_
        refine R1 d_move rfl ?_
        refine R1 d_move rfl ?_
        refine R2 d_lss rfl rfl ?_
        refine R_nil (by kernel_rfl) ?_
        refine K_then ?_
        refine C_if rfl (fun h116 => ?_) (fun h116 => ?_)
        ·
          refine C_skip ?_
          refine K_then ?_
          refine C_seq ?_
          refine C_block ?_
          refine C_seq ?_
          refine C_reg ?_
          refine R1 d_move rfl ?_
          refine R1 (d_call (c_RHalf d (by omega)) fi161 rfl) rfl ?_
          refine R1 d_assign rfl ?_
          refine R_nil (by kernel_rfl) ?_
          refine K_then ?_
          refine C_seq ?_
          refine C_reg ?_
          refine R1 d_move rfl ?_
          refine R1 d_move rfl ?_
          refine R2 (d_call (c_RPlus q q (by omega) (by omega)) fi130 rfl) rfl rfl ?_
          refine R1 d_assign rfl ?_
          refine R_nil (by kernel_rfl) ?_
          refine K_then ?_
          refine C_seq ?_
          refine C_reg ?_
          refine R1 d_move rfl ?_
          refine R1 d_move rfl ?_
          refine R2 (d_call (c_RLess r (d / 2)) fi160 rfl) rfl rfl ?_
          refine R1 d_not rfl ?_
          refine R_nil (by kernel_rfl) ?_
          refine K_then ?_
          refine C_cond rfl (fun h119 => ?_) (fun h119 => ?_)
          ·
            have hge : d / 2 ≤ r := by
              have h := h119
              simp at h; exact h
            refine C_seq ?_
            refine C_reg ?_
            refine R1 d_move rfl ?_
            refine R1 d_move rfl ?_
            refine R2 (d_call (c_RMinus r (d / 2) (by omega) (by have := lenM (Nat.le_of_lt hr) hdl; omega)) fi131 rfl) rfl rfl ?_
            refine R1 d_assign rfl ?_
            refine R_nil (by kernel_rfl) ?_
            refine K_then ?_
            refine C_reg ?_
            refine R1 d_move rfl ?_
            refine R1 (d_nums (n := 1) [1] Tryz.underlying46 el122 zf122 rfl rfl rfl) rfl ?_
            refine R2 (d_call (c_RPlusOne (q + q) (by omega)) fi130 rfl) rfl rfl ?_
            refine R1 d_assign rfl ?_
            refine R_nil (by kernel_rfl) ?_
            refine K_norB ?_
            refine K_then ?_
            refine C_reg ?_
            refine R1 d_move rfl ?_
            refine R2 (d_add (by first | exact wr64 (by omega) (by omega))) rfl rfl ?_
            refine R1 d_assign rfl ?_
            refine R_nil (by kernel_rfl) ?_
            obtain ⟨b1, b2, b3⟩ := div_bit (by omega) hd hq hr
            obtain ⟨b4, b5, b6⟩ := b3 (by omega)
            exact K_fam ((j + 1, q + q + 1, r - d / 2, d / 2)) ⟨(by dsimp only; exact ⟨by omega, b1, b4, b5⟩), (by dsimp only; omega)⟩ (Sub.int rfl (by first | omega | rfl | (dsimp only; omega)) (Sub.cons rfl (Sub.cons rfl (Sub.cons rfl (Sub.int rfl (by first | omega | rfl | (dsimp only; omega)) Sub.nil))))) SubK.nil (SupG.val (SupG.val (SupG.val (SupG.val (SupG.val SupG.nil))))) SupH.nil (lkOk rfl)
          ·
            have hge : r < d / 2 := by
              have h := h119
              simp at h; exact h
            refine C_skip ?_
            refine K_norB ?_
            refine K_then ?_
            refine C_reg ?_
            refine R1 d_move rfl ?_
            refine R2 (d_add (by first | exact wr64 (by omega) (by omega))) rfl rfl ?_
            refine R1 d_assign rfl ?_
            refine R_nil (by kernel_rfl) ?_
            obtain ⟨b1, b2, b3⟩ := div_bit (by omega) hd hq hr
            exact K_fam ((j + 1, q + q, r, d / 2)) ⟨(by dsimp only; exact ⟨by omega, b1, b2 (by omega), by omega⟩), (by dsimp only; omega)⟩ (Sub.int rfl (by first | omega | rfl | (dsimp only; omega)) (Sub.cons rfl (Sub.cons rfl (Sub.cons rfl (Sub.int rfl (by first | omega | rfl | (dsimp only; omega)) Sub.nil))))) SubK.nil (SupG.val (SupG.val (SupG.val (SupG.val (SupG.val SupG.nil))))) SupH.nil (lkOk rfl)
        ·
          have hdb : d = b := by rw [hd, show n - j = 0 by omega, Nat.pow_zero, Nat.mul_one]
          rw [hdb] at hq hr
          obtain ⟨e1, e2⟩ := div_done hq hr
          refine C_exit ?_
          refine K_exT ?_
          refine K_exT ?_
          refine K_exB ?_
          refine K_then ?_
          refine C_seq ?_
          refine C_reg ?_
          refine R1 d_move rfl ?_
          refine R1 d_move rfl ?_
          refine R1 d_assign rfl ?_
          refine R1 d_assign rfl ?_
          refine R_nil (by kernel_rfl) ?_
          refine K_then ?_
          refine C_ret ?_
          exact E_ret2 Plain.mk' rfl rfl rfl (Le.of (by rw [e1])) (Le.of (by rw [e2]))
theorem c_RCommon (a b : Nat) (ha : (dig 65536 a).length ≤ 4000) (hb : (dig 65536 b).length ≤ 4000) :
    Ct Tryz.prog 97 [tM a, tM b] (tM (Nat.gcd a b)) := by
  refine Ct.intro Tryz.func97 rfl Tryz.ntmps97 rfl ?_
  intro w F
  refine C_seq ?_
  refine C_reg ?_
  refine R1 d_assign rfl ?_
  refine R_nil (by kernel_rfl) ?_
  refine K_then ?_
  refine C_seq ?_
  refine C_block ?_
  refine C_loop (fun (fm : (Nat) × (Nat)) => (fun (x : Nat) (y : Nat) => Nat.gcd x y = Nat.gcd a b ∧ (dig 65536 x).length ≤ 4000 ∧ (dig 65536 y).length ≤ 4000) fm.1 fm.2) (fun (fm : (Nat) × (Nat)) => (fun (x : Nat) (y : Nat) => upd (upd (fun _ => none) 0 (some (.val (tM x)))) 1 (some (.val (tM y)))) fm.1 fm.2) (fun (fm : (Nat) × (Nat)) => (fun (x : Nat) (y : Nat) => fun _ => none) fm.1 fm.2) (nm []) (fun (fm : (Nat) × (Nat)) => (fun (x : Nat) (y : Nat) => y) fm.1 fm.2) ((a, b)) (by dsimp only; exact ⟨rfl, ha, hb⟩) (Sub.cons rfl (Sub.cons rfl Sub.nil)) SubK.nil (SupG.val (SupG.val SupG.nil)) SupH.nil (lkOk rfl) ?_
  intro fm hI
  obtain ⟨x, y⟩ := fm
  replace hI : Nat.gcd x y = Nat.gcd a b ∧ (dig 65536 x).length ≤ 4000 ∧ (dig 65536 y).length ≤ 4000 := hI
  show wc _ _ _ _ (upd (upd (fun _ => none) 0 (some (.val (tM x)))) 1 (some (.val (tM y)))) (fun _ => none) _
  obtain ⟨hg, hx, hy⟩ := hI
  refine C_seq ?_
  refine C_seq ?_
  refine C_reg ?_
  refine R1 d_move rfl ?_
  refine R1 (d_len Tryz.underlying46) rfl ?_
  refine R2 d_gtr rfl rfl ?_
  refine R_nil (by kernel_rfl) ?_
  refine K_then ?_
  refine C_if rfl (fun h261 => ?_) (fun h261 => ?_)
  ·
    have hy0 : 0 < y := by have := len_ne.1 h261; omega
    refine C_skip ?_
    refine K_then ?_
    refine C_block ?_
    refine C_seq ?_
    refine C_reg ?_
    refine R1 d_move rfl ?_
    refine R1 d_move rfl ?_
    refine R2 (d_call (c_RDivided x y hy0 hx hy) fi111 rfl) rfl rfl ?_
    refine R1 d_move rfl ?_
    refine R1 (d_extract rfl) rfl ?_
    refine R1 (d_extract rfl) rfl ?_
    refine R1 d_assign rfl ?_
    refine R1 d_assign rfl ?_
    refine R_nil (by kernel_rfl) ?_
    refine K_then ?_
    refine C_seq ?_
    refine C_reg ?_
    refine R1 d_move rfl ?_
    refine R1 d_assign rfl ?_
    refine R_nil (by kernel_rfl) ?_
    refine K_then ?_
    refine C_reg ?_
    refine R1 d_move rfl ?_
    refine R1 d_assign rfl ?_
    refine R_nil (by kernel_rfl) ?_
    refine K_norB ?_
    have hlt : x % y < y := Nat.mod_lt _ hy0
    exact K_fam ((y, x % y)) ⟨(by dsimp only; exact ⟨by rw [Nat.gcd_comm, ← Nat.gcd_rec, Nat.gcd_comm]; exact hg, hy, lenM (Nat.le_of_lt hlt) hy⟩), (by dsimp only; omega)⟩ (Sub.cons rfl (Sub.cons rfl Sub.nil)) SubK.nil (SupG.val (SupG.val SupG.nil)) SupH.nil (lkOk rfl)
  ·
    have hy0 : y = 0 := Classical.byContradiction fun h => h261 (len_ne.2 h)
    refine C_exit ?_
    refine K_exT ?_
    refine K_exT ?_
    refine K_exB ?_
    refine K_then ?_
    refine C_seq ?_
    refine C_reg ?_
    refine R1 d_move rfl ?_
    refine R1 d_assign rfl ?_
    refine R_nil (by kernel_rfl) ?_
    refine K_then ?_
    refine C_ret ?_
    exact E_ret1 Plain.mk' rfl rfl (Le.of (by rw [← hg, hy0, Nat.gcd_zero_right]))
theorem c_Rone (l : List Nat) :
    Ct Tryz.prog 96 [tLm l] (tB (decide (l = [1]))) := by
  refine Ct.intro Tryz.func96 rfl Tryz.ntmps96 rfl ?_
  intro w F
  refine C_seq ?_
  refine C_reg ?_
  refine R1 d_assign rfl ?_
  refine R_nil (by kernel_rfl) ?_
  refine K_then ?_
  refine C_seq ?_
  refine C_reg ?_
  refine R1 d_move rfl ?_
  refine R1 (d_len Tryz.underlying46) rfl ?_
  refine R2 d_eql rfl rfl ?_
  refine R1 d_move rfl ?_
  refine RGcaseD (t := 6) rfl (fun h24 => ?_) (fun h24 => ?_)
  ·
    refine RGon (decide_eq_true h24) rfl d_move rfl ⟨rfl, trivial⟩ trivial trivial ?_
    refine RGon (decide_eq_true h24) rfl (d_indexP sl46 (0) (by omega) (gN (by omega))) rfl ⟨rfl, rfl, trivial⟩ trivial trivial ?_
    refine RGon (decide_eq_true h24) rfl (d_loadP ti122) rfl ⟨rfl, trivial⟩ trivial trivial ?_
    refine RGon (decide_eq_true h24) rfl d_eql rfl ⟨rfl, rfl, trivial⟩ trivial trivial ?_
    refine R2 (d_pickT (decide_eq_true h24)) rfl rfl ?_
    refine R1 d_assign rfl ?_
    refine R_nil (by kernel_rfl) ?_
    refine K_then ?_
    refine C_ret ?_
    exact E_ret1 Plain.mk' rfl rfl (Le.bool (one_dec (by omega)))
  ·
    refine RGoff (decide_eq_false h24) rfl rfl ?_
    refine RGoff (decide_eq_false h24) rfl rfl ?_
    refine RGoff (decide_eq_false h24) rfl rfl ?_
    refine RGoff (decide_eq_false h24) rfl rfl ?_
    refine R2 (d_pickF (decide_eq_false h24)) rfl rfl ?_
    refine R1 d_assign rfl ?_
    refine R_nil (by kernel_rfl) ?_
    refine K_then ?_
    refine C_ret ?_
    exact E_ret1 Plain.mk' rfl rfl (Le.bool (decide_eq_false (fun h => h24 (by rw [h]; rfl))).symm)
end An.S

/- The reference of layer 2; small functions of the laws. -/
namespace An.S
open Go Go.Proofs An
set_option maxHeartbeats 2000000
theorem fi73 : FnI Tryz.prog 73 := ⟨_, Tryz.func73, by kernel_rfl, rfl⟩
theorem fi74 : FnI Tryz.prog 74 := ⟨_, Tryz.func74, by kernel_rfl, rfl⟩
theorem fi77 : FnI Tryz.prog 77 := ⟨_, Tryz.func77, by kernel_rfl, rfl⟩
theorem fi96 : FnI Tryz.prog 96 := ⟨_, Tryz.func96, by kernel_rfl, rfl⟩
theorem fi97 : FnI Tryz.prog 97 := ⟨_, Tryz.func97, by kernel_rfl, rfl⟩
theorem c_RLowest (n d : Int) (hn : len16 n ≤ 4000) (hd : len16 d ≤ 4000) (hd0 : d ≠ 0) :
    Ct Tryz.prog 73 [tWh (wh n), tWh (wh d)] (tFr (fr (Rat.divInt n d))) := by
  have hg0 : 0 < (Nat.gcd n.natAbs d.natAbs) := Nat.gcd_pos_of_pos_right _ (by omega)
  have hgl := lenM (Nat.le_of_dvd (by omega) (Nat.gcd_dvd_right n.natAbs d.natAbs)) hd
  refine Ct.intro Tryz.func73 rfl Tryz.ntmps73 rfl ?_
  intro w F
  refine C_seq ?_
  refine C_reg ?_
  refine RE (d_box (k := 2) ti48 rfl) ⟨rfl, trivial⟩ trivial ⟨rfl, trivial⟩ ?_
  refine RE (d_box (k := 3) ti48 rfl) ⟨rfl, trivial⟩ trivial ⟨rfl, trivial⟩ ?_
  refine RE (d_alloc (k := 4) (n := 4) (agg := true) zr50.1 zr50.2 rfl) trivial trivial ⟨rfl, trivial⟩ ?_
  refine R_nil (by kernel_rfl) ?_
  refine K_then ?_
  refine C_seq ?_
  refine C_reg ?_
  refine R1 (d_fieldO fo48_1 rfl) rfl ?_
  refine R_loadF (0) ti46 rfl rfl rfl (At.g 1 rfl rfl) rfl ?_
  refine R1 (d_fieldO fo48_1 rfl) rfl ?_
  refine R_loadF (0) ti46 rfl rfl rfl (At.g 1 rfl rfl) rfl ?_
  refine R2 (d_call (c_RCommon n.natAbs d.natAbs hn hd) fi97 rfl) rfl rfl ?_
  refine R1 d_assign rfl ?_
  refine R_nil (by kernel_rfl) ?_
  refine K_then ?_
  refine C_seq ?_
  refine C_seq ?_
  refine C_reg ?_
  refine R1 d_move rfl ?_
  refine R1 (d_call (c_Rone _) fi96 rfl) rfl ?_
  refine R_nil (by kernel_rfl) ?_
  refine K_then ?_
  refine C_cond rfl (fun h15 => ?_) (fun h15 => ?_)
  ·
    have hg1 : (Nat.gcd n.natAbs d.natAbs) = 1 := by
      have h := of_decide_eq_true h15
      rw [← val_dig two_le_L (Nat.gcd n.natAbs d.natAbs), h]; rfl
    refine C_seq ?_
    refine C_draw mixed ?_
    refine R1 (d_fieldO fo48_0 rfl) rfl ?_
    refine R_loadF (0) ti4 rfl rfl rfl (At.g 0 rfl rfl) rfl ?_
    refine R1 (d_fieldO fo48_0 rfl) rfl ?_
    refine R_loadF (0) ti4 rfl rfl rfl (At.g 0 rfl rfl) rfl ?_
    refine R2 (d_neqB Tryz.underlying4) rfl rfl ?_
    refine R1 (d_fieldO fo48_1 rfl) rfl ?_
    refine R_loadF (0) ti46 rfl rfl rfl (At.g 1 rfl rfl) rfl ?_
    refine R2 (d_call (c_RMake (!((wh n).neg == (wh d).neg)) n.natAbs) fi110 rfl) rfl rfl ?_
    refine R1 (d_fieldO fo48_1 rfl) rfl ?_
    refine R_loadF (0) ti46 rfl rfl rfl (At.g 1 rfl rfl) rfl ?_
    refine R2 (d_call (c_RMake false d.natAbs) fi110 rfl) rfl rfl ?_
    refine R2 (d_build (r := tS [⟨2, true, tWh (wh (sgn (!((wh n).neg == (wh d).neg)) n.natAbs))⟩, ⟨2, true, tWh (wh (sgn false d.natAbs))⟩]) (ts := [(0, tWh (wh (sgn (!((wh n).neg == (wh d).neg)) n.natAbs))), (1, tWh (wh (sgn false d.natAbs)))]) bu50 zr50.2 ⟨_, rfl⟩ rfl ⟨_, _, _, _, rfl, Up.f (fs := [⟨2, true, (tS [⟨1, false, (tE (.bool false))⟩, ⟨1, false, (tLm [])⟩])⟩, ⟨2, true, (tS [⟨1, false, (tE (.bool false))⟩, ⟨1, false, (tLm [])⟩])⟩]) (f := ⟨2, true, (tS [⟨1, false, (tE (.bool false))⟩, ⟨1, false, (tLm [])⟩])⟩) (fs' := [⟨2, true, tWh (wh (sgn (!((wh n).neg == (wh d).neg)) n.natAbs))⟩, ⟨2, true, (tS [⟨1, false, (tE (.bool false))⟩, ⟨1, false, (tLm [])⟩])⟩]) 0 rfl rfl rfl, inferInstance, ⟨_, _, _, _, rfl, Up.f (fs := [⟨2, true, tWh (wh (sgn (!((wh n).neg == (wh d).neg)) n.natAbs))⟩, ⟨2, true, (tS [⟨1, false, (tE (.bool false))⟩, ⟨1, false, (tLm [])⟩])⟩]) (f := ⟨2, true, (tS [⟨1, false, (tE (.bool false))⟩, ⟨1, false, (tLm [])⟩])⟩) (fs' := [⟨2, true, tWh (wh (sgn (!((wh n).neg == (wh d).neg)) n.natAbs))⟩, ⟨2, true, tWh (wh (sgn false d.natAbs))⟩]) 1 rfl rfl rfl, inferInstance, Le.refl⟩⟩) rfl rfl ?_
    refine RE (d_store (es := 4) (agg := true) (0) ti50 rfl rfl rfl) ⟨rfl, rfl, trivial⟩ ⟨rfl, trivial⟩ trivial ?_
    refine R_end (by kernel_rfl) ?_
    refine K_then ?_
    refine C_ret ?_
    refine K_retT ?_
    exact E_retC Plain.mk' rfl ⟨_, _, _, _, _, rfl, rfl, ti50, (Le.of (by rw [low_sgn hd0, hg1, Nat.div_one, Nat.div_one]))⟩
  ·
    refine C_skip ?_
    refine K_then ?_
    refine C_seq ?_
    refine C_reg ?_
    refine R1 (d_fieldO fo48_1 rfl) rfl ?_
    refine R_loadF (0) ti46 rfl rfl rfl (At.g 1 rfl rfl) rfl ?_
    refine R1 d_move rfl ?_
    refine R2 (d_call (c_RDivided n.natAbs (Nat.gcd n.natAbs d.natAbs) hg0 hn hgl) fi111 rfl) rfl rfl ?_
    refine R1 d_move rfl ?_
    refine R1 (d_extract rfl) rfl ?_
    refine R1 (d_extract rfl) rfl ?_
    refine R1 d_assign rfl ?_
    refine R1 d_assign rfl ?_
    refine R_nil (by kernel_rfl) ?_
    refine K_then ?_
    refine C_seq ?_
    refine C_reg ?_
    refine R1 (d_fieldO fo48_1 rfl) rfl ?_
    refine R_loadF (0) ti46 rfl rfl rfl (At.g 1 rfl rfl) rfl ?_
    refine R1 d_move rfl ?_
    refine R2 (d_call (c_RDivided d.natAbs (Nat.gcd n.natAbs d.natAbs) hg0 hd hgl) fi111 rfl) rfl rfl ?_
    refine R1 d_move rfl ?_
    refine R1 (d_extract rfl) rfl ?_
    refine R1 (d_extract rfl) rfl ?_
    refine R1 d_assign rfl ?_
    refine R1 d_assign rfl ?_
    refine R_nil (by kernel_rfl) ?_
    refine K_then ?_
    refine C_seq ?_
    refine C_reg ?_
    refine R1 (d_fieldO fo48_0 rfl) rfl ?_
    refine R_loadF (0) ti4 rfl rfl rfl (At.g 0 rfl rfl) rfl ?_
    refine R1 (d_fieldO fo48_0 rfl) rfl ?_
    refine R_loadF (0) ti4 rfl rfl rfl (At.g 0 rfl rfl) rfl ?_
    refine R2 (d_neqB Tryz.underlying4) rfl rfl ?_
    refine R1 d_move rfl ?_
    refine R2 (d_call (c_RMake (!((wh n).neg == (wh d).neg)) (n.natAbs / (Nat.gcd n.natAbs d.natAbs))) fi110 rfl) rfl rfl ?_
    refine R1 d_move rfl ?_
    refine R2 (d_call (c_RMake false (d.natAbs / (Nat.gcd n.natAbs d.natAbs))) fi110 rfl) rfl rfl ?_
    refine R2 (d_build (r := tS [⟨2, true, tWh (wh (sgn (!((wh n).neg == (wh d).neg)) (n.natAbs / (Nat.gcd n.natAbs d.natAbs))))⟩, ⟨2, true, tWh (wh (sgn false (d.natAbs / (Nat.gcd n.natAbs d.natAbs))))⟩]) (ts := [(0, tWh (wh (sgn (!((wh n).neg == (wh d).neg)) (n.natAbs / (Nat.gcd n.natAbs d.natAbs))))), (1, tWh (wh (sgn false (d.natAbs / (Nat.gcd n.natAbs d.natAbs)))))]) bu50 zr50.2 ⟨_, rfl⟩ rfl ⟨_, _, _, _, rfl, Up.f (fs := [⟨2, true, (tS [⟨1, false, (tE (.bool false))⟩, ⟨1, false, (tLm [])⟩])⟩, ⟨2, true, (tS [⟨1, false, (tE (.bool false))⟩, ⟨1, false, (tLm [])⟩])⟩]) (f := ⟨2, true, (tS [⟨1, false, (tE (.bool false))⟩, ⟨1, false, (tLm [])⟩])⟩) (fs' := [⟨2, true, tWh (wh (sgn (!((wh n).neg == (wh d).neg)) (n.natAbs / (Nat.gcd n.natAbs d.natAbs))))⟩, ⟨2, true, (tS [⟨1, false, (tE (.bool false))⟩, ⟨1, false, (tLm [])⟩])⟩]) 0 rfl rfl rfl, inferInstance, ⟨_, _, _, _, rfl, Up.f (fs := [⟨2, true, tWh (wh (sgn (!((wh n).neg == (wh d).neg)) (n.natAbs / (Nat.gcd n.natAbs d.natAbs))))⟩, ⟨2, true, (tS [⟨1, false, (tE (.bool false))⟩, ⟨1, false, (tLm [])⟩])⟩]) (f := ⟨2, true, (tS [⟨1, false, (tE (.bool false))⟩, ⟨1, false, (tLm [])⟩])⟩) (fs' := [⟨2, true, tWh (wh (sgn (!((wh n).neg == (wh d).neg)) (n.natAbs / (Nat.gcd n.natAbs d.natAbs))))⟩, ⟨2, true, tWh (wh (sgn false (d.natAbs / (Nat.gcd n.natAbs d.natAbs))))⟩]) 1 rfl rfl rfl, inferInstance, Le.refl⟩⟩) rfl rfl ?_
    refine RE (d_store (es := 4) (agg := true) (0) ti50 rfl rfl rfl) ⟨rfl, rfl, trivial⟩ ⟨rfl, trivial⟩ trivial ?_
    refine R_nil (by kernel_rfl) ?_
    refine K_then ?_
    refine C_ret ?_
    exact E_retC Plain.mk' rfl ⟨_, _, _, _, _, rfl, rfl, ti50, (Le.of (by rw [low_sgn hd0]))⟩
theorem c_RQuick (n d : Int) (hd0 : d ≠ 0) (h1 : -9223372036854775808 ≤ n) (h2 : n ≤ 9223372036854775807) (h3 : -9223372036854775808 ≤ d) (h4 : d ≤ 9223372036854775807) :
    Ct Tryz.prog 36 [tI n, tI d] (tFr (fr (Rat.divInt n d))) := by
  have l1 := len16_64 h1 h2
  have l2 := len16_64 h3 h4
  refine Ct.intro Tryz.func36 rfl Tryz.ntmps36 rfl ?_
  intro w F
  refine C_seq ?_
  refine C_reg ?_
  refine RE (d_alloc (k := 4) (n := 4) (agg := true) zr50.1 zr50.2 rfl) trivial trivial ⟨rfl, trivial⟩ ?_
  refine R_nil (by kernel_rfl) ?_
  refine K_then ?_
  refine C_seq ?_
  refine C_reg ?_
  refine R1 d_move rfl ?_
  refine R1 (d_call (c_RFromInt n h1 h2) fi74 rfl) rfl ?_
  refine R1 d_move rfl ?_
  refine R1 (d_call (c_RFromInt d h3 h4) fi74 rfl) rfl ?_
  refine R2 (d_call (c_RLowest n d (by omega) (by omega) hd0) fi73 rfl) rfl rfl ?_
  refine RE (d_store (es := 4) (agg := true) (0) ti50 rfl rfl rfl) ⟨rfl, rfl, trivial⟩ ⟨rfl, trivial⟩ trivial ?_
  refine R_nil (by kernel_rfl) ?_
  refine K_then ?_
  refine C_ret ?_
  exact E_retC Plain.mk' rfl ⟨_, _, _, _, _, rfl, rfl, ti50, Le.refl⟩
theorem c_R2Same (f g : Fr) :
    Ct Tryz.prog 42 [tFr f, tFr g] (tB (decide (f = g))) := by
  refine Ct.intro Tryz.func42 rfl Tryz.ntmps42 rfl ?_
  intro w F
  refine C_seq ?_
  refine C_reg ?_
  refine RE (d_box (k := 2) ti50 rfl) ⟨rfl, trivial⟩ trivial ⟨rfl, trivial⟩ ?_
  refine RE (d_box (k := 3) ti50 rfl) ⟨rfl, trivial⟩ trivial ⟨rfl, trivial⟩ ?_
  refine R1 d_assign rfl ?_
  refine R_nil (by kernel_rfl) ?_
  refine K_then ?_
  refine C_seq ?_
  refine C_reg ?_
  refine R1 (d_fieldO fo50_0 rfl) rfl ?_
  refine R_loadF (0) ti48 rfl rfl rfl (At.g 0 rfl rfl) rfl ?_
  refine R1 (d_fieldO fo50_0 rfl) rfl ?_
  refine R_loadF (0) ti48 rfl rfl rfl (At.g 0 rfl rfl) rfl ?_
  refine R2 (d_call (c_RSame _ _) fi77 rfl) rfl rfl ?_
  refine R1 d_move rfl ?_
  refine RGcase (t := 10) rfl (fun h47 => ?_) (fun h47 => ?_)
  ·
    have hn : f.n = g.n := of_decide_eq_true h47
    refine RGon h47 rfl (d_fieldO fo50_1 rfl) rfl ⟨rfl, trivial⟩ trivial trivial ?_
    refine RG_loadF h47 rfl rfl (0) ti48 rfl rfl rfl (At.g 1 rfl rfl) rfl ?_
    refine RGon h47 rfl (d_fieldO fo50_1 rfl) rfl ⟨rfl, trivial⟩ trivial trivial ?_
    refine RG_loadF h47 rfl rfl (0) ti48 rfl rfl rfl (At.g 1 rfl rfl) rfl ?_
    refine RGon h47 rfl (d_call (c_RSame _ _) fi77 rfl) rfl ⟨rfl, rfl, trivial⟩ trivial trivial ?_
    refine R2 (d_pickT h47) rfl rfl ?_
    refine R1 d_assign rfl ?_
    refine R_nil (by kernel_rfl) ?_
    refine K_then ?_
    refine C_ret ?_
    exact E_ret1 Plain.mk' rfl rfl (Le.bool (by obtain ⟨a, b⟩ := f; obtain ⟨c, d⟩ := g; simp only at hn; subst hn; simp))
  ·
    have hn : f.n ≠ g.n := of_decide_eq_false h47
    refine RGoff h47 rfl rfl ?_
    refine RGoff h47 rfl rfl ?_
    refine RGoff h47 rfl rfl ?_
    refine RGoff h47 rfl rfl ?_
    refine RGoff h47 rfl rfl ?_
    refine R2 (d_pickF h47) rfl rfl ?_
    refine R1 d_assign rfl ?_
    refine R_nil (by kernel_rfl) ?_
    refine K_then ?_
    refine C_ret ?_
    exact E_ret1 Plain.mk' rfl rfl (Le.bool (decide_eq_false (fun h => hn (by rw [h]))).symm)
theorem take_succ_getZ (l : List Int) (k : Nat) (hk : k < l.length) : l.take (k + 1) = l.take k ++ [l.getD k 0] := by
  rw [List.take_succ_eq_append_getElem hk, List.getD_eq_getElem?_getD, List.getElem?_eq_getElem hk]; rfl
/-- A list that is too large. -/
def largeL (l : List Deal) (m k : Int) : Bool := (List.range l.length).any fun i => decide (m ≤ (i : Int)) || decide (k < ((l.getD i deal0).share.n.l.length : Int)) || decide (k < ((l.getD i deal0).share.d.l.length : Int))
theorem any_next {i : Nat} {f : Nat → Bool} : (List.range (i + 1)).any f = ((List.range i).any f || f i) := by
  rw [List.range_succ, List.any_append]; simp
theorem any_stop {n i : Nat} {f : Nat → Bool} (hi : i < n) (h : f i = true) : (List.range n).any f = true := List.any_eq_true.2 ⟨i, List.mem_range.2 hi, h⟩
theorem c_SameInts (xs ys : List Int) :
    Ct Tryz.prog 14 [tIs xs, tIs ys] (tB (decide (xs = ys))) := by
  refine Ct.intro Tryz.func14 rfl Tryz.ntmps14 rfl ?_
  intro w F
  refine C_len (s := 0) rfl (fun hl0 => ?_)
  refine C_seq ?_
  refine C_reg ?_
  refine R1 d_assign rfl ?_
  refine R_nil (by kernel_rfl) ?_
  refine K_then ?_
  refine C_seq ?_
  refine C_seq ?_
  refine C_reg ?_
  refine R1 d_move rfl ?_
  refine R1 (d_len Tryz.underlying23) rfl ?_
  refine R1 d_move rfl ?_
  refine R1 (d_len Tryz.underlying23) rfl ?_
  refine R2 d_neq rfl rfl ?_
  refine R_nil (by kernel_rfl) ?_
  refine K_then ?_
  refine C_if rfl (fun h27 => ?_) (fun h27 => ?_)
  ·
    refine C_seq ?_
    refine C_reg ?_
    refine R1 d_assign rfl ?_
    refine R_nil (by kernel_rfl) ?_
    refine K_then ?_
    refine C_ret ?_
    refine K_retT ?_
    exact E_ret1 Plain.mk' rfl rfl (Le.bool (decide_eq_false (fun h => by rw [h] at h27; omega)).symm)
  ·
    have hll : xs.length = ys.length := by omega
    refine C_skip ?_
    refine K_then ?_
    refine C_seq ?_
    refine C_seq ?_
    refine C_reg ?_
    refine R1 d_assign rfl ?_
    refine R_nil (by kernel_rfl) ?_
    refine K_then ?_
    refine C_block ?_
    refine C_loop (fun (i : Nat) => i ≤ xs.length ∧ xs.take i = ys.take i) (fun (i : Nat) => upd (upd (upd (fun _ => none) 0 (some (.val (tIs xs)))) 1 (some (.val (tIs ys)))) 5 (some (.val (tI i)))) (fun (i : Nat) => fun _ => none) (nm []) (fun (i : Nat) => xs.length - i) (0) ⟨Nat.zero_le _, rfl⟩ (Sub.int rfl (by first | omega | rfl | (dsimp only; omega)) (Sub.cons rfl (Sub.cons rfl Sub.nil))) SubK.nil (SupG.val (SupG.val (SupG.val SupG.nil))) SupH.nil (lkOk rfl) ?_
    intro i hI
    obtain ⟨hi, ht⟩ := hI
    refine C_seq ?_
    refine C_seq ?_
    refine C_reg ?_
    refine R1 d_move rfl ?_
    refine R1 d_move rfl ?_
    refine R1 (d_len Tryz.underlying23) rfl ?_
    refine R2 d_lss rfl rfl ?_
    refine R_nil (by kernel_rfl) ?_
    refine K_then ?_
    refine C_if rfl (fun h30 => ?_) (fun h30 => ?_)
    ·
      refine C_skip ?_
      refine K_then ?_
      refine C_seq ?_
      refine C_block ?_
      refine C_seq ?_
      refine C_draw mixed ?_
      refine R1 d_move rfl ?_
      refine R1 d_move rfl ?_
      refine R2 (d_indexP sl23 (i) (by omega) (gZ (by omega))) rfl rfl ?_
      refine R1 (d_loadP ti3) rfl ?_
      refine R1 d_move rfl ?_
      refine R1 d_move rfl ?_
      refine R2 (d_indexP sl23 (i) (by omega) (gZ (by omega))) rfl rfl ?_
      refine R1 (d_loadP ti3) rfl ?_
      refine R2 d_neq rfl rfl ?_
      refine R_end (by kernel_rfl) ?_
      refine K_then ?_
      refine C_if rfl (fun h31 => ?_) (fun h31 => ?_)
      ·
        refine C_seq ?_
        refine C_reg ?_
        refine R1 d_assign rfl ?_
        refine R_nil (by kernel_rfl) ?_
        refine K_then ?_
        refine C_ret ?_
        refine K_retB ?_
        refine K_retT ?_
        refine K_retT ?_
        refine K_retB ?_
        refine K_retT ?_
        exact E_ret1 Plain.mk' rfl rfl (Le.bool (decide_eq_false (fun h => by rw [h] at h31; omega)).symm)
      ·
        refine C_skip ?_
        refine K_norB ?_
        refine K_then ?_
        refine C_reg ?_
        refine R1 d_move rfl ?_
        refine R2 (d_add (by first | exact wr64 (by omega) (by omega))) rfl rfl ?_
        refine R1 d_assign rfl ?_
        refine R_nil (by kernel_rfl) ?_
        exact K_fam (i + 1) ⟨⟨by omega, by rw [take_succ_getZ xs i (by omega), take_succ_getZ ys i (by omega), ht, show xs.getD i 0 = ys.getD i 0 by omega]⟩, (by omega)⟩ (Sub.int rfl (by first | omega | rfl | (dsimp only; omega)) (Sub.cons rfl (Sub.cons rfl Sub.nil))) SubK.nil (SupG.val (SupG.val (SupG.val SupG.nil))) SupH.nil (lkOk rfl)
    ·
      refine C_exit ?_
      refine K_exT ?_
      refine K_exT ?_
      refine K_exB ?_
      refine K_then ?_
      refine C_seq ?_
      refine C_reg ?_
      refine R1 d_assign rfl ?_
      refine R_nil (by kernel_rfl) ?_
      refine K_then ?_
      refine C_ret ?_
      exact E_ret1 Plain.mk' rfl rfl (Le.bool (decide_eq_true (by rw [show i = xs.length by omega, List.take_length, hll, List.take_length] at ht; exact ht)).symm)
theorem c_large24 (l : List Deal) (m k : Int) :
    Ct Tryz.prog 12 [tL 7 true tDeal l, tI m, tI k] (tB (largeL l m k)) := by
  refine Ct.intro Tryz.func12 rfl Tryz.ntmps12 rfl ?_
  intro w F
  refine C_len (s := 0) rfl (fun hl0 => ?_)
  refine C_seq ?_
  refine C_reg ?_
  refine R1 d_assign rfl ?_
  refine R_nil (by kernel_rfl) ?_
  refine K_then ?_
  refine C_seq ?_
  refine C_seq ?_
  refine C_reg ?_
  refine R1 d_assign rfl ?_
  refine R_nil (by kernel_rfl) ?_
  refine K_then ?_
  refine C_block ?_
  refine C_loop (fun (i : Nat) => i ≤ l.length ∧ (List.range i).any (fun i => decide (m ≤ (i : Int)) || decide (k < ((l.getD i deal0).share.n.l.length : Int)) || decide (k < ((l.getD i deal0).share.d.l.length : Int))) = false) (fun (i : Nat) => upd (upd (upd (upd (fun _ => none) 0 (some (.val (tL 7 true tDeal l)))) 1 (some (.val (tI m)))) 2 (some (.val (tI k)))) 7 (some (.val (tI i)))) (fun (i : Nat) => fun _ => none) (nm []) (fun (i : Nat) => l.length - i) (0) ⟨Nat.zero_le _, rfl⟩ (Sub.int rfl (by first | omega | rfl | (dsimp only; omega)) (Sub.int rfl (by first | omega | rfl | (dsimp only; omega)) (Sub.int rfl (by first | omega | rfl | (dsimp only; omega)) (Sub.cons rfl Sub.nil)))) SubK.nil (SupG.val (SupG.val (SupG.val (SupG.val SupG.nil)))) SupH.nil (lkOk rfl) ?_
  intro i hI
  obtain ⟨hi, ha⟩ := hI
  refine C_seq ?_
  refine C_seq ?_
  refine C_reg ?_
  refine R1 d_move rfl ?_
  refine R1 d_move rfl ?_
  refine R1 (d_len Tryz.underlying22) rfl ?_
  refine R2 d_lss rfl rfl ?_
  refine R_nil (by kernel_rfl) ?_
  refine K_then ?_
  refine C_if rfl (fun h72 => ?_) (fun h72 => ?_)
  ·
    refine C_skip ?_
    refine K_then ?_
    refine C_seq ?_
    refine C_block ?_
    refine C_seq ?_
    refine C_reg ?_
    refine R1 d_move rfl ?_
    refine R1 d_move rfl ?_
    refine R2 d_geq rfl rfl ?_
    refine R1 d_move rfl ?_
    refine RGcaseD (t := 17) rfl (fun h73 => ?_) (fun h73 => ?_)
    ·
      refine RGoff (decide_eq_true h73) rfl rfl ?_
      refine RGoff (decide_eq_true h73) rfl rfl ?_
      refine RGoff (decide_eq_true h73) rfl rfl ?_
      refine RGoff (decide_eq_true h73) rfl rfl ?_
      refine RGoff (decide_eq_true h73) rfl rfl ?_
      refine RGoff (decide_eq_true h73) rfl rfl ?_
      refine RGoff (decide_eq_true h73) rfl rfl ?_
      refine RGoff (decide_eq_true h73) rfl rfl ?_
      refine RGoff (decide_eq_true h73) rfl rfl ?_
      refine RGoff (decide_eq_true h73) rfl rfl ?_
      refine R2 (d_pickT (decide_eq_true h73)) rfl rfl ?_
      refine R1 d_move rfl ?_
      refine RGoff1 rfl rfl ?_
      refine RGoff1 rfl rfl ?_
      refine RGoff1 rfl rfl ?_
      refine RGoff1 rfl rfl ?_
      refine RGoff1 rfl rfl ?_
      refine RGoff1 rfl rfl ?_
      refine RGoff1 rfl rfl ?_
      refine RGoff1 rfl rfl ?_
      refine RGoff1 rfl rfl ?_
      refine RGoff1 rfl rfl ?_
      refine R2 (d_pickT rfl) rfl rfl ?_
      refine R_nil (by kernel_rfl) ?_
      refine K_then ?_
      refine C_bT rfl rfl ?_
      refine C_seq ?_
      refine C_reg ?_
      refine R1 d_assign rfl ?_
      refine R_nil (by kernel_rfl) ?_
      refine K_then ?_
      refine C_ret ?_
      refine K_retB ?_
      refine K_retT ?_
      refine K_retT ?_
      refine K_retB ?_
      refine K_retT ?_
      exact E_ret1 Plain.mk' rfl rfl (Le.bool (any_stop (i := i) (by omega) (by simp only [decide_eq_true h73, Bool.true_or])).symm)
    ·
      refine RGon (decide_eq_false h73) rfl d_move rfl ⟨rfl, trivial⟩ trivial trivial ?_
      refine RGon (decide_eq_false h73) rfl d_move rfl ⟨rfl, trivial⟩ trivial trivial ?_
      refine RGon (decide_eq_false h73) rfl (d_indexP sl22 i (by omega) (gD (l := l) (n := i) (d := deal0) (by omega))) rfl ⟨rfl, rfl, trivial⟩ trivial trivial ?_
      refine RGon (decide_eq_false h73) rfl (d_fieldP fo68_2 (At.g (fs := [⟨1, false, tI (l.getD i deal0).lo⟩, ⟨1, false, tI (l.getD i deal0).hi⟩, ⟨4, true, tFr (l.getD i deal0).share⟩, ⟨1, false, tI (l.getD i deal0).acc⟩]) 2 rfl rfl) rfl) rfl ⟨rfl, trivial⟩ trivial trivial ?_
      refine RGon (decide_eq_false h73) rfl (d_fieldP fo50_0 (At.g (fs := [⟨2, true, tWh (l.getD i deal0).share.n⟩, ⟨2, true, tWh (l.getD i deal0).share.d⟩]) 0 rfl rfl) rfl) rfl ⟨rfl, trivial⟩ trivial trivial ?_
      refine RGon (decide_eq_false h73) rfl (d_fieldP fo48_1 (At.g (fs := [⟨1, false, tB (l.getD i deal0).share.n.neg⟩, ⟨1, false, tLm (l.getD i deal0).share.n.l⟩]) 1 rfl rfl) rfl) rfl ⟨rfl, trivial⟩ trivial trivial ?_
      refine RGon (decide_eq_false h73) rfl (d_loadP ti46) rfl ⟨rfl, trivial⟩ trivial trivial ?_
      refine RGon (decide_eq_false h73) rfl (d_len Tryz.underlying46) rfl ⟨rfl, trivial⟩ trivial trivial ?_
      refine RGon (decide_eq_false h73) rfl d_move rfl ⟨rfl, trivial⟩ trivial trivial ?_
      refine RGon (decide_eq_false h73) rfl d_gtr rfl ⟨rfl, rfl, trivial⟩ trivial trivial ?_
      refine R2 (d_pickF (decide_eq_false h73)) rfl rfl ?_
      refine R1 d_move rfl ?_
      refine RGcaseD (t := 29) rfl (fun h73_2 => ?_) (fun h73_2 => ?_)
      ·
        refine RGoff (decide_eq_true h73_2) rfl rfl ?_
        refine RGoff (decide_eq_true h73_2) rfl rfl ?_
        refine RGoff (decide_eq_true h73_2) rfl rfl ?_
        refine RGoff (decide_eq_true h73_2) rfl rfl ?_
        refine RGoff (decide_eq_true h73_2) rfl rfl ?_
        refine RGoff (decide_eq_true h73_2) rfl rfl ?_
        refine RGoff (decide_eq_true h73_2) rfl rfl ?_
        refine RGoff (decide_eq_true h73_2) rfl rfl ?_
        refine RGoff (decide_eq_true h73_2) rfl rfl ?_
        refine RGoff (decide_eq_true h73_2) rfl rfl ?_
        refine R2 (d_pickT (decide_eq_true h73_2)) rfl rfl ?_
        refine R_nil (by kernel_rfl) ?_
        refine K_then ?_
        refine C_bT rfl rfl ?_
        refine C_seq ?_
        refine C_reg ?_
        refine R1 d_assign rfl ?_
        refine R_nil (by kernel_rfl) ?_
        refine K_then ?_
        refine C_ret ?_
        refine K_retB ?_
        refine K_retT ?_
        refine K_retT ?_
        refine K_retB ?_
        refine K_retT ?_
        exact E_ret1 Plain.mk' rfl rfl (Le.bool (any_stop (i := i) (by omega) (by simp only [decide_eq_true h73_2, Bool.or_true, Bool.true_or])).symm)
      ·
        refine RGon (decide_eq_false h73_2) rfl d_move rfl ⟨rfl, trivial⟩ trivial trivial ?_
        refine RGon (decide_eq_false h73_2) rfl d_move rfl ⟨rfl, trivial⟩ trivial trivial ?_
        refine RGon (decide_eq_false h73_2) rfl (d_indexP sl22 i (by omega) (gD (l := l) (n := i) (d := deal0) (by omega))) rfl ⟨rfl, rfl, trivial⟩ trivial trivial ?_
        refine RGon (decide_eq_false h73_2) rfl (d_fieldP fo68_2 (At.g (fs := [⟨1, false, tI (l.getD i deal0).lo⟩, ⟨1, false, tI (l.getD i deal0).hi⟩, ⟨4, true, tFr (l.getD i deal0).share⟩, ⟨1, false, tI (l.getD i deal0).acc⟩]) 2 rfl rfl) rfl) rfl ⟨rfl, trivial⟩ trivial trivial ?_
        refine RGon (decide_eq_false h73_2) rfl (d_fieldP fo50_1 (At.g (fs := [⟨2, true, tWh (l.getD i deal0).share.n⟩, ⟨2, true, tWh (l.getD i deal0).share.d⟩]) 1 rfl rfl) rfl) rfl ⟨rfl, trivial⟩ trivial trivial ?_
        refine RGon (decide_eq_false h73_2) rfl (d_fieldP fo48_1 (At.g (fs := [⟨1, false, tB (l.getD i deal0).share.d.neg⟩, ⟨1, false, tLm (l.getD i deal0).share.d.l⟩]) 1 rfl rfl) rfl) rfl ⟨rfl, trivial⟩ trivial trivial ?_
        refine RGon (decide_eq_false h73_2) rfl (d_loadP ti46) rfl ⟨rfl, trivial⟩ trivial trivial ?_
        refine RGon (decide_eq_false h73_2) rfl (d_len Tryz.underlying46) rfl ⟨rfl, trivial⟩ trivial trivial ?_
        refine RGon (decide_eq_false h73_2) rfl d_move rfl ⟨rfl, trivial⟩ trivial trivial ?_
        refine RGon (decide_eq_false h73_2) rfl d_gtr rfl ⟨rfl, rfl, trivial⟩ trivial trivial ?_
        refine R2 (d_pickF (decide_eq_false h73_2)) rfl rfl ?_
        refine R_nil (by kernel_rfl) ?_
        refine K_then ?_
        refine C_if rfl (fun h73_3 => ?_) (fun h73_3 => ?_)
        ·
          refine C_seq ?_
          refine C_reg ?_
          refine R1 d_assign rfl ?_
          refine R_nil (by kernel_rfl) ?_
          refine K_then ?_
          refine C_ret ?_
          refine K_retB ?_
          refine K_retT ?_
          refine K_retT ?_
          refine K_retB ?_
          refine K_retT ?_
          exact E_ret1 Plain.mk' rfl rfl (Le.bool (any_stop (i := i) (by omega) (by simp only [decide_eq_true h73_3, Bool.or_true])).symm)
        ·
          refine C_skip ?_
          refine K_norB ?_
          refine K_then ?_
          refine C_reg ?_
          refine R1 d_move rfl ?_
          refine R2 (d_add (by first | exact wr64 (by omega) (by omega))) rfl rfl ?_
          refine R1 d_assign rfl ?_
          refine R_nil (by kernel_rfl) ?_
          exact K_fam (i + 1) ⟨⟨by omega, by rw [any_next, ha, Bool.false_or, decide_eq_false h73, decide_eq_false h73_2, decide_eq_false h73_3]; rfl⟩, (by omega)⟩ (Sub.int rfl (by first | omega | rfl | (dsimp only; omega)) (Sub.int rfl (by first | omega | rfl | (dsimp only; omega)) (Sub.int rfl (by first | omega | rfl | (dsimp only; omega)) (Sub.cons rfl Sub.nil)))) SubK.nil (SupG.val (SupG.val (SupG.val (SupG.val SupG.nil)))) SupH.nil (lkOk rfl)
  ·
    refine C_exit ?_
    refine K_exT ?_
    refine K_exT ?_
    refine K_exB ?_
    refine K_then ?_
    refine C_seq ?_
    refine C_reg ?_
    refine R1 d_assign rfl ?_
    refine R_nil (by kernel_rfl) ?_
    refine K_then ?_
    refine C_ret ?_
    exact E_ret1 Plain.mk' rfl rfl (Le.bool (by rw [largeL, ← show i = l.length by omega, ha]))
end An.S

/- Law 24: the examples of the chapter, deals. -/
namespace An.S
open Go Go.Proofs An
set_option maxHeartbeats 2000000
theorem sl78 : SlI Tryz.prog 78 23 1 false := ⟨Tryz.underlying78, ti23⟩
theorem fi13 : FnI Tryz.prog 13 := ⟨_, Tryz.func13, by kernel_rfl, rfl⟩
theorem fi14 : FnI Tryz.prog 14 := ⟨_, Tryz.func14, by kernel_rfl, rfl⟩
theorem fi20 : FnI Tryz.prog 20 := ⟨_, Tryz.func20, by kernel_rfl, rfl⟩
/-- One step behind the other, each with the parts that are wanted. -/
def stepsL (l : List Deal) (m : Int) : Int → List Int → List Int → List Int → List (List Int) → Bool
  | _, _, _, [], _ => true
  | o, b, p, a :: us, w => decide (stepE l o b p m a = 0) && decide (stepQ l o b p m a = w.headD []) && stepsL l m (stepO l o b p m a) (stepB l o b p m a) (stepP l o b p m a) us w.tail
theorem steps_end {l : List Deal} {m o : Int} {b p us : List Int} {w : List (List Int)} {i : Nat} (h : us.length ≤ i) : stepsL l m o b p (us.drop i) (w.drop i) = true := by
  rw [List.drop_eq_nil_of_le h, stepsL]
theorem steps_at {l : List Deal} {m o : Int} {b p us : List Int} {w : List (List Int)} {i : Nat} (h : i < us.length) (hw : i < w.length) : stepsL l m o b p (us.drop i) (w.drop i) =
    (decide (stepE l o b p m (us.getD i 0) = 0) && decide (stepQ l o b p m (us.getD i 0) = w.getD i []) && stepsL l m (stepO l o b p m (us.getD i 0)) (stepB l o b p m (us.getD i 0)) (stepP l o b p m (us.getD i 0)) (us.drop (i + 1)) (w.drop (i + 1))) := by
  rw [List.drop_eq_getElem_cons h, List.drop_eq_getElem_cons hw, stepsL]
  simp [h, hw]
theorem c_steps (l : List Deal) (m : Int) (us : List Int) (ws : List (List Int)) (hv : validL l = true) (hd : ∀ d ∈ l, d.share.dig) (hw : us.length ≤ ws.length) :
    Ct Tryz.prog 43 [tL 7 true tDeal l, tI m, tIs us, tL 1 false (fun x : List Int => tIs x) ws] (tB (stepsL l m 0 (List.replicate l.length (0 : Int)) (List.replicate l.length (0 : Int)) us ws)) := by
  refine Ct.intro Tryz.func43 rfl Tryz.ntmps43 rfl ?_
  intro w F
  refine C_len (s := 2) rfl (fun hl0 => ?_)
  refine C_seq ?_
  refine C_reg ?_
  refine R1 d_assign rfl ?_
  refine R_nil (by kernel_rfl) ?_
  refine K_then ?_
  refine C_seq ?_
  refine C_reg ?_
  refine R1 d_move rfl ?_
  refine R1 (d_call (c_SNew l hd) fi20 rfl) rfl ?_
  refine R1 d_move rfl ?_
  refine R1 (d_extract rfl) rfl ?_
  refine R1 (d_extract rfl) rfl ?_
  refine RE (d_alloc (k := 9) (n := 3) (agg := true) zr25.1 zr25.2 rfl) trivial trivial ⟨rfl, trivial⟩ ?_
  refine RE (d_store (es := 3) (agg := true) (0) ti25 rfl rfl rfl) ⟨rfl, rfl, trivial⟩ ⟨rfl, trivial⟩ trivial ?_
  refine R1 d_assign rfl ?_
  refine R_nil (by kernel_rfl) ?_
  refine K_then ?_
  refine C_seq ?_
  refine C_seq ?_
  refine C_reg ?_
  refine R1 d_assign rfl ?_
  refine R_nil (by kernel_rfl) ?_
  refine K_then ?_
  refine C_block ?_
  refine C_loop (fun (fm : (Nat) × (Int) × (List Int) × (List Int)) => (fun (i : Nat) (o : Int) (b : List Int) (p : List Int) => i ≤ us.length ∧ stepsL l m o b p (us.drop i) (ws.drop i) = stepsL l m 0 (List.replicate l.length (0 : Int)) (List.replicate l.length (0 : Int)) us ws) fm.1 fm.2.1 fm.2.2.1 fm.2.2.2) (fun (fm : (Nat) × (Int) × (List Int) × (List Int)) => (fun (i : Nat) (o : Int) (b : List Int) (p : List Int) => upd (upd (upd (upd (upd (upd (upd (fun _ => none) 0 (some (.val (tL 7 true tDeal l)))) 1 (some (.val (tI m)))) 2 (some (.val (tIs us)))) 3 (some (.val (tL 1 false (fun x : List Int => tIs x) ws)))) 9 (some (.own (.ptr 9 0)))) 10 (some (.val (tI 0)))) 11 (some (.val (tI i)))) fm.1 fm.2.1 fm.2.2.1 fm.2.2.2) (fun (fm : (Nat) × (Int) × (List Int) × (List Int)) => (fun (i : Nat) (o : Int) (b : List Int) (p : List Int) => upd (fun _ => none) 9 (some (⟨25, 3, true, [.val (tState o b p)]⟩))) fm.1 fm.2.1 fm.2.2.1 fm.2.2.2) (nm [9]) (fun (fm : (Nat) × (Int) × (List Int) × (List Int)) => (fun (i : Nat) (o : Int) (b : List Int) (p : List Int) => us.length - i) fm.1 fm.2.1 fm.2.2.1 fm.2.2.2) ((0, 0, (List.replicate l.length (0 : Int)), (List.replicate l.length (0 : Int)))) (by dsimp only; exact ⟨Nat.zero_le _, rfl⟩) (Sub.int rfl (by first | omega | rfl | (dsimp only; omega)) (Sub.int rfl (by rw [hv]; rfl) (Sub.cons rfl (Sub.cons rfl (Sub.cons rfl (Sub.int rfl (by first | omega | rfl | (dsimp only; omega)) (Sub.cons rfl Sub.nil))))))) (SubK.cons (by rw [hv]; rfl) SubK.nil) (SupG.val (SupG.val (SupG.own rfl (SupG.val (SupG.val (SupG.val (SupG.val SupG.nil))))))) (SupH.cons rfl (supJL rfl) SupH.nil) (lkOk rfl) ?_
  intro fm hI
  obtain ⟨i, o, b, p⟩ := fm
  replace hI : i ≤ us.length ∧ stepsL l m o b p (us.drop i) (ws.drop i) = stepsL l m 0 (List.replicate l.length (0 : Int)) (List.replicate l.length (0 : Int)) us ws := hI
  show wc _ _ _ _ (upd (upd (upd (upd (upd (upd (upd (fun _ => none) 0 (some (.val (tL 7 true tDeal l)))) 1 (some (.val (tI m)))) 2 (some (.val (tIs us)))) 3 (some (.val (tL 1 false (fun x : List Int => tIs x) ws)))) 9 (some (.own (.ptr 9 0)))) 10 (some (.val (tI 0)))) 11 (some (.val (tI i)))) (upd (fun _ => none) 9 (some (⟨25, 3, true, [.val (tState o b p)]⟩))) _
  obtain ⟨hi, hT⟩ := hI
  refine C_seq ?_
  refine C_seq ?_
  refine C_reg ?_
  refine R1 d_move rfl ?_
  refine R1 d_move rfl ?_
  refine R1 (d_len Tryz.underlying23) rfl ?_
  refine R2 d_lss rfl rfl ?_
  refine R_nil (by kernel_rfl) ?_
  refine K_then ?_
  refine C_if rfl (fun h24 => ?_) (fun h24 => ?_)
  ·
    refine C_skip ?_
    refine K_then ?_
    refine C_seq ?_
    refine C_block ?_
    refine C_seq ?_
    refine C_draw mixed ?_
    refine R1 d_move rfl ?_
    refine RE (d_load (0) ti25 rfl rfl) ⟨rfl, trivial⟩ ⟨rfl, trivial⟩ trivial ?_
    refine R1 d_move rfl ?_
    refine R1 d_move rfl ?_
    refine R1 d_move rfl ?_
    refine R2 (d_indexP sl23 (i) (by omega) (gZ (by omega))) rfl rfl ?_
    refine R1 (d_loadP ti3) rfl ?_
    refine RE (d_call (c_Step l o b p m _ hd) fi13 rfl) ⟨rfl, rfl, rfl, rfl, trivial⟩ trivial trivial ?_
    refine R1 d_move rfl ?_
    refine R1 (d_extract rfl) rfl ?_
    refine R1 (d_extract rfl) rfl ?_
    refine R1 (d_extract rfl) rfl ?_
    refine RE (d_alloc (k := 12) (n := 3) (agg := true) zr25.1 zr25.2 rfl) trivial trivial ⟨rfl, trivial⟩ ?_
    refine RE (d_store (es := 3) (agg := true) (0) ti25 rfl rfl rfl) ⟨rfl, rfl, trivial⟩ ⟨rfl, trivial⟩ trivial ?_
    refine R1 d_assign rfl ?_
    refine R1 d_assign rfl ?_
    refine R_end (by kernel_rfl) ?_
    refine K_then ?_
    refine C_seq ?_
    refine C_seq ?_
    refine C_reg ?_
    refine R1 d_move rfl ?_
    refine R2 d_neq rfl rfl ?_
    refine R1 d_move rfl ?_
    refine RGcaseD (t := 40) rfl (fun h26 => ?_) (fun h26 => ?_)
    ·
      exact absurd h26 (by omega)
    ·
      refine RGon (decide_eq_false h26) rfl d_move rfl ⟨rfl, trivial⟩ trivial trivial ?_
      refine RGon (decide_eq_false h26) rfl d_neq rfl ⟨rfl, rfl, trivial⟩ trivial trivial ?_
      refine R2 (d_pickF (decide_eq_false h26)) rfl rfl ?_
      refine R1 d_move rfl ?_
      refine RGcaseD (t := 44) rfl (fun h26_2 => ?_) (fun h26_2 => ?_)
      ·
        refine RGoff (decide_eq_true h26_2) rfl rfl ?_
        refine RGoff (decide_eq_true h26_2) rfl rfl ?_
        refine RGoff (decide_eq_true h26_2) rfl rfl ?_
        refine RGoff (decide_eq_true h26_2) rfl rfl ?_
        refine RGoff (decide_eq_true h26_2) rfl rfl ?_
        refine RGoff (decide_eq_true h26_2) rfl rfl ?_
        refine RGoff (decide_eq_true h26_2) rfl rfl ?_
        refine R2 (d_pickT (decide_eq_true h26_2)) rfl rfl ?_
        refine R_nil (by kernel_rfl) ?_
        refine K_then ?_
        refine C_bT rfl rfl ?_
        refine C_seq ?_
        refine C_reg ?_
        refine R1 d_assign rfl ?_
        refine R_nil (by kernel_rfl) ?_
        refine K_then ?_
        refine C_ret ?_
        refine K_retT ?_
        refine K_retB ?_
        refine K_retT ?_
        refine K_retT ?_
        refine K_retB ?_
        refine K_retT ?_
        exact E_ret1 Plain.mk' rfl rfl (Le.bool (by rw [← hT, steps_at (by omega) (by omega), decide_eq_false h26_2]; rfl))
      ·
        have hE : stepE l o b p m (us.getD i 0) = 0 := by omega
        refine RGon (decide_eq_false h26_2) rfl d_move rfl ⟨rfl, trivial⟩ trivial trivial ?_
        refine RGon (decide_eq_false h26_2) rfl d_move rfl ⟨rfl, trivial⟩ trivial trivial ?_
        refine RGon (decide_eq_false h26_2) rfl d_move rfl ⟨rfl, trivial⟩ trivial trivial ?_
        refine RGon (decide_eq_false h26_2) rfl (d_indexP sl78 i (by omega) (gD (d := []) (by omega))) rfl ⟨rfl, rfl, trivial⟩ trivial trivial ?_
        refine RGon (decide_eq_false h26_2) rfl (d_loadP ti23) rfl ⟨rfl, trivial⟩ trivial trivial ?_
        refine RGon (decide_eq_false h26_2) rfl (d_call (c_SameInts _ _) fi14 rfl) rfl ⟨rfl, rfl, trivial⟩ trivial trivial ?_
        refine RGon (decide_eq_false h26_2) rfl d_not rfl ⟨rfl, trivial⟩ trivial trivial ?_
        refine R2 (d_pickF (decide_eq_false h26_2)) rfl rfl ?_
        refine R_nil (by kernel_rfl) ?_
        refine K_then ?_
        refine C_ifn rfl (fun h26_3 => ?_) (fun h26_3 => ?_)
        ·
          refine C_seq ?_
          refine C_reg ?_
          refine R1 d_assign rfl ?_
          refine R_nil (by kernel_rfl) ?_
          refine K_then ?_
          refine C_ret ?_
          refine K_retT ?_
          refine K_retB ?_
          refine K_retT ?_
          refine K_retT ?_
          refine K_retB ?_
          refine K_retT ?_
          exact E_ret1 Plain.mk' rfl rfl (Le.bool (by rw [← hT, steps_at (by omega) (by omega), decide_eq_false h26_3, Bool.and_false, Bool.false_and]))
        ·
          refine C_skip ?_
          refine K_then ?_
          refine C_reg ?_
          refine RE (d_load (0) ti25 rfl rfl) ⟨rfl, trivial⟩ ⟨rfl, trivial⟩ trivial ?_
          refine RE (d_store (es := 3) (agg := true) (0) ti25 rfl rfl rfl) ⟨rfl, rfl, trivial⟩ ⟨rfl, trivial⟩ trivial ?_
          refine R_nil (by kernel_rfl) ?_
          refine K_norB ?_
          refine K_then ?_
          refine C_reg ?_
          refine R1 d_move rfl ?_
          refine R2 (d_add (by first | exact wr64 (by omega) (by omega))) rfl rfl ?_
          refine R1 d_assign rfl ?_
          refine R_nil (by kernel_rfl) ?_
          have hT2 := steps_at (l := l) (m := m) (o := o) (b := b) (p := p) (us := us) (w := ws) (i := i) (by omega) (by omega)
          rw [hT, decide_eq_true hE, decide_eq_true h26_3, Bool.true_and, Bool.true_and] at hT2
          exact K_fam ((i + 1, stepO l o b p m (us.getD i 0), stepB l o b p m (us.getD i 0), stepP l o b p m (us.getD i 0))) ⟨(by dsimp only; exact ⟨by omega, hT2.symm⟩), (by dsimp only; omega)⟩ (Sub.int rfl (by first | omega | rfl | (dsimp only; omega)) (Sub.int rfl (by first | omega | rfl | (dsimp only; omega)) (Sub.cons rfl (Sub.cons rfl (Sub.cons rfl (Sub.int rfl (by first | omega | rfl | (dsimp only; omega)) (Sub.cons rfl Sub.nil))))))) (SubK.cons rfl SubK.nil) (SupG.val (SupG.val (SupG.own rfl (SupG.val (SupG.val (SupG.val (SupG.val SupG.nil))))))) (SupH.cons rfl (supJL rfl) SupH.nil) (lkOk rfl)
  ·
    refine C_exit ?_
    refine K_exT ?_
    refine K_exT ?_
    refine K_exB ?_
    refine K_then ?_
    refine C_seq ?_
    refine C_reg ?_
    refine R1 d_assign rfl ?_
    refine R_nil (by kernel_rfl) ?_
    refine K_then ?_
    refine C_ret ?_
    exact E_ret1 Plain.mk' rfl rfl (Le.bool (by rw [← hT, steps_end (by omega)]))
end An.S

/- Law 24: the lists of the examples. -/
namespace An.S
open Go Go.Proofs An
set_option maxHeartbeats 2000000
theorem fi36 : FnI Tryz.prog 36 := ⟨_, Tryz.func36, by kernel_rfl, rfl⟩
theorem el68 : ElI Tryz.prog 68 7 88 true (.agg #[.int .i64 0, .int .i64 0, .bool false, .slice none 0 0, .bool false, .slice none 0 0, .int .i64 0]) := ⟨ti68, by kernel_rfl, by kernel_rfl⟩
theorem bu68 : BuI Tryz.prog 68 (fun i => [(0, 1), (1, 1), (2, 4), (6, 1)][i]?) (.agg #[.int .i64 0, .int .i64 0, .bool false, .slice none 0 0, .bool false, .slice none 0 0, .int .i64 0]) := BuI.struct Tryz.underlying68 (by kernel_rfl) (by kernel_rfl)
theorem zf68 : Flat 7 true (.agg #[.int .i64 0, .int .i64 0, .bool false, .slice none 0 0, .bool false, .slice none 0 0, .int .i64 0]) := flat_agg (by intro u hu; simp at hu; rcases hu with rfl | rfl | rfl | rfl | rfl | rfl | rfl <;> rfl)
def deal3 : Deal := ⟨0, 12, fr (Rat.divInt 1 3), 7⟩
def dealA : Deal := ⟨0, 9, fr (Rat.divInt 1 2), 3⟩
def dealB : Deal := ⟨0, 9, fr (Rat.divInt 1 2), 1⟩
theorem c_third  :
    Ct Tryz.prog 44 [] (tL 7 true tDeal [deal3]) := by
  refine Ct.intro Tryz.func44 rfl Tryz.ntmps44 rfl ?_
  intro w F
  refine C_seq ?_
  refine C_reg ?_
  refine R1 d_assign rfl ?_
  refine R_nil (by kernel_rfl) ?_
  refine K_then ?_
  refine C_seq ?_
  refine C_reg ?_
  refine R2 (d_call (c_RQuick 1 3 (by decide) (by decide) (by decide) (by decide) (by decide)) fi36 rfl) rfl rfl ?_
  refine RE (d_build (r := tS [⟨1, false, tI 0⟩, ⟨1, false, tI 12⟩, ⟨4, true, tFr (fr (Rat.divInt 1 3))⟩, ⟨1, false, tI 7⟩]) (ts := [(0, tI 0), (1, tI 12), (2, tFr (fr (Rat.divInt 1 3))), (3, tI 7)]) bu68 zr68.2 ⟨_, rfl⟩ rfl ⟨_, _, _, _, rfl, Up.f (fs := [⟨1, false, (tE (.int .i64 0))⟩, ⟨1, false, (tE (.int .i64 0))⟩, ⟨4, true, (tS [⟨2, true, (tS [⟨1, false, (tE (.bool false))⟩, ⟨1, false, (tLm [])⟩])⟩, ⟨2, true, (tS [⟨1, false, (tE (.bool false))⟩, ⟨1, false, (tLm [])⟩])⟩])⟩, ⟨1, false, (tE (.int .i64 0))⟩]) (f := ⟨1, false, (tE (.int .i64 0))⟩) (fs' := [⟨1, false, tI 0⟩, ⟨1, false, (tE (.int .i64 0))⟩, ⟨4, true, (tS [⟨2, true, (tS [⟨1, false, (tE (.bool false))⟩, ⟨1, false, (tLm [])⟩])⟩, ⟨2, true, (tS [⟨1, false, (tE (.bool false))⟩, ⟨1, false, (tLm [])⟩])⟩])⟩, ⟨1, false, (tE (.int .i64 0))⟩]) 0 rfl rfl rfl, inferInstance, ⟨_, _, _, _, rfl, Up.f (fs := [⟨1, false, tI 0⟩, ⟨1, false, (tE (.int .i64 0))⟩, ⟨4, true, (tS [⟨2, true, (tS [⟨1, false, (tE (.bool false))⟩, ⟨1, false, (tLm [])⟩])⟩, ⟨2, true, (tS [⟨1, false, (tE (.bool false))⟩, ⟨1, false, (tLm [])⟩])⟩])⟩, ⟨1, false, (tE (.int .i64 0))⟩]) (f := ⟨1, false, (tE (.int .i64 0))⟩) (fs' := [⟨1, false, tI 0⟩, ⟨1, false, tI 12⟩, ⟨4, true, (tS [⟨2, true, (tS [⟨1, false, (tE (.bool false))⟩, ⟨1, false, (tLm [])⟩])⟩, ⟨2, true, (tS [⟨1, false, (tE (.bool false))⟩, ⟨1, false, (tLm [])⟩])⟩])⟩, ⟨1, false, (tE (.int .i64 0))⟩]) 1 rfl rfl rfl, inferInstance, ⟨_, _, _, _, rfl, Up.f (fs := [⟨1, false, tI 0⟩, ⟨1, false, tI 12⟩, ⟨4, true, (tS [⟨2, true, (tS [⟨1, false, (tE (.bool false))⟩, ⟨1, false, (tLm [])⟩])⟩, ⟨2, true, (tS [⟨1, false, (tE (.bool false))⟩, ⟨1, false, (tLm [])⟩])⟩])⟩, ⟨1, false, (tE (.int .i64 0))⟩]) (f := ⟨4, true, (tS [⟨2, true, (tS [⟨1, false, (tE (.bool false))⟩, ⟨1, false, (tLm [])⟩])⟩, ⟨2, true, (tS [⟨1, false, (tE (.bool false))⟩, ⟨1, false, (tLm [])⟩])⟩])⟩) (fs' := [⟨1, false, tI 0⟩, ⟨1, false, tI 12⟩, ⟨4, true, tFr (fr (Rat.divInt 1 3))⟩, ⟨1, false, (tE (.int .i64 0))⟩]) 2 rfl rfl rfl, inferInstance, ⟨_, _, _, _, rfl, Up.f (fs := [⟨1, false, tI 0⟩, ⟨1, false, tI 12⟩, ⟨4, true, tFr (fr (Rat.divInt 1 3))⟩, ⟨1, false, (tE (.int .i64 0))⟩]) (f := ⟨1, false, (tE (.int .i64 0))⟩) (fs' := [⟨1, false, tI 0⟩, ⟨1, false, tI 12⟩, ⟨4, true, tFr (fr (Rat.divInt 1 3))⟩, ⟨1, false, tI 7⟩]) 3 rfl rfl rfl, inferInstance, Le.refl⟩⟩⟩⟩) ⟨rfl, rfl, rfl, rfl, trivial⟩ trivial trivial ?_
  refine R1 (d_vals (n := 1) (f := tDeal) [deal3] Tryz.underlying22 el68 zf68 rfl (fun _ => inferInstance) rfl rfl rfl) rfl ?_
  refine R1 d_assign rfl ?_
  refine R_nil (by kernel_rfl) ?_
  refine K_then ?_
  refine C_ret ?_
  exact E_ret1 Plain.mk' rfl rfl Le.refl
theorem c_halves  :
    Ct Tryz.prog 41 [] (tL 7 true tDeal [dealA, dealB]) := by
  refine Ct.intro Tryz.func41 rfl Tryz.ntmps41 rfl ?_
  intro w F
  refine C_seq ?_
  refine C_reg ?_
  refine R1 d_assign rfl ?_
  refine R_nil (by kernel_rfl) ?_
  refine K_then ?_
  refine C_seq ?_
  refine C_reg ?_
  refine R2 (d_call (c_RQuick 1 2 (by decide) (by decide) (by decide) (by decide) (by decide)) fi36 rfl) rfl rfl ?_
  refine R3 (d_build (r := tS [⟨1, false, (tE (.int .i64 0))⟩, ⟨1, false, tI 9⟩, ⟨4, true, tFr (fr (Rat.divInt 1 2))⟩, ⟨1, false, tI 3⟩]) (ts := [(1, tI 9), (2, tFr (fr (Rat.divInt 1 2))), (3, tI 3)]) bu68 zr68.2 ⟨_, rfl⟩ rfl ⟨_, _, _, _, rfl, Up.f (fs := [⟨1, false, (tE (.int .i64 0))⟩, ⟨1, false, (tE (.int .i64 0))⟩, ⟨4, true, (tS [⟨2, true, (tS [⟨1, false, (tE (.bool false))⟩, ⟨1, false, (tLm [])⟩])⟩, ⟨2, true, (tS [⟨1, false, (tE (.bool false))⟩, ⟨1, false, (tLm [])⟩])⟩])⟩, ⟨1, false, (tE (.int .i64 0))⟩]) (f := ⟨1, false, (tE (.int .i64 0))⟩) (fs' := [⟨1, false, (tE (.int .i64 0))⟩, ⟨1, false, tI 9⟩, ⟨4, true, (tS [⟨2, true, (tS [⟨1, false, (tE (.bool false))⟩, ⟨1, false, (tLm [])⟩])⟩, ⟨2, true, (tS [⟨1, false, (tE (.bool false))⟩, ⟨1, false, (tLm [])⟩])⟩])⟩, ⟨1, false, (tE (.int .i64 0))⟩]) 1 rfl rfl rfl, inferInstance, ⟨_, _, _, _, rfl, Up.f (fs := [⟨1, false, (tE (.int .i64 0))⟩, ⟨1, false, tI 9⟩, ⟨4, true, (tS [⟨2, true, (tS [⟨1, false, (tE (.bool false))⟩, ⟨1, false, (tLm [])⟩])⟩, ⟨2, true, (tS [⟨1, false, (tE (.bool false))⟩, ⟨1, false, (tLm [])⟩])⟩])⟩, ⟨1, false, (tE (.int .i64 0))⟩]) (f := ⟨4, true, (tS [⟨2, true, (tS [⟨1, false, (tE (.bool false))⟩, ⟨1, false, (tLm [])⟩])⟩, ⟨2, true, (tS [⟨1, false, (tE (.bool false))⟩, ⟨1, false, (tLm [])⟩])⟩])⟩) (fs' := [⟨1, false, (tE (.int .i64 0))⟩, ⟨1, false, tI 9⟩, ⟨4, true, tFr (fr (Rat.divInt 1 2))⟩, ⟨1, false, (tE (.int .i64 0))⟩]) 2 rfl rfl rfl, inferInstance, ⟨_, _, _, _, rfl, Up.f (fs := [⟨1, false, (tE (.int .i64 0))⟩, ⟨1, false, tI 9⟩, ⟨4, true, tFr (fr (Rat.divInt 1 2))⟩, ⟨1, false, (tE (.int .i64 0))⟩]) (f := ⟨1, false, (tE (.int .i64 0))⟩) (fs' := [⟨1, false, (tE (.int .i64 0))⟩, ⟨1, false, tI 9⟩, ⟨4, true, tFr (fr (Rat.divInt 1 2))⟩, ⟨1, false, tI 3⟩]) 3 rfl rfl rfl, inferInstance, Le.refl⟩⟩⟩) rfl rfl rfl ?_
  refine R2 (d_call (c_RQuick 1 2 (by decide) (by decide) (by decide) (by decide) (by decide)) fi36 rfl) rfl rfl ?_
  refine R3 (d_build (r := tS [⟨1, false, (tE (.int .i64 0))⟩, ⟨1, false, tI 9⟩, ⟨4, true, tFr (fr (Rat.divInt 1 2))⟩, ⟨1, false, tI 1⟩]) (ts := [(1, tI 9), (2, tFr (fr (Rat.divInt 1 2))), (3, tI 1)]) bu68 zr68.2 ⟨_, rfl⟩ rfl ⟨_, _, _, _, rfl, Up.f (fs := [⟨1, false, (tE (.int .i64 0))⟩, ⟨1, false, (tE (.int .i64 0))⟩, ⟨4, true, (tS [⟨2, true, (tS [⟨1, false, (tE (.bool false))⟩, ⟨1, false, (tLm [])⟩])⟩, ⟨2, true, (tS [⟨1, false, (tE (.bool false))⟩, ⟨1, false, (tLm [])⟩])⟩])⟩, ⟨1, false, (tE (.int .i64 0))⟩]) (f := ⟨1, false, (tE (.int .i64 0))⟩) (fs' := [⟨1, false, (tE (.int .i64 0))⟩, ⟨1, false, tI 9⟩, ⟨4, true, (tS [⟨2, true, (tS [⟨1, false, (tE (.bool false))⟩, ⟨1, false, (tLm [])⟩])⟩, ⟨2, true, (tS [⟨1, false, (tE (.bool false))⟩, ⟨1, false, (tLm [])⟩])⟩])⟩, ⟨1, false, (tE (.int .i64 0))⟩]) 1 rfl rfl rfl, inferInstance, ⟨_, _, _, _, rfl, Up.f (fs := [⟨1, false, (tE (.int .i64 0))⟩, ⟨1, false, tI 9⟩, ⟨4, true, (tS [⟨2, true, (tS [⟨1, false, (tE (.bool false))⟩, ⟨1, false, (tLm [])⟩])⟩, ⟨2, true, (tS [⟨1, false, (tE (.bool false))⟩, ⟨1, false, (tLm [])⟩])⟩])⟩, ⟨1, false, (tE (.int .i64 0))⟩]) (f := ⟨4, true, (tS [⟨2, true, (tS [⟨1, false, (tE (.bool false))⟩, ⟨1, false, (tLm [])⟩])⟩, ⟨2, true, (tS [⟨1, false, (tE (.bool false))⟩, ⟨1, false, (tLm [])⟩])⟩])⟩) (fs' := [⟨1, false, (tE (.int .i64 0))⟩, ⟨1, false, tI 9⟩, ⟨4, true, tFr (fr (Rat.divInt 1 2))⟩, ⟨1, false, (tE (.int .i64 0))⟩]) 2 rfl rfl rfl, inferInstance, ⟨_, _, _, _, rfl, Up.f (fs := [⟨1, false, (tE (.int .i64 0))⟩, ⟨1, false, tI 9⟩, ⟨4, true, tFr (fr (Rat.divInt 1 2))⟩, ⟨1, false, (tE (.int .i64 0))⟩]) (f := ⟨1, false, (tE (.int .i64 0))⟩) (fs' := [⟨1, false, (tE (.int .i64 0))⟩, ⟨1, false, tI 9⟩, ⟨4, true, tFr (fr (Rat.divInt 1 2))⟩, ⟨1, false, tI 1⟩]) 3 rfl rfl rfl, inferInstance, Le.refl⟩⟩⟩) rfl rfl rfl ?_
  refine R2 (d_vals (n := 2) (f := tDeal) [dealA, dealB] Tryz.underlying22 el68 zf68 rfl (fun _ => inferInstance) rfl rfl rfl) rfl rfl ?_
  refine R1 d_assign rfl ?_
  refine R_nil (by kernel_rfl) ?_
  refine K_then ?_
  refine C_ret ?_
  exact E_ret1 Plain.mk' rfl rfl Le.refl
end An.S

/- Layer 24: what a run of the divider keeps; dividing the negative leads back. Plain data. -/
namespace An
open Go
theorem gset_ne {l : List Int} {i j : Nat} {x : Int} (h : j ≠ i) : (l.set i x).getD j 0 = l.getD j 0 := by
  rw [List.getD_eq_getElem?_getD, List.getD_eq_getElem?_getD, List.getElem?_set_ne (fun e => h e.symm)]
theorem gset_same {l : List Int} {i : Nat} {x : Int} (h : i < l.length) : (l.set i x).getD i 0 = x := by
  rw [getD_set_int h, if_pos rfl]
theorem ext_getD {a b : List Int} (hl : a.length = b.length) (h : ∀ i, i < a.length → a.getD i 0 = b.getD i 0) : a = b := by
  apply List.ext_getElem hl
  intro i h1 h2
  have := h i h1
  simpa [List.getD_eq_getElem?_getD, h1, h2] using this
theorem grep0 {n i : Nat} : (List.replicate n (0 : Int)).getD i 0 = 0 := by
  rw [List.getD_eq_getElem?_getD, List.getElem?_replicate]; split <;> rfl
/-- The rows are long enough for the deals. -/
structure Dv.fit (s : Dv) (n : Nat) : Prop where
  b : s.b.length = n
  p : s.p.length = n
  q : s.q.length = n + 1
theorem Dv.fit.next {l : List Deal} {s : Dv} {n i : Nat} (h : s.fit n) : (dv1 l s i).fit n := ⟨by simp [dv1, h.b], by simp [dv1, h.p], by simp [dv1, h.q]⟩
theorem run_fit {l : List Deal} {n : Nat} : ∀ (is : List Nat) (s : Dv), s.fit n → (dvRun l s is).1.fit n
  | [], s, h => h
  | i :: r, s, h => by
    rw [dvRun]
    split
    · exact run_fit r _ h.next
    · exact ⟨by simp [h.b], h.p, h.q⟩
/-- Deals that don't apply keep what they have. -/
theorem run_keep {l : List Deal} : ∀ (is : List Nat) (s : Dv) (j : Nat), j ∉ is → (dvRun l s is).1.b.getD j 0 = s.b.getD j 0 ∧ (dvRun l s is).1.p.getD j 0 = s.p.getD j 0 ∧ (dvRun l s is).1.q.getD (j + 1) 0 = s.q.getD (j + 1) 0
  | [], s, j, _ => ⟨rfl, rfl, rfl⟩
  | i :: r, s, j, h => by
    simp only [List.mem_cons, not_or] at h
    rw [dvRun]
    split
    · obtain ⟨h1, h2, h3⟩ := run_keep r (dv1 l s i) j h.2
      refine ⟨h1.trans ?_, h2.trans ?_, h3.trans ?_⟩
      · exact gset_ne h.1
      · exact gset_ne h.1
      · exact gset_ne (by omega)
    · exact ⟨gset_ne h.1, rfl, rfl⟩
/-- Each deal has got its share of its base. -/
def Dv.ok (l : List Deal) (s : Dv) (n : Nat) : Prop := ∀ j, j < n → wIn (s.b.getD j 0) = true ∧ s.p.getD j 0 = take (shr l j) (s.b.getD j 0)
theorem Dv.ok.next {l : List Deal} {s : Dv} {n i : Nat} (h : s.ok l n) (hf : s.fit n) (hi : i < n) (hw : wIn (s.n i) = true) : (dv1 l s i).ok l n := fun j hj => by
  have := hf.b; have := hf.p
  simp only [dv1]
  by_cases hji : j = i
  · subst hji
    rw [gset_same (by omega), gset_same (by omega)]
    exact ⟨hw, rfl⟩
  · rw [gset_ne hji, gset_ne hji]
    exact h j hj
theorem run_ok {l : List Deal} {n : Nat} : ∀ (is : List Nat) (s : Dv), (∀ i ∈ is, i < n) → s.fit n → s.ok l n → (dvRun l s is).2 = true → (dvRun l s is).1.ok l n
  | [], s, _, _, h, _ => h
  | i :: r, s, hi, hf, h, ht => by
    rw [dvRun] at ht ⊢
    split at ht
    · rename_i hw
      rw [if_pos hw]
      exact run_ok r _ (fun j hj => hi j (by simp [hj])) hf.next (h.next hf (hi i (by simp)) hw) ht
    · cases ht
theorem dvRun_cons {l : List Deal} (s : Dv) (i : Nat) (r : List Nat) : dvRun l s (i :: r) = if wIn (s.n i) then dvRun l (dv1 l s i) r else (⟨s.b.set i (s.n i), s.p, s.q, s.r⟩, false) := by rw [dvRun]
theorem run_back {l : List Deal} {n : Nat} : ∀ (is : List Nat) (s u : Dv), is.Nodup → (∀ i ∈ is, i < n) → s.fit n → u.fit n → s.ok l n → (dvRun l s is).2 = true → u.r = -s.r →
    (∀ i ∈ is, u.b.getD i 0 = (dvRun l s is).1.b.getD i 0 ∧ u.p.getD i 0 = (dvRun l s is).1.p.getD i 0) →
    (dvRun l u is).2 = true ∧ (dvRun l u is).1.r = -(dvRun l s is).1.r ∧ (∀ j ∈ is, (dvRun l u is).1.b.getD j 0 = s.b.getD j 0 ∧ (dvRun l u is).1.p.getD j 0 = s.p.getD j 0 ∧ (dvRun l u is).1.q.getD (j + 1) 0 = -(dvRun l s is).1.q.getD (j + 1) 0)
  | [], s, u, _, _, _, _, _, _, hr, _ => ⟨rfl, hr, fun j hj => by simp at hj⟩
  | i :: r, s, u, hN, hi, hs, hu, ho, ht, hr, hb => by
    obtain ⟨hN1, hN2⟩ := List.nodup_cons.1 hN
    have hin := hi i (by simp)
    have s1 := hs.b; have s2 := hs.p; have s3 := hs.q; have u1 := hu.b; have u2 := hu.p; have u3 := hu.q
    rw [dvRun_cons s] at ht hb ⊢
    split at ht
    · rename_i hw
      rw [if_pos hw] at hb ⊢
      obtain ⟨k1, k2, k3⟩ := run_keep (l := l) r (dv1 l s i) i hN1
      have e1 : (dv1 l s i).b.getD i 0 = s.n i := gset_same (by omega)
      have e2 : (dv1 l s i).p.getD i 0 = s.pd l i := gset_same (by omega)
      have e3 : (dv1 l s i).q.getD (i + 1) 0 = s.pd l i - s.p.getD i 0 := gset_same (by omega)
      obtain ⟨b1, b2⟩ := hb i (by simp)
      rw [k1, e1] at b1
      rw [k2, e2] at b2
      obtain ⟨o1, o2⟩ := ho i hin
      have hn : u.n i = s.b.getD i 0 := by rw [Dv.n, b1, hr, Dv.n]; omega
      have hpd : u.pd l i = s.p.getD i 0 := by rw [Dv.pd, hn, o2]
      rw [dvRun_cons u, if_pos (by rw [hn]; exact o1)]
      have hur : (dv1 l u i).r = -(dv1 l s i).r := by
        simp only [dv1]; rw [hpd, b2, hr]; omega
      obtain ⟨c1, c2, c3⟩ := run_back r (dv1 l s i) (dv1 l u i) hN2 (fun j hj => hi j (by simp [hj])) hs.next hu.next (ho.next hs hin hw) ht hur (fun j hj => by
        have hji : j ≠ i := fun e => hN1 (e ▸ hj)
        obtain ⟨d1, d2⟩ := hb j (by simp [hj])
        refine ⟨Eq.trans ?_ d1, Eq.trans ?_ d2⟩
        · exact gset_ne hji
        · exact gset_ne hji)
      refine ⟨c1, c2, fun j hj => ?_⟩
      rcases List.mem_cons.1 hj with rfl | hj
      · obtain ⟨m1, m2, m3⟩ := run_keep (l := l) r (dv1 l u j) j hN1
        refine ⟨m1.trans ?_, m2.trans ?_, ?_⟩
        · exact (gset_same (by omega)).trans hn
        · exact (gset_same (by omega)).trans hpd
        · rw [m3, k3, e3]
          refine Eq.trans (gset_same (by omega)) ?_
          rw [hpd, b2]; omega
      · obtain ⟨g1, g2, g3⟩ := c3 j hj
        have hji : j ≠ i := fun e => hN1 (e ▸ hj)
        exact ⟨g1.trans (gset_ne hji), g2.trans (gset_ne hji), g3⟩
    · cases ht
theorem apl_nodup {l : List Deal} {m : Int} : (apl l m).Nodup := List.Pairwise.filter _ List.nodup_range
theorem apl_mem {l : List Deal} {m : Int} : ∀ i ∈ apl l m, i < l.length := fun _ hi => List.mem_range.1 (List.mem_filter.1 hi).1
theorem fit0 {l : List Deal} {b p : List Int} {a : Int} (hb : b.length = l.length) (hp : p.length = l.length) : (Dv.mk b p (List.replicate (l.length + 1) 0) a).fit l.length := ⟨hb, hp, by simp⟩
end An

/- Layer 24: the exact shares. Plain data. -/
namespace An
open Go
/-- The shares so far, and what is left. -/
structure Sh where
  q : List Fr
  r : Rat
def sh1 (l : List Deal) (s : Sh) (i : Nat) : Sh := ⟨s.q.set (i + 1) (fr (s.r * shr l i)), s.r - s.r * shr l i⟩
def shRun (l : List Deal) : Sh → List Nat → Sh
  | s, [] => s
  | s, i :: r => shRun l (sh1 l s i) r
/-- The shares' row while it is filled with zeros. -/
def sh0 (n i : Nat) : List Fr := List.replicate i (fr ((0 : Int) : Rat)) ++ List.replicate (n - i) fr0
theorem sh0_zero {n : Nat} : sh0 n 0 = List.replicate n fr0 := by simp [sh0]
theorem sh0_full {n : Nat} : sh0 n n = List.replicate n (fr ((0 : Int) : Rat)) := by simp [sh0]
theorem sh0_len {n i : Nat} (h : i ≤ n) : (sh0 n i).length = n := by simp [sh0]; omega
theorem sh0_set {n i : Nat} (h : i < n) : (sh0 n i).set i (fr ((0 : Int) : Rat)) = sh0 n (i + 1) := by
  apply List.ext_getElem?
  intro j
  rw [List.getElem?_set]
  simp only [sh0, List.getElem?_append, List.length_replicate, List.length_append, List.getElem?_replicate]
  repeat' split
  all_goals first | rfl | (exfalso; omega)
structure ShI (l : List Deal) (k : Nat) (s : Sh) : Prop where
  q : s.q.length = l.length + 1
  lo : 0 ≤ s.r
  hi : s.r ≤ 1
  den : len16 (s.r.den : Int) ≤ 4 * k + 1
theorem num_le_den {q : Rat} (h0 : 0 ≤ q) (h1 : q ≤ 1) : len16 q.num ≤ len16 (q.den : Int) := by
  have h2 : 0 ≤ q.num := Rat.num_nonneg.2 h0
  have h3 : q.num ≤ (q.den : Int) := by
    have := (Rat.le_iff q 1).1 h1
    simpa using this
  exact len16_le (by omega)
theorem one_sub_den (q : Rat) : len16 ((1 - q).den : Int) ≤ len16 (q.den : Int) := by
  have hd := q.den_nz
  have h := lowest_eq (n := (q.den : Int) - q.num) (d := (q.den : Int)) (by omega)
  have e : Rat.divInt ((q.den : Int) - q.num) (q.den : Int) = 1 - q := by
    rw [Rat.divInt_eq_div]
    have h2 : ((q.den : Int) : Rat) ≠ 0 := by
      intro h'; have := Rat.intCast_eq_zero_iff.1 h'; omega
    rw [Rat.intCast_sub]
    have h3 : (q.num : Rat) / ((q.den : Int) : Rat) = q := by
      rw [← Rat.divInt_eq_div, Rat.num_divInt_den]
    grind
  rw [e, fr] at h
  injection h with _ h2
  rw [wh_inj h2]
  exact len16_div (Nat.le_refl _)
/-- The parts of a valid share are short. -/
theorem shr_len {l : List Deal} {i : Nat} (hv : validL l = true) (hD : ∀ d ∈ l, d.share.dig) (hi : i < l.length) : len16 (shr l i).num ≤ 4 ∧ len16 ((shr l i).den : Int) ≤ 4 ∧ (l.getD i deal0).share = fr (shr l i) := by
  obtain ⟨_, _, _, v1, v2, v3, v4, v5, _⟩ := Deal.valid_iff.1 (validL_at hv hi)
  have e' : l.getD i deal0 = l[i] := by simp [hi]
  obtain ⟨e, _⟩ := Fr.of_valid' (by rw [e']; exact hD _ (List.getElem_mem hi)) v1
  rw [e] at v4 v5
  exact ⟨v4, v5, e⟩
theorem short_lt {q : Rat} (h1 : len16 q.num ≤ 256) (h2 : len16 (q.den : Int) ≤ 256) : short q := ⟨h1, h2⟩
section
variable {l : List Deal} {k : Nat} {s : Sh} {i : Nat}
theorem ShI.short (h : ShI l k s) (hk : k ≤ 16) : short s.r := by
  have := num_le_den h.lo h.hi
  have := h.den
  exact short_lt (by omega) (by omega)
theorem ShI.shortM (h : ShI l k s) (hk : k ≤ 16) (hv : validL l = true) (hD : ∀ d ∈ l, d.share.dig) (hi : i < l.length) : An.short (s.r * shr l i) := by
  have h1 := num_le_den h.lo h.hi
  have h2 := h.den
  obtain ⟨s1, s2, _⟩ := shr_len hv hD hi
  obtain ⟨m1, m2⟩ := len_mul_parts (Nat.le_trans h1 h2) s1 h2 s2
  exact short_lt (by omega) (by omega)
theorem ShI.next (h : ShI l k s) (hv : validL l = true) (hD : ∀ d ∈ l, d.share.dig) (hi : i < l.length) : ShI l (k + 1) (sh1 l s i) := by
  obtain ⟨s1, s2, _⟩ := shr_len hv hD hi
  obtain ⟨q0, q1⟩ := shr_bd hv hD hi
  have e : s.r - s.r * shr l i = s.r * (1 - shr l i) := by grind
  have h0 : 0 ≤ 1 - shr l i := by grind
  have h1 : 1 - shr l i ≤ 1 := by grind
  have lo := Rat.mul_nonneg h.lo h0
  have hi' : s.r * (1 - shr l i) ≤ 1 := by
    have := Rat.mul_le_mul_of_nonneg_right h.hi h0
    grind
  refine ⟨by simp [sh1, h.q], by simp only [sh1]; rw [e]; exact lo, by simp only [sh1]; rw [e]; exact hi', ?_⟩
  simp only [sh1]
  rw [e]
  have hn := num_le_den h.lo h.hi
  have hn2 := num_le_den h0 h1
  have hd := one_sub_den (shr l i)
  have := (len_mul_parts (Nat.le_trans hn h.den) (Nat.le_trans hn2 (Nat.le_trans hd s2)) h.den (Nat.le_trans hd s2)).2
  omega
theorem shI0 {l : List Deal} : ShI l 0 ⟨List.replicate (l.length + 1) (fr ((0 : Int) : Rat)), ((1 : Int) : Rat)⟩ := by
  refine ⟨by simp, (by decide +kernel : (0 : Rat) ≤ ((1 : Int) : Rat)), (by decide +kernel : ((1 : Int) : Rat) ≤ 1), ?_⟩
  show len16 ((((1 : Int) : Rat).den : Nat) : Int) ≤ 1
  rw [Rat.den_intCast]
  show (wh 1).l.length ≤ 1
  rw [wh_one]; decide
end
theorem sh_next {l : List Deal} {s : Sh} {is : List Nat} {k : Nat} {X : Sh} (hk : k < is.length) (h : shRun l s (is.drop k) = X) : shRun l (sh1 l s (is.getD k 0)) (is.drop (k + 1)) = X := by
  rw [drop_at hk, shRun] at h; exact h
theorem sh_end {l : List Deal} {s : Sh} {is : List Nat} {X : Sh} (h : shRun l s (is.drop is.length) = X) : X = s := by
  rw [List.drop_length, shRun] at h; exact h.symm
def shAll (l : List Deal) (m : Int) : Sh := shRun l ⟨List.replicate (l.length + 1) (fr ((0 : Int) : Rat)), ((1 : Int) : Rat)⟩ (apl l m)
def shBad (l : List Deal) (m : Int) : Bool := !validL l || decide (m < 0) || decide (1048576 < m)
end An

/- Package split: the exact shares. -/
namespace An.S
open Go Go.Proofs An
set_option maxHeartbeats 2000000
theorem ti43 : TyI Tryz.prog 43 1 false := ⟨by kernel_rfl, by kernel_rfl⟩
theorem fi26 : FnI Tryz.prog 26 := ⟨_, Tryz.func26, by kernel_rfl, rfl⟩
theorem zr43 : (Tryz.prog.info? 43).bind (·.zero) = some (.slice none 0 0) ∧ ∀ F w, (tE (.slice none 0 0)).p F w (.slice none 0 0) := ⟨by kernel_rfl, fun _ _ => rfl⟩
theorem c_FMulV (r : Rat) (l : List Deal) (i : Nat) (hv : validL l = true) (hD : ∀ d ∈ l, d.share.dig) (hi : i < l.length) (h1 : short r) (h2 : short (r * shr l i)) : Ct Tryz.prog 25 [tFr (fr r), tFr (l.getD i deal0).share] (tT [tFr (fr (r * shr l i)), tI 0]) := by
  obtain ⟨s1, s2, e⟩ := shr_len hv hD hi
  have h := c_FMul r (shr l i) h1 (short_lt (by omega) (by omega))
  rw [resF, resFE, if_pos h2, if_pos h2] at h
  rw [e]; exact h
theorem c_FSubS (a b : Rat) (h1 : short a) (h2 : short b) (h3 : short (a - b)) : Ct Tryz.prog 26 [tFr (fr a), tFr (fr b)] (tT [tFr (fr (a - b)), tI 0]) := by
  have h := c_FSub a b h1 h2
  rw [resF, resFE, if_pos h3, if_pos h3] at h
  exact h
theorem rV_rep0 (n : Nat) : List.replicate n (Ent.val (tFr fr0)) = rV tFr (sh0 n 0) := by rw [sh0_zero]; exact rV_rep n fr0 rfl
theorem c_Shares (l : List Deal) (m : Int) (hd : ∀ d ∈ l, d.share.dig) :
    Ct Tryz.prog 21 [tL 7 true tDeal l, tI m] (tT [tL 4 true tFr (bif shBad l m then [] else ((shAll l m)).q.set 0 (fr ((shAll l m)).r)), tI (bif shBad l m then 2 else 0)]) := by
  refine Ct.intro Tryz.func21 rfl Tryz.ntmps21 rfl ?_
  intro w F
  refine C_seq ?_
  refine C_reg ?_
  refine R1 d_assign rfl ?_
  refine R1 d_assign rfl ?_
  refine R_nil (by kernel_rfl) ?_
  refine K_then ?_
  refine C_seq ?_
  refine C_seq ?_
  refine C_reg ?_
  refine R1 d_move rfl ?_
  refine R1 (d_call (c_SValid l hd) fi19 rfl) rfl ?_
  refine R1 d_not rfl ?_
  refine R1 d_move rfl ?_
  refine RGcase (t := 14) rfl (fun h164 => ?_) (fun h164 => ?_)
  ·
    have hB : shBad l m = true := by rw [shBad, h164]; rfl
    refine RGoff h164 rfl rfl ?_
    refine RGoff h164 rfl rfl ?_
    refine R2 (d_pickT h164) rfl rfl ?_
    refine R1 d_move rfl ?_
    refine RGoff1 rfl rfl ?_
    refine RGoff1 rfl rfl ?_
    refine R2 (d_pickT rfl) rfl rfl ?_
    refine R_nil (by kernel_rfl) ?_
    refine K_then ?_
    refine C_bT rfl rfl ?_
    refine C_seq ?_
    refine C_reg ?_
    refine R1 d_assign rfl ?_
    refine R1 d_assign rfl ?_
    refine R_nil (by kernel_rfl) ?_
    refine K_then ?_
    refine C_ret ?_
    refine K_retT ?_
    exact E_ret2 Plain.mk' rfl rfl rfl (leNil (by rw [hB]; rfl)) (Le.int (by rw [hB]; rfl))
  ·
    have hv : validL l = true := by rw [Bool.not_eq_false'] at h164; exact h164
    have hl16 := validL_len hv
    refine RGon h164 rfl d_move rfl ⟨rfl, trivial⟩ trivial trivial ?_
    refine RGon h164 rfl d_lss rfl ⟨rfl, rfl, trivial⟩ trivial trivial ?_
    refine R2 (d_pickF h164) rfl rfl ?_
    refine R1 d_move rfl ?_
    refine RGcaseD (t := 18) rfl (fun h164_2 => ?_) (fun h164_2 => ?_)
    ·
      have hB : shBad l m = true := by rw [shBad, decide_eq_true h164_2]; simp
      refine RGoff (decide_eq_true h164_2) rfl rfl ?_
      refine RGoff (decide_eq_true h164_2) rfl rfl ?_
      refine R2 (d_pickT (decide_eq_true h164_2)) rfl rfl ?_
      refine R_nil (by kernel_rfl) ?_
      refine K_then ?_
      refine C_bT rfl rfl ?_
      refine C_seq ?_
      refine C_reg ?_
      refine R1 d_assign rfl ?_
      refine R1 d_assign rfl ?_
      refine R_nil (by kernel_rfl) ?_
      refine K_then ?_
      refine C_ret ?_
      refine K_retT ?_
      exact E_ret2 Plain.mk' rfl rfl rfl (leNil (by rw [hB]; rfl)) (Le.int (by rw [hB]; rfl))
    ·
      refine RGon (decide_eq_false h164_2) rfl d_move rfl ⟨rfl, trivial⟩ trivial trivial ?_
      refine RGon (decide_eq_false h164_2) rfl d_gtr rfl ⟨rfl, rfl, trivial⟩ trivial trivial ?_
      refine R2 (d_pickF (decide_eq_false h164_2)) rfl rfl ?_
      refine R_nil (by kernel_rfl) ?_
      refine K_then ?_
      refine C_if rfl (fun h164_3 => ?_) (fun h164_3 => ?_)
      ·
        have hB : shBad l m = true := by rw [shBad, decide_eq_true h164_3]; simp
        refine C_seq ?_
        refine C_reg ?_
        refine R1 d_assign rfl ?_
        refine R1 d_assign rfl ?_
        refine R_nil (by kernel_rfl) ?_
        refine K_then ?_
        refine C_ret ?_
        refine K_retT ?_
        exact E_ret2 Plain.mk' rfl rfl rfl (leNil (by rw [hB]; rfl)) (Le.int (by rw [hB]; rfl))
      ·
        have hB : shBad l m = false := by rw [shBad, hv, decide_eq_false h164_2, decide_eq_false h164_3]; rfl
        refine C_skip ?_
        refine K_then ?_
        refine C_seq ?_
        refine C_reg ?_
        refine R1 d_move rfl ?_
        refine R1 (d_len Tryz.underlying22) rfl ?_
        refine R2 (d_add (by first | exact wr64 (by omega) (by omega))) rfl rfl ?_
        refine RE (d_makeO (k := 25) (t := tFr fr0) (ts := rV tFr (sh0 (l.length + 1) 0)) (l.length + 1) (l.length + 1) Tryz.underlying43 el50 zr50.2 rfl (by omega) (by omega) (Nat.le_refl _) (by omega) (by omega) (rV_rep0 _)) ⟨rfl, rfl, trivial⟩ trivial ⟨rfl, trivial⟩ ?_
        refine RE (d_alloc (k := 6) (n := 1) (agg := false) zr43.1 zr43.2 rfl) trivial trivial ⟨rfl, trivial⟩ ?_
        refine RE (d_store (es := 1) (agg := false) (0) ti43 rfl rfl rfl) ⟨rfl, rfl, trivial⟩ ⟨rfl, trivial⟩ trivial ?_
        refine R_nil (by kernel_rfl) ?_
        refine K_then ?_
        refine C_seq ?_
        refine C_seq ?_
        refine C_reg ?_
        refine RE (d_load (0) ti43 rfl rfl) ⟨rfl, trivial⟩ ⟨rfl, trivial⟩ trivial ?_
        refine R1 (d_lenO Tryz.underlying43) rfl ?_
        refine R1 d_move rfl ?_
        refine R_nil (by kernel_rfl) ?_
        refine K_then ?_
        refine C_block ?_
        refine C_loop (fun (i : Nat) => i ≤ l.length + 1) (fun (i : Nat) => upd (upd (upd (upd (upd (fun _ => none) 0 (some (.val (tL 7 true tDeal l)))) 1 (some (.val (tI m)))) 6 (some (.own (.ptr 6 0)))) 27 (some (.val (tI ((l.length + 1 : Nat) : Int))))) 28 (some (.val (tI i)))) (fun (i : Nat) => upd (upd (fun _ => none) 6 (some (⟨43, 1, false, [.own (.sl 25 4 0 (l.length + 1))]⟩))) 25 (some (⟨50, 4, true, rV tFr (sh0 (l.length + 1) i)⟩))) (nm [6, 25]) (fun (i : Nat) => l.length + 1 - i) (0) (Nat.zero_le _) (Sub.int rfl (by first | omega | rfl | (dsimp only; omega)) (Sub.int rfl (by first | omega | rfl | (dsimp only; omega)) (Sub.cons rfl (Sub.int rfl (by first | omega | rfl | (dsimp only; omega)) (Sub.cons rfl Sub.nil))))) (SubK.cons rfl (SubK.cons rfl SubK.nil)) (SupG.val (SupG.val (SupG.own rfl (SupG.val (SupG.val SupG.nil))))) (SupH.cons rfl (supJ sup_rV) (SupH.cons rfl (supJL rfl) SupH.nil)) (lkOk rfl) ?_
        intro i hI
        refine C_seq ?_
        refine C_reg ?_
        refine R2 d_lss rfl rfl ?_
        refine R_nil (by kernel_rfl) ?_
        refine K_then ?_
        refine C_seq ?_
        refine C_if rfl (fun h168 => ?_) (fun h168 => ?_)
        ·
          refine C_skip ?_
          refine K_then ?_
          refine C_seq ?_
          refine C_block ?_
          refine C_seq ?_
          refine C_reg ?_
          refine R1 d_move rfl ?_
          refine R1 d_assign rfl ?_
          refine R_nil (by kernel_rfl) ?_
          refine K_then ?_
          refine C_draw mixed ?_
          refine RE (d_load (0) ti43 rfl rfl) ⟨rfl, trivial⟩ ⟨rfl, trivial⟩ trivial ?_
          refine R1 d_move rfl ?_
          refine R1 (d_call (c_FFromInt 0 (by decide) (by decide)) fi22 rfl) rfl ?_
          refine R2 (d_indexO sl43 (by omega) (by omega) rfl) rfl rfl ?_
          refine RE (d_store (i) ti50 (rV_lt (by rw [sh0_len (by omega)]; omega)) (by omega) (rV_set (m := fr ((0 : Int) : Rat)) rfl)) ⟨rfl, rfl, trivial⟩ ⟨rfl, trivial⟩ trivial ?_
          refine R_end (by kernel_rfl) ?_
          refine K_norB ?_
          refine K_then ?_
          refine C_reg ?_
          refine R2 (d_add (by first | exact wr64 (by omega) (by omega))) rfl rfl ?_
          refine R1 d_move rfl ?_
          refine R_nil (by kernel_rfl) ?_
          exact K_fam (i + 1) ⟨(by omega), (by omega)⟩ (Sub.int rfl (by first | omega | rfl | (dsimp only; omega)) (Sub.int rfl (by first | omega | rfl | (dsimp only; omega)) (Sub.cons rfl (Sub.int rfl (by first | omega | rfl | (dsimp only; omega)) (Sub.cons rfl Sub.nil))))) (SubK.cons (by rw [sh0_set (by omega)]; rfl) (SubK.cons rfl SubK.nil)) (SupG.val (SupG.val (SupG.own rfl (SupG.val (SupG.val SupG.nil))))) (SupH.cons rfl (supJ sup_rV) (SupH.cons rfl (supJL rfl) SupH.nil)) (lkOk rfl)
        ·
          refine C_exit ?_
          refine K_exT ?_
          refine K_exT ?_
          refine K_exB ?_
          refine K_then ?_
          refine C_seq ?_
          refine C_reg ?_
          refine R1 (d_call (c_FFromInt 1 (by decide) (by decide)) fi22 rfl) rfl ?_
          refine RE (d_alloc (k := 8) (n := 4) (agg := true) zr50.1 zr50.2 rfl) trivial trivial ⟨rfl, trivial⟩ ?_
          refine RE (d_store (es := 4) (agg := true) (0) ti50 rfl rfl rfl) ⟨rfl, rfl, trivial⟩ ⟨rfl, trivial⟩ trivial ?_
          refine R_nil (by kernel_rfl) ?_
          refine K_then ?_
          refine C_seq ?_
          refine C_seq ?_
          refine C_reg ?_
          refine R1 d_move rfl ?_
          refine R1 d_move rfl ?_
          refine RE (d_callGX (fun j => cond (Nat.beq j 2) 39 (1039)) (c_applying l m) fi50 rfl (krN (ρ := fun j => cond (Nat.beq j 2) 39 (1039))) (krC (ρ := fun j => cond (Nat.beq j 2) 39 (1039)) (k := 2) rfl (krC (ρ := fun j => cond (Nat.beq j 2) 39 (1039)) (k := 3) rfl (krN (ρ := fun j => cond (Nat.beq j 2) 39 (1039))))) ⟨⟨rfl, (SupX.lit rfl)⟩, ⟨rfl, (SupX.lit rfl)⟩, trivial⟩ rfl) ⟨rfl, rfl, trivial⟩ trivial ⟨rfl, rfl, trivial⟩ ?_
          refine R_nil (by kernel_rfl) ?_
          refine K_then ?_
          refine C_block ?_
          refine C_range (caps := [.ptr 1 0, .ptr 2 0]) (κ := Empty) (fun j => cond (Nat.beq j 2) 1039 (cond (Nat.beq j 1) 39 (j))) rfl (fun _ h => h) trivial (i_applying l m hl16) fi81 rfl ⟨rfl, rfl, trivial⟩ rfl rfl (fun _ _ => rfl) (upd (upd (fun _ => none) 6 (some (.own (.ptr 6 0)))) 8 (some (.own (.ptr 8 0)))) [6, 8, 25] [6, 8] (Sub.cons rfl (Sub.cons rfl Sub.nil)) (SupG.own rfl (SupG.own rfl SupG.nil)) rfl (lkOk rfl) (fun (k : Nat) (s : Sh) => ShI l k s ∧ shRun l s ((apl l m).drop k) = (shAll l m)) (fun (k : Nat) (s : Sh) => upd (upd (upd (fun _ => none) 6 (some (⟨43, 1, false, [.own (.sl 25 4 0 (l.length + 1))]⟩))) 8 (some (⟨50, 4, true, [.val (tFr (fr s.r))]⟩))) 25 (some (⟨50, 4, true, rV tFr s.q⟩))) (fun k x => (SupH.cons rfl (supJ sup_rV) (SupH.cons rfl (supJL rfl) (SupH.cons rfl (supJL rfl) SupH.nil)))) (fun k x y hy => by simp only [List.mem_cons, List.not_mem_nil, or_false] at hy; rcases hy with rfl | rfl <;> rfl) (fun _ _ => False) (fun i => i.elim) (fun _ _ h => h.elim) (⟨List.replicate (l.length + 1) (fr ((0 : Int) : Rat)), ((1 : Int) : Rat)⟩) ⟨shI0, rfl⟩ (SubK.cons (by rw [show i = l.length + 1 by omega, sh0_full]; rfl) (SubK.cons rfl (SubK.cons rfl SubK.nil))) ?_ ?_ ?_
          ·
            intro D lp o1 o2 O W lη lb V0 k s hk hI
            obtain ⟨hv1, hrun⟩ := hI
            have hql := hv1.q
            have hN := apl_len (l := l) (m := m)
            obtain ⟨hi, hon⟩ := apl_lt hk
            have hs1 := hv1.short (by omega)
            have hs2 := hv1.shortM (by omega) hv hd hi
            have hnx := hv1.next hv hd hi
            have hs3 := hnx.short (by omega)
            apply rnd_mk
            ·
              refine C_seq ?_
              refine C_reg ?_
              refine R1 d_assign rfl ?_
              refine R_nil (by kernel_rfl) ?_
              refine K_then ?_
              refine C_reg ?_
              refine RE (d_alloc (k := 10) (n := 7) (agg := true) zr68.1 zr68.2 rfl) trivial trivial ⟨rfl, trivial⟩ ?_
              refine RE (d_store (es := 7) (agg := true) (0) ti68 rfl rfl rfl) ⟨rfl, rfl, trivial⟩ ⟨rfl, trivial⟩ trivial ?_
              refine R_nil (by kernel_rfl) ?_
              exact K_thenF fun _ _ h => h
            ·
              refine C_block ?_
              refine C_seq ?_
              refine C_draw mixed ?_
              refine RE (d_load (0) ti43 rfl rfl) ⟨rfl, trivial⟩ ⟨rfl, trivial⟩ trivial ?_
              refine R1 d_move rfl ?_
              refine R2 (d_add (by first | exact wr64 (by omega) (by omega))) rfl rfl ?_
              refine RE (d_load (0) ti50 rfl rfl) ⟨rfl, trivial⟩ ⟨rfl, trivial⟩ trivial ?_
              refine R1 (d_fieldO fo68_2 rfl) rfl ?_
              refine R_loadF (0) ti50 rfl rfl rfl (At.g 2 rfl rfl) rfl ?_
              refine R2 (d_call (c_FMulV s.r l ((apl l m).getD k 0) hv hd hi hs1 hs2) fi25 rfl) rfl rfl ?_
              refine R1 d_move rfl ?_
              refine R1 (d_extract rfl) rfl ?_
              refine R1 (d_extract rfl) rfl ?_
              refine R2 (d_indexO sl43 (by omega) (by omega) rfl) rfl rfl ?_
              refine RE (d_store (((apl l m).getD k 0) + 1) ti50 (rV_lt (by omega)) (by omega) (rV_set (m := fr (s.r * shr l ((apl l m).getD k 0))) rfl)) ⟨rfl, rfl, trivial⟩ ⟨rfl, trivial⟩ trivial ?_
              refine R_end (by kernel_rfl) ?_
              refine K_then ?_
              refine C_draw mixed ?_
              refine RE (d_load (0) ti50 rfl rfl) ⟨rfl, trivial⟩ ⟨rfl, trivial⟩ trivial ?_
              refine RE (d_load (0) ti43 rfl rfl) ⟨rfl, trivial⟩ ⟨rfl, trivial⟩ trivial ?_
              refine R1 d_move rfl ?_
              refine R2 (d_add (by first | exact wr64 (by omega) (by omega))) rfl rfl ?_
              refine R2 (d_indexO sl43 (by omega) (by omega) rfl) rfl rfl ?_
              refine RE (d_load (((apl l m).getD k 0) + 1) ti50 (rV_get_set (by omega)) (by omega)) ⟨rfl, trivial⟩ ⟨rfl, trivial⟩ trivial ?_
              refine R2 (d_call (c_FSubS s.r (s.r * shr l ((apl l m).getD k 0)) hs1 hs2 hs3) fi26 rfl) rfl rfl ?_
              refine R1 d_move rfl ?_
              refine R1 (d_extract rfl) rfl ?_
              refine R1 (d_extract rfl) rfl ?_
              refine RE (d_store (es := 4) (agg := true) (0) ti50 rfl rfl rfl) ⟨rfl, rfl, trivial⟩ ⟨rfl, trivial⟩ trivial ?_
              refine R_end (by kernel_rfl) ?_
              refine K_norB ?_
              exact K_rnd (sh1 l s ((apl l m).getD k 0)) ⟨hnx, sh_next hk hrun⟩ (SubK.cons rfl (SubK.cons rfl (SubK.cons rfl SubK.nil))) (SupH.cons rfl (supJ sup_rV) (SupH.cons rfl (supJL rfl) (SupH.cons rfl (supJL rfl) SupH.nil))) (lkOk rfl)
          ·
            intro D hD s hI
            obtain ⟨hv1, hrun⟩ := hI
            have hql := hv1.q
            have hR := sh_end hrun
            refine K_norB ?_
            refine K_then ?_
            refine C_seq ?_
            refine C_reg ?_
            refine RE (d_load (0) ti43 rfl rfl) ⟨rfl, trivial⟩ ⟨rfl, trivial⟩ trivial ?_
            refine RE (d_load (0) ti50 rfl rfl) ⟨rfl, trivial⟩ ⟨rfl, trivial⟩ trivial ?_
            refine R2 (d_indexO sl43 (by omega) (by omega) rfl) rfl rfl ?_
            refine RE (d_store (0) ti50 (rV_lt (by omega)) (by omega) (rV_set (m := fr s.r) rfl)) ⟨rfl, rfl, trivial⟩ ⟨rfl, trivial⟩ trivial ?_
            refine R_nil (by kernel_rfl) ?_
            refine K_then ?_
            refine C_seq ?_
            refine C_reg ?_
            refine RE (d_load (0) ti43 rfl rfl) ⟨rfl, trivial⟩ ⟨rfl, trivial⟩ trivial ?_
            refine RE (d_assignS (f := tFr) (xs := s.q.set 0 (fr s.r)) (fun _ h => h) (rV_all (by rw [List.length_set]; exact hql)) (by rw [List.length_set]; exact hql)) ⟨rfl, trivial⟩ ⟨rfl, trivial⟩ trivial ?_
            refine R1 d_assign rfl ?_
            refine R_nil (by kernel_rfl) ?_
            refine K_then ?_
            refine C_ret ?_
            exact E_ret2 (Plain.loop Plain.mk' hD) rfl rfl rfl (Le.of (by rw [hB, hR]; rfl)) (Le.int (by rw [hB]; rfl))
          ·
            intro D hD e i; exact i.elim
end An.S

/- Law 24: the examples of the chapter hold. -/
namespace An.S
open Go Go.Proofs An
set_option maxHeartbeats 2000000
set_option maxRecDepth 100000
theorem fi21 : FnI Tryz.prog 21 := ⟨_, Tryz.func21, by kernel_rfl, rfl⟩
theorem fi41 : FnI Tryz.prog 41 := ⟨_, Tryz.func41, by kernel_rfl, rfl⟩
theorem fi42 : FnI Tryz.prog 42 := ⟨_, Tryz.func42, by kernel_rfl, rfl⟩
theorem fi43 : FnI Tryz.prog 43 := ⟨_, Tryz.func43, by kernel_rfl, rfl⟩
theorem fi44 : FnI Tryz.prog 44 := ⟨_, Tryz.func44, by kernel_rfl, rfl⟩
theorem el23 : ElI Tryz.prog 23 1 24 false (.slice none 0 0) := ⟨ti23, by kernel_rfl, by kernel_rfl⟩
theorem zf23 : Flat 1 false (.slice none 0 0) := flat_one rfl
theorem dig_fr (q : Rat) : (fr q).dig := ⟨dig_Dig two_le_L _, dig_Dig two_le_L _⟩
theorem digH : ∀ d ∈ [dealA, dealB], d.share.dig := fun d hd => by
  simp only [List.mem_cons, List.not_mem_nil, or_false] at hd
  rcases hd with rfl | rfl <;> exact dig_fr _
theorem digA : ∀ d ∈ [dealA], d.share.dig := fun d hd => by
  simp only [List.mem_cons, List.not_mem_nil, or_false] at hd
  subst hd; exact dig_fr _
theorem dig3 : ∀ d ∈ [deal3], d.share.dig := fun d hd => by
  simp only [List.mem_cons, List.not_mem_nil, or_false] at hd
  subst hd; exact dig_fr _
theorem c_SharesH : Ct Tryz.prog 21 [tL 7 true tDeal [dealA, dealB], tI 4] (tT [tL 4 true tFr [fr (Rat.divInt 1 4), fr (Rat.divInt 1 2), fr (Rat.divInt 1 4)], tI 0]) := by
  have h := c_Shares [dealA, dealB] 4 digH
  have e1 : (bif shBad [dealA, dealB] 4 then [] else (shAll [dealA, dealB] 4).q.set 0 (fr (shAll [dealA, dealB] 4).r)) = [fr (Rat.divInt 1 4), fr (Rat.divInt 1 2), fr (Rat.divInt 1 4)] := by decide +kernel
  have e2 : (bif shBad [dealA, dealB] 4 then 2 else 0 : Int) = 0 := by decide +kernel
  rw [e1, e2] at h; exact h
theorem c_sameT (f : Fr) : Ct Tryz.prog 42 [tFr f, tFr f] (tB true) := by
  have h := c_R2Same f f
  rw [decide_eq_true rfl] at h; exact h
theorem c_stepsT (l : List Deal) (m : Int) (us : List Int) (ws : List (List Int)) (hv : validL l = true) (hd : ∀ d ∈ l, d.share.dig) (hw : us.length ≤ ws.length) (hT : stepsL l m 0 (List.replicate l.length 0) (List.replicate l.length 0) us ws = true) :
    Ct Tryz.prog 43 [tL 7 true tDeal l, tI m, tIs us, tL 1 false (fun x : List Int => tIs x) ws] (tB true) := by
  have h := c_steps l m us ws hv hd hw
  rw [hT] at h; exact h
theorem c_awake  :
    Ct Tryz.prog 11 [] (tB true) := by
  refine Ct.intro Tryz.func11 rfl Tryz.ntmps11 rfl ?_
  intro w F
  refine C_seq ?_
  refine C_reg ?_
  refine R1 d_assign rfl ?_
  refine R_nil (by kernel_rfl) ?_
  refine K_then ?_
  refine C_seq ?_
  refine C_reg ?_
  refine R0 (d_call c_halves fi41 rfl)  ?_
  refine R2 (d_call c_SharesH fi21 rfl) rfl rfl ?_
  refine R1 d_move rfl ?_
  refine R1 (d_extract rfl) rfl ?_
  refine R1 (d_extract rfl) rfl ?_
  refine R1 d_assign rfl ?_
  refine R1 d_assign rfl ?_
  refine R_nil (by kernel_rfl) ?_
  refine K_then ?_
  refine C_seq ?_
  refine C_seq ?_
  refine C_draw mixed ?_
  refine R1 d_move rfl ?_
  refine R2 d_neq rfl rfl ?_
  refine R1 d_move rfl ?_
  refine RGon (decide_eq_false (by omega)) rfl d_move rfl ⟨rfl, trivial⟩ trivial trivial ?_
  refine RGon (decide_eq_false (by omega)) rfl (d_len Tryz.underlying43) rfl ⟨rfl, trivial⟩ trivial trivial ?_
  refine RGon (decide_eq_false (by omega)) rfl d_neq rfl ⟨rfl, rfl, trivial⟩ trivial trivial ?_
  refine R2 (d_pickF (decide_eq_false (by omega))) rfl rfl ?_
  refine R1 d_move rfl ?_
  refine RGon (decide_eq_false (by simp)) rfl d_move rfl ⟨rfl, trivial⟩ trivial trivial ?_
  refine RGon (decide_eq_false (by simp)) rfl (d_indexP sl43 0 rfl rfl) rfl ⟨rfl, rfl, trivial⟩ trivial trivial ?_
  refine RGon (decide_eq_false (by simp)) rfl (d_loadP ti50) rfl ⟨rfl, trivial⟩ trivial trivial ?_
  refine RGon (decide_eq_false (by simp)) rfl (d_call (c_RQuick 1 4 (by decide) (by decide) (by decide) (by decide) (by decide)) fi36 rfl) rfl ⟨rfl, rfl, trivial⟩ trivial trivial ?_
  refine RGon (decide_eq_false (by simp)) rfl (d_call (c_sameT _) fi42 rfl) rfl ⟨rfl, rfl, trivial⟩ trivial trivial ?_
  refine RGon (decide_eq_false (by simp)) rfl d_not rfl ⟨rfl, trivial⟩ trivial trivial ?_
  refine R2 (d_pickF (decide_eq_false (by simp))) rfl rfl ?_
  refine R1 d_move rfl ?_
  refine RGon rfl rfl d_move rfl ⟨rfl, trivial⟩ trivial trivial ?_
  refine RGon rfl rfl (d_indexP sl43 1 rfl rfl) rfl ⟨rfl, rfl, trivial⟩ trivial trivial ?_
  refine RGon rfl rfl (d_loadP ti50) rfl ⟨rfl, trivial⟩ trivial trivial ?_
  refine RGon rfl rfl (d_call (c_RQuick 1 2 (by decide) (by decide) (by decide) (by decide) (by decide)) fi36 rfl) rfl ⟨rfl, rfl, trivial⟩ trivial trivial ?_
  refine RGon rfl rfl (d_call (c_sameT _) fi42 rfl) rfl ⟨rfl, rfl, trivial⟩ trivial trivial ?_
  refine RGon rfl rfl d_not rfl ⟨rfl, trivial⟩ trivial trivial ?_
  refine R2 (d_pickF rfl) rfl rfl ?_
  refine R_end (by kernel_rfl) ?_
  refine K_then ?_
  refine C_bF rfl rfl ?_
  refine C_skip ?_
  refine K_then ?_
  refine C_seq ?_
  refine C_reg ?_
  refine R0 (d_call c_third fi44 rfl)  ?_
  refine RE (d_vals (n := 4) (f := fun n : Int => tI n) [100, 100, 100, -100] Tryz.underlying23 el3 zf3 rfl (fun _ => inferInstance) rfl rfl rfl) ⟨rfl, rfl, rfl, rfl, trivial⟩ trivial trivial ?_
  refine R2 (d_vals (n := 2) (f := fun n : Int => tI n) [67, 33] Tryz.underlying23 el3 zf3 rfl (fun _ => inferInstance) rfl rfl rfl) rfl rfl ?_
  refine R2 (d_vals (n := 2) (f := fun n : Int => tI n) [67, 33] Tryz.underlying23 el3 zf3 rfl (fun _ => inferInstance) rfl rfl rfl) rfl rfl ?_
  refine R2 (d_vals (n := 2) (f := fun n : Int => tI n) [66, 34] Tryz.underlying23 el3 zf3 rfl (fun _ => inferInstance) rfl rfl rfl) rfl rfl ?_
  refine R2 (d_vals (n := 2) (f := fun n : Int => tI n) [-66, -34] Tryz.underlying23 el3 zf3 rfl (fun _ => inferInstance) rfl rfl rfl) rfl rfl ?_
  refine RE (d_vals (n := 4) (f := fun x : List Int => tIs x) [[67, 33], [67, 33], [66, 34], [-66, -34]] Tryz.underlying78 el23 zf23 rfl (fun _ => inferInstance) rfl rfl rfl) ⟨rfl, rfl, rfl, rfl, trivial⟩ trivial trivial ?_
  refine RE (d_call (c_stepsT [deal3] 5 [100, 100, 100, -100] [[67, 33], [67, 33], [66, 34], [-66, -34]] (by decide +kernel) dig3 (by decide) (by decide +kernel)) fi43 rfl) ⟨rfl, rfl, rfl, rfl, trivial⟩ trivial trivial ?_
  refine R1 d_move rfl ?_
  refine RGon rfl rfl (d_call c_third fi44 rfl) rfl trivial trivial trivial ?_
  refine RGon rfl rfl (d_vals (n := 1) (f := fun n : Int => tI n) [100] Tryz.underlying23 el3 zf3 rfl (fun _ => inferInstance) rfl rfl rfl) rfl ⟨rfl, trivial⟩ trivial trivial ?_
  refine RGon rfl rfl (d_vals (n := 2) (f := fun n : Int => tI n) [100, 0] Tryz.underlying23 el3 zf3 rfl (fun _ => inferInstance) rfl rfl rfl) rfl ⟨rfl, rfl, trivial⟩ trivial trivial ?_
  refine RGon rfl rfl (d_vals (n := 1) (f := fun x : List Int => tIs x) [[100, 0]] Tryz.underlying78 el23 zf23 rfl (fun _ => inferInstance) rfl rfl rfl) rfl ⟨rfl, trivial⟩ trivial trivial ?_
  refine RGon rfl rfl (d_call (c_stepsT [deal3] 12 [100] [[100, 0]] (by decide +kernel) dig3 (by decide) (by decide +kernel)) fi43 rfl) rfl ⟨rfl, rfl, rfl, rfl, trivial⟩ trivial trivial ?_
  refine R2 (d_pickT rfl) rfl rfl ?_
  refine R1 d_move rfl ?_
  refine RGon rfl rfl (d_call c_halves fi41 rfl) rfl trivial trivial trivial ?_
  refine RGon rfl rfl (d_vals (n := 1) (f := fun n : Int => tI n) [5] Tryz.underlying23 el3 zf3 rfl (fun _ => inferInstance) rfl rfl rfl) rfl ⟨rfl, trivial⟩ trivial trivial ?_
  refine RGon rfl rfl (d_vals (n := 3) (f := fun n : Int => tI n) [2, 2, 1] Tryz.underlying23 el3 zf3 rfl (fun _ => inferInstance) rfl rfl rfl) rfl ⟨rfl, rfl, rfl, trivial⟩ trivial trivial ?_
  refine RGon rfl rfl (d_vals (n := 1) (f := fun x : List Int => tIs x) [[2, 2, 1]] Tryz.underlying78 el23 zf23 rfl (fun _ => inferInstance) rfl rfl rfl) rfl ⟨rfl, trivial⟩ trivial trivial ?_
  refine RGon rfl rfl (d_call (c_stepsT [dealA, dealB] 4 [5] [[2, 2, 1]] (by decide +kernel) digH (by decide) (by decide +kernel)) fi43 rfl) rfl ⟨rfl, rfl, rfl, rfl, trivial⟩ trivial trivial ?_
  refine R2 (d_pickT rfl) rfl rfl ?_
  refine R1 d_move rfl ?_
  refine RGon rfl rfl (d_call c_halves fi41 rfl) rfl trivial trivial trivial ?_
  refine RGon rfl rfl (d_sliceT (xs := [dealA, dealB]) (ys := [dealA]) (l := 0) (u := 1) sl22 (fun _ => rfl) (fun h => by cases h) (by decide) (by decide) rfl) rfl ⟨rfl, rfl, trivial⟩ trivial trivial ?_
  refine RGon rfl rfl (d_vals (n := 1) (f := fun n : Int => tI n) [-1] Tryz.underlying23 el3 zf3 rfl (fun _ => inferInstance) rfl rfl rfl) rfl ⟨rfl, trivial⟩ trivial trivial ?_
  refine RGon rfl rfl (d_vals (n := 2) (f := fun n : Int => tI n) [0, -1] Tryz.underlying23 el3 zf3 rfl (fun _ => inferInstance) rfl rfl rfl) rfl ⟨rfl, rfl, trivial⟩ trivial trivial ?_
  refine RGon rfl rfl (d_vals (n := 1) (f := fun x : List Int => tIs x) [[0, -1]] Tryz.underlying78 el23 zf23 rfl (fun _ => inferInstance) rfl rfl rfl) rfl ⟨rfl, trivial⟩ trivial trivial ?_
  refine RGon rfl rfl (d_call (c_stepsT [dealA] 4 [-1] [[0, -1]] (by decide +kernel) digA (by decide) (by decide +kernel)) fi43 rfl) rfl ⟨rfl, rfl, rfl, rfl, trivial⟩ trivial trivial ?_
  refine R2 (d_pickT rfl) rfl rfl ?_
  refine R1 d_assign rfl ?_
  refine R_nil (by kernel_rfl) ?_
  refine K_then ?_
  refine C_ret ?_
  exact E_ret1 Plain.mk' rfl rfl Le.refl
end An.S

/- Layer 24: what a step of the divider answers. Plain data. -/
namespace An.S
open An
theorem right_mk {l : List Deal} {o : Int} {b p : List Int} (h1 : validL l = true) (h2 : b.length = l.length) (h3 : p.length = l.length) (h4 : wIn o = true) (h5 : (Dv.mk b p [] 0).ok l l.length) : rightL l o b p = true := by
  simp only [rightL, Bool.and_eq_true, decide_eq_true_eq, List.all_eq_true, List.mem_range]
  exact ⟨⟨⟨⟨h1, h2⟩, h3⟩, h4⟩, fun i hi => h5 i hi⟩
theorem stepE_zero {l : List Deal} {o : Int} {b p : List Int} {m a : Int} : stepE l o b p m a = 0 ↔ stepBad l o b p m a = false ∧ stepOk l o b p m a = true := by
  rw [stepE]
  cases stepBad l o b p m a <;> cases stepOk l o b p m a <;> simp
theorem step_err {l : List Deal} {o : Int} {b p : List Int} {m a : Int} (h : stepE l o b p m a ≠ 0) : stepO l o b p m a = 0 ∧ stepB l o b p m a = [] ∧ stepP l o b p m a = [] ∧ stepQ l o b p m a = [] := by
  rw [Ne, stepE_zero] at h
  have hg : stepG l o b p m a = false := by
    rw [stepG]
    cases h1 : stepBad l o b p m a <;> cases h2 : stepOk l o b p m a <;> simp_all
  simp only [stepO, stepB, stepP, stepQ, hg, cond_false, and_self]
theorem bad_mk {l : List Deal} {o : Int} {b p : List Int} {m a : Int} (h1 : rightL l o b p = true) (h2 : 0 ≤ m) (h3 : m ≤ 1048576) (h4 : wIn a = true) : stepBad l o b p m a = false := by
  rw [stepBad, h1, h4, decide_eq_false (by omega), decide_eq_false (by omega)]; rfl
theorem bad_of {l : List Deal} {o : Int} {b p : List Int} {m a : Int} (h : stepBad l o b p m a = false) : rightL l o b p = true ∧ 0 ≤ m ∧ m ≤ 1048576 ∧ wIn a = true := by
  simp only [stepBad, Bool.or_eq_false_iff, Bool.not_eq_false', decide_eq_false_iff_not] at h
  obtain ⟨⟨⟨h1, h2⟩, h3⟩, h4⟩ := h
  exact ⟨h1, by omega, by omega, h4⟩
/-- A step that is not rejected. -/
structure StepI (l : List Deal) (o : Int) (b p : List Int) (m a : Int) : Prop where
  v : validL l = true
  lb : b.length = l.length
  lp : p.length = l.length
  ok : (Dv.mk b p (List.replicate (l.length + 1) 0) a).ok l l.length
  wo : wIn o = true
  m0 : 0 ≤ m
  m1 : m ≤ 1048576
  wa : wIn a = true
  all : (dvAll l m b p a).2 = true
  wr : wIn (o + (dvAll l m b p a).1.r) = true
  eo : stepO l o b p m a = o + (dvAll l m b p a).1.r
  eb : stepB l o b p m a = (dvAll l m b p a).1.b
  ep : stepP l o b p m a = (dvAll l m b p a).1.p
  eq : stepQ l o b p m a = (dvAll l m b p a).1.q.set 0 (dvAll l m b p a).1.r
section
variable {l : List Deal} {o : Int} {b p : List Int} {m a : Int}
theorem StepI.of (hd : ∀ d ∈ l, d.share.dig) (h : stepE l o b p m a = 0) : StepI l o b p m a := by
  obtain ⟨h1, h2⟩ := stepE_zero.1 h
  obtain ⟨r1, r2, r3, r4⟩ := bad_of h1
  obtain ⟨e1, e2, e3, e4, _, e6⟩ := step_good h1 h2
  obtain ⟨p1, p2, p3, p4, p5⟩ := right_parts hd r1
  exact ⟨p1, p2, p3, fun i hi => p5 i hi, p4, r2, r3, r4, e6, (Bool.and_eq_true_iff.1 h2).2, e1, e2, e3, e4⟩
theorem StepI.mk' (h1 : rightL l o b p = true) (h2 : 0 ≤ m) (h3 : m ≤ 1048576) (h4 : wIn a = true) (h5 : (dvAll l m b p a).2 = true) (h6 : wIn (o + (dvAll l m b p a).1.r) = true) : stepE l o b p m a = 0 :=
  stepE_zero.2 ⟨bad_mk h1 h2 h3 h4, by rw [stepOk, h5, h6]; rfl⟩
theorem StepI.fit0 (s : StepI l o b p m a) : (Dv.mk b p (List.replicate (l.length + 1) 0) a).fit l.length := An.fit0 s.lb s.lp
theorem StepI.fit (s : StepI l o b p m a) : (dvAll l m b p a).1.fit l.length := run_fit _ _ s.fit0
theorem StepI.oks (s : StepI l o b p m a) : (dvAll l m b p a).1.ok l l.length := run_ok _ _ apl_mem s.fit0 s.ok s.all
theorem StepI.right (s : StepI l o b p m a) : rightL l (stepO l o b p m a) (stepB l o b p m a) (stepP l o b p m a) = true := by
  rw [s.eo, s.eb, s.ep]
  exact right_mk s.v s.fit.b s.fit.p s.wr fun i hi => s.oks i hi
theorem StepI.len (s : StepI l o b p m a) : (stepQ l o b p m a).length = l.length + 1 ∧ (stepB l o b p m a).length = l.length ∧ (stepP l o b p m a).length = l.length := by
  rw [s.eq, s.eb, s.ep, List.length_set]
  exact ⟨s.fit.q, s.fit.b, s.fit.p⟩
theorem wIn_neg {n : Int} (h : wIn n = true) : wIn (-n) = true := by
  rw [wIn_iff] at *; omega
/-- Bounds of what a run leaves. -/
theorem run_bd {l : List Deal} (hv : validL l = true) (hd : ∀ d ∈ l, d.share.dig) : ∀ (is : List Nat) (s : Dv) (k : Nat), (∀ i ∈ is, i < l.length) → DvI l k s → (∀ j, -2199023255552 ≤ s.q.getD j 0 ∧ s.q.getD j 0 ≤ 2199023255552) → (dvRun l s is).2 = true →
    DvI l (k + is.length) (dvRun l s is).1 ∧ ∀ j, -2199023255552 ≤ (dvRun l s is).1.q.getD j 0 ∧ (dvRun l s is).1.q.getD j 0 ≤ 2199023255552
  | [], s, k, _, h, hq, _ => ⟨h, hq⟩
  | i :: r, s, k, hi, h, hq, ht => by
    rw [dvRun_cons] at ht ⊢
    split at ht
    · rename_i hw
      rw [if_pos hw]
      have hin := hi i (by simp)
      have hp := wIn_iff.1 (DvI.pd (s := s) hv hd hin hw)
      have hp2 := wIn_iff.1 (h.w i hin).2
      have := run_bd hv hd r (dv1 l s i) (k + 1) (fun j hj => hi j (by simp [hj])) (h.next hv hd hin hw) (fun j => by
        by_cases hj : j = i + 1
        · subst hj
          have e : (dv1 l s i).q.getD (i + 1) 0 = s.pd l i - s.p.getD i 0 := gset_same (by rw [h.q]; omega)
          rw [e]; omega
        · have e : (dv1 l s i).q.getD j 0 = s.q.getD j 0 := gset_ne hj
          rw [e]; exact hq j) ht
      rw [List.length_cons, show k + (r.length + 1) = k + 1 + r.length by omega]
      exact this
    · cases ht
theorem StepI.dvI (hd : ∀ d ∈ l, d.share.dig) (s : StepI l o b p m a) : DvI l 0 ⟨b, p, List.replicate (l.length + 1) 0, a⟩ := by
  obtain ⟨a1, a2⟩ := wIn_iff.1 s.wa
  refine ⟨s.lb, s.lp, by simp, fun i hi => ?_, by simp only [Int.natCast_zero]; omega⟩
  obtain ⟨h1, h2⟩ := s.ok i hi
  obtain ⟨q0, q1⟩ := shr_bd s.v hd hi
  exact ⟨h1, by rw [h2]; exact wIn_take q0 q1 h1⟩
theorem StepI.bd (hd : ∀ d ∈ l, d.share.dig) (s : StepI l o b p m a) : (∀ j, -2199023255552 ≤ (dvAll l m b p a).1.q.getD j 0 ∧ (dvAll l m b p a).1.q.getD j 0 ≤ 2199023255552) ∧ -36283883716608 ≤ (dvAll l m b p a).1.r ∧ (dvAll l m b p a).1.r ≤ 36283883716608 := by
  have h := run_bd s.v hd (apl l m) _ 0 apl_mem (s.dvI hd) (fun j => by simp only [grep0]; omega) s.all
  have hl := validL_len s.v
  have hn := apl_len (l := l) (m := m)
  have hr := h.1.r
  refine ⟨h.2, ?_, ?_⟩
  · have := hr.1; simp only [dvAll]; omega
  · have := hr.2; simp only [dvAll]; omega
theorem getD_set0 {q : List Int} {r : Int} {i : Nat} (h : 0 < q.length) : (q.set 0 r).getD i 0 = if i = 0 then r else q.getD i 0 := getD_set_int h
theorem StepI.qbd (hd : ∀ d ∈ l, d.share.dig) (s : StepI l o b p m a) (i : Nat) : -36283883716608 ≤ (stepQ l o b p m a).getD i 0 ∧ (stepQ l o b p m a).getD i 0 ≤ 36283883716608 := by
  obtain ⟨h1, h2⟩ := s.bd hd
  rw [s.eq, getD_set0 (by rw [s.fit.q]; omega)]
  split
  · exact h2
  · have := h1 i; omega
end
end An.S

/- Law 24: SplitBack: dividing the negative of an amount leads back. -/
namespace An.S
open Go Go.Proofs An
set_option maxHeartbeats 2000000
theorem fi11 : FnI Tryz.prog 11 := ⟨_, Tryz.func11, by kernel_rfl, rfl⟩
theorem fi12 : FnI Tryz.prog 12 := ⟨_, Tryz.func12, by kernel_rfl, rfl⟩
theorem ng64 {x : Int} (h1 : -9223372036854775808 < x) (h2 : x ≤ 9223372036854775807) : IntKind.i64.wrap (0 - x) = -x := by
  rw [wr64 (by omega) (by omega)]; omega
theorem step_back {l : List Deal} {o : Int} {b p : List Int} {m a : Int} (hd : ∀ d ∈ l, d.share.dig) (hE : stepE l o b p m a = 0) :
    stepE l (stepO l o b p m a) (stepB l o b p m a) (stepP l o b p m a) m (-a) = 0 ∧ stepO l (stepO l o b p m a) (stepB l o b p m a) (stepP l o b p m a) m (-a) = o ∧
    stepB l (stepO l o b p m a) (stepB l o b p m a) (stepP l o b p m a) m (-a) = b ∧ stepP l (stepO l o b p m a) (stepB l o b p m a) (stepP l o b p m a) m (-a) = p ∧
    ∀ i, (stepQ l o b p m a).getD i 0 = -(stepQ l (stepO l o b p m a) (stepB l o b p m a) (stepP l o b p m a) m (-a)).getD i 0 := by
  have s := StepI.of hd hE
  have hR := s.right
  have hf := s.fit
  have hf0 := s.fit0
  rw [s.eo, s.eb, s.ep] at hR ⊢
  generalize hT : (dvAll l m b p a).1 = T at *
  have hT' : (dvRun l ⟨b, p, List.replicate (l.length + 1) 0, a⟩ (apl l m)).1 = T := hT
  have hu : (Dv.mk T.b T.p (List.replicate (l.length + 1) 0) (-a)).fit l.length := An.fit0 hf.b hf.p
  obtain ⟨c1, c2, c3⟩ := run_back (apl l m) ⟨b, p, List.replicate (l.length + 1) 0, a⟩ ⟨T.b, T.p, List.replicate (l.length + 1) 0, -a⟩ apl_nodup apl_mem hf0 hu s.ok s.all rfl
    (fun i _ => by rw [hT']; exact ⟨rfl, rfl⟩)
  rw [hT'] at c2 c3
  have hfu := run_fit (l := l) (apl l m) _ hu
  have hx1 : (dvAll l m T.b T.p (-a)).2 = true := c1
  have hx2 : (dvAll l m T.b T.p (-a)).1.r = -T.r := c2
  have hb : (dvAll l m T.b T.p (-a)).1.b = b := by
    refine ext_getD (hfu.b.trans hf0.b.symm) fun j _ => ?_
    by_cases hj : j ∈ apl l m
    · exact (c3 j hj).1
    · have k1 := (run_keep (l := l) (apl l m) ⟨T.b, T.p, List.replicate (l.length + 1) 0, -a⟩ j hj).1
      have k2 := (run_keep (l := l) (apl l m) ⟨b, p, List.replicate (l.length + 1) 0, a⟩ j hj).1
      rw [hT'] at k2
      exact k1.trans k2
  have hp : (dvAll l m T.b T.p (-a)).1.p = p := by
    refine ext_getD (hfu.p.trans hf0.p.symm) fun j _ => ?_
    by_cases hj : j ∈ apl l m
    · exact (c3 j hj).2.1
    · have k1 := (run_keep (l := l) (apl l m) ⟨T.b, T.p, List.replicate (l.length + 1) 0, -a⟩ j hj).2.1
      have k2 := (run_keep (l := l) (apl l m) ⟨b, p, List.replicate (l.length + 1) 0, a⟩ j hj).2.1
      rw [hT'] at k2
      exact k1.trans k2
  have hE2 : stepE l (o + T.r) T.b T.p m (-a) = 0 := StepI.mk' hR s.m0 s.m1 (wIn_neg s.wa) hx1 (by rw [hx2, Int.add_neg_cancel_right]; exact s.wo)
  have t := StepI.of hd hE2
  refine ⟨hE2, ?_, ?_, ?_, fun i => ?_⟩
  · rw [t.eo, hx2]; omega
  · rw [t.eb, hb]
  · rw [t.ep, hp]
  · rw [s.eq, t.eq, hT, getD_set0 (by rw [hf.q]; omega), getD_set0 (by rw [t.fit.q]; omega), hx2]
    by_cases h0 : i = 0
    · rw [if_pos h0, if_pos h0]; omega
    · rw [if_neg h0, if_neg h0]
      obtain ⟨j, rfl⟩ : ∃ j, i = j + 1 := ⟨i - 1, by omega⟩
      by_cases hj : j ∈ apl l m
      · have := (c3 j hj).2.2
        have e : (dvAll l m T.b T.p (-a)).1.q.getD (j + 1) 0 = -T.q.getD (j + 1) 0 := this
        rw [e]; omega
      · have k1 := (run_keep (l := l) (apl l m) ⟨T.b, T.p, List.replicate (l.length + 1) 0, -a⟩ j hj).2.2
        have k2 := (run_keep (l := l) (apl l m) ⟨b, p, List.replicate (l.length + 1) 0, a⟩ j hj).2.2
        rw [hT'] at k2
        have e : (dvAll l m T.b T.p (-a)).1.q.getD (j + 1) 0 = (List.replicate (l.length + 1) (0 : Int)).getD (j + 1) 0 := k1
        have e2 : T.q.getD (j + 1) 0 = (List.replicate (l.length + 1) (0 : Int)).getD (j + 1) 0 := k2
        rw [e, e2, grep0]; rfl
theorem c_SplitBack (l : List Deal) (o : Int) (b p : List Int) (m a : Int) (hd : ∀ d ∈ l, d.share.dig) :
    Ct Tryz.prog 3 [tL 7 true tDeal l, tState o b p, tI m, tI a] (tB true) := by
  refine Ct.intro Tryz.func3 rfl Tryz.ntmps3 rfl ?_
  intro w F
  refine C_seq ?_
  refine C_reg ?_
  refine RE (d_box (k := 5) ti25 rfl) ⟨rfl, trivial⟩ trivial ⟨rfl, trivial⟩ ?_
  refine R1 d_assign rfl ?_
  refine R_nil (by kernel_rfl) ?_
  refine K_then ?_
  refine C_seq ?_
  refine C_seq ?_
  refine C_reg ?_
  refine R0 (d_call c_awake fi11 rfl)  ?_
  refine R1 d_not rfl ?_
  refine R_nil (by kernel_rfl) ?_
  refine K_then ?_
  refine C_bF rfl rfl ?_
  refine C_skip ?_
  refine K_then ?_
  refine C_seq ?_
  refine C_seq ?_
  refine C_reg ?_
  refine R1 d_move rfl ?_
  refine R3 (d_call (c_large24 l 16 4) fi12 rfl) rfl rfl rfl ?_
  refine R_nil (by kernel_rfl) ?_
  refine K_then ?_
  refine C_cond rfl (fun h74 => ?_) (fun h74 => ?_)
  ·
    refine C_seq ?_
    refine C_reg ?_
    refine R1 d_assign rfl ?_
    refine R_nil (by kernel_rfl) ?_
    refine K_then ?_
    refine C_ret ?_
    refine K_retT ?_
    exact E_ret1 Plain.mk' rfl rfl Le.refl
  ·
    refine C_skip ?_
    refine K_then ?_
    refine C_seq ?_
    refine C_reg ?_
    refine R1 d_move rfl ?_
    refine RE (d_load (0) ti25 rfl rfl) ⟨rfl, trivial⟩ ⟨rfl, trivial⟩ trivial ?_
    refine R1 d_move rfl ?_
    refine R1 d_move rfl ?_
    refine RE (d_call (c_Step l o b p m a hd) fi13 rfl) ⟨rfl, rfl, rfl, rfl, trivial⟩ trivial trivial ?_
    refine R1 d_move rfl ?_
    refine R1 (d_extract rfl) rfl ?_
    refine R1 (d_extract rfl) rfl ?_
    refine R1 (d_extract rfl) rfl ?_
    refine RE (d_alloc (k := 9) (n := 3) (agg := true) zr25.1 zr25.2 rfl) trivial trivial ⟨rfl, trivial⟩ ?_
    refine RE (d_store (es := 3) (agg := true) (0) ti25 rfl rfl rfl) ⟨rfl, rfl, trivial⟩ ⟨rfl, trivial⟩ trivial ?_
    refine R1 d_assign rfl ?_
    refine R1 d_assign rfl ?_
    refine R_nil (by kernel_rfl) ?_
    refine K_then ?_
    refine C_seq ?_
    refine C_seq ?_
    refine C_reg ?_
    refine R1 d_move rfl ?_
    refine R2 d_neq rfl rfl ?_
    refine R_nil (by kernel_rfl) ?_
    refine K_then ?_
    refine C_if rfl (fun h78 => ?_) (fun h78 => ?_)
    ·
      obtain ⟨g1, g2, g3, g4⟩ := step_err h78
      have j2 : (stepB l o b p m a).length = 0 := by rw [g2]; rfl
      have j3 : (stepP l o b p m a).length = 0 := by rw [g3]; rfl
      have j4 : (stepQ l o b p m a).length = 0 := by rw [g4]; rfl
      refine C_seq ?_
      refine C_reg ?_
      refine R1 (d_fieldO fo25_1 rfl) rfl ?_
      refine R_loadF (0) ti23 rfl rfl rfl (At.g 1 rfl rfl) rfl ?_
      refine R1 (d_len Tryz.underlying23) rfl ?_
      refine R1 (d_fieldO fo25_2 rfl) rfl ?_
      refine R_loadF (0) ti23 rfl rfl rfl (At.g 2 rfl rfl) rfl ?_
      refine R1 (d_len Tryz.underlying23) rfl ?_
      refine R2 (d_add (by first | exact wr64 (by omega) (by omega))) rfl rfl ?_
      refine R1 d_move rfl ?_
      refine R1 (d_len Tryz.underlying23) rfl ?_
      refine R2 (d_add (by first | exact wr64 (by omega) (by omega))) rfl rfl ?_
      refine R2 d_eql rfl rfl ?_
      refine R1 d_move rfl ?_
      refine RGon (decide_eq_true (by omega)) rfl (d_fieldO fo25_0 rfl) rfl ⟨rfl, trivial⟩ trivial trivial ?_
      refine RG_loadF (decide_eq_true (by omega)) rfl rfl (0) ti3 rfl rfl rfl (At.g 0 rfl rfl) rfl ?_
      refine RGon (decide_eq_true (by omega)) rfl d_eql rfl ⟨rfl, rfl, trivial⟩ trivial trivial ?_
      refine R2 (d_pickT (decide_eq_true (by omega))) rfl rfl ?_
      refine R1 d_assign rfl ?_
      refine R_nil (by kernel_rfl) ?_
      refine K_then ?_
      refine C_ret ?_
      refine K_retT ?_
      exact E_ret1 Plain.mk' rfl rfl (Le.bool (decide_eq_true g1))
    ·
      have hE : stepE l o b p m a = 0 := by omega
      obtain ⟨f1, f2, f3, f4, f5⟩ := step_back hd hE
      have s1 := StepI.of hd hE
      have s2 := StepI.of hd f1
      obtain ⟨a1, a2⟩ := wIn_iff.1 s1.wa
      obtain ⟨k1, k2, k3⟩ := s1.len
      obtain ⟨k4, k5, k6⟩ := s2.len
      have hl16 := validL_len s1.v
      refine C_skip ?_
      refine K_then ?_
      refine C_seq ?_
      refine C_reg ?_
      refine R1 d_move rfl ?_
      refine RE (d_load (0) ti25 rfl rfl) ⟨rfl, trivial⟩ ⟨rfl, trivial⟩ trivial ?_
      refine R1 d_move rfl ?_
      refine R1 d_move rfl ?_
      refine R1 (d_neg (ng64 (by omega) (by omega))) rfl ?_
      refine RE (d_call (c_Step l _ _ _ m (-a) hd) fi13 rfl) ⟨rfl, rfl, rfl, rfl, trivial⟩ trivial trivial ?_
      refine R1 d_move rfl ?_
      refine R1 (d_extract rfl) rfl ?_
      refine R1 (d_extract rfl) rfl ?_
      refine R1 (d_extract rfl) rfl ?_
      refine RE (d_alloc (k := 12) (n := 3) (agg := true) zr25.1 zr25.2 rfl) trivial trivial ⟨rfl, trivial⟩ ?_
      refine RE (d_store (es := 3) (agg := true) (0) ti25 rfl rfl rfl) ⟨rfl, rfl, trivial⟩ ⟨rfl, trivial⟩ trivial ?_
      refine R1 d_assign rfl ?_
      refine R1 d_assign rfl ?_
      refine R_nil (by kernel_rfl) ?_
      refine K_then ?_
      refine C_seq ?_
      refine C_seq ?_
      refine C_reg ?_
      refine R1 d_move rfl ?_
      refine R2 d_neq rfl rfl ?_
      refine R1 d_move rfl ?_
      refine RGon (decide_eq_false (by omega)) rfl d_move rfl ⟨rfl, trivial⟩ trivial trivial ?_
      refine RGon (decide_eq_false (by omega)) rfl (d_len Tryz.underlying23) rfl ⟨rfl, trivial⟩ trivial trivial ?_
      refine RGon (decide_eq_false (by omega)) rfl d_move rfl ⟨rfl, trivial⟩ trivial trivial ?_
      refine RGon (decide_eq_false (by omega)) rfl (d_len Tryz.underlying23) rfl ⟨rfl, trivial⟩ trivial trivial ?_
      refine RGon (decide_eq_false (by omega)) rfl d_neq rfl ⟨rfl, rfl, trivial⟩ trivial trivial ?_
      refine R2 (d_pickF (decide_eq_false (by omega))) rfl rfl ?_
      refine R1 d_move rfl ?_
      refine RGon (decide_eq_false (by omega)) rfl (d_fieldO fo25_0 rfl) rfl ⟨rfl, trivial⟩ trivial trivial ?_
      refine RG_loadF (decide_eq_false (by omega)) rfl rfl (0) ti3 rfl rfl rfl (At.g 0 rfl rfl) rfl ?_
      refine RGon (decide_eq_false (by omega)) rfl (d_fieldO fo25_0 rfl) rfl ⟨rfl, trivial⟩ trivial trivial ?_
      refine RG_loadF (decide_eq_false (by omega)) rfl rfl (0) ti3 rfl rfl rfl (At.g 0 rfl rfl) rfl ?_
      refine RGon (decide_eq_false (by omega)) rfl d_neq rfl ⟨rfl, rfl, trivial⟩ trivial trivial ?_
      refine R2 (d_pickF (decide_eq_false (by omega))) rfl rfl ?_
      refine R1 d_move rfl ?_
      refine RGon (decide_eq_false (by omega)) rfl (d_fieldO fo25_1 rfl) rfl ⟨rfl, trivial⟩ trivial trivial ?_
      refine RG_loadF (decide_eq_false (by omega)) rfl rfl (0) ti23 rfl rfl rfl (At.g 1 rfl rfl) rfl ?_
      refine RGon (decide_eq_false (by omega)) rfl (d_fieldO fo25_1 rfl) rfl ⟨rfl, trivial⟩ trivial trivial ?_
      refine RG_loadF (decide_eq_false (by omega)) rfl rfl (0) ti23 rfl rfl rfl (At.g 1 rfl rfl) rfl ?_
      refine RGon (decide_eq_false (by omega)) rfl (d_call (c_SameInts _ _) fi14 rfl) rfl ⟨rfl, rfl, trivial⟩ trivial trivial ?_
      refine RGon (decide_eq_false (by omega)) rfl d_not rfl ⟨rfl, trivial⟩ trivial trivial ?_
      refine R2 (d_pickF (decide_eq_false (by omega))) rfl rfl ?_
      refine R1 d_move rfl ?_
      refine RGon (not_dec_false (by exact f3)) rfl (d_fieldO fo25_2 rfl) rfl ⟨rfl, trivial⟩ trivial trivial ?_
      refine RG_loadF (not_dec_false (by exact f3)) rfl rfl (0) ti23 rfl rfl rfl (At.g 2 rfl rfl) rfl ?_
      refine RGon (not_dec_false (by exact f3)) rfl (d_fieldO fo25_2 rfl) rfl ⟨rfl, trivial⟩ trivial trivial ?_
      refine RG_loadF (not_dec_false (by exact f3)) rfl rfl (0) ti23 rfl rfl rfl (At.g 2 rfl rfl) rfl ?_
      refine RGon (not_dec_false (by exact f3)) rfl (d_call (c_SameInts _ _) fi14 rfl) rfl ⟨rfl, rfl, trivial⟩ trivial trivial ?_
      refine RGon (not_dec_false (by exact f3)) rfl d_not rfl ⟨rfl, trivial⟩ trivial trivial ?_
      refine R2 (d_pickF (not_dec_false (by exact f3))) rfl rfl ?_
      refine R_nil (by kernel_rfl) ?_
      refine K_then ?_
      refine C_bF rfl (not_dec_false (by exact f4)) ?_
      refine C_skip ?_
      refine K_then ?_
      refine C_seq ?_
      refine C_seq ?_
      refine C_reg ?_
      refine R1 d_assign rfl ?_
      refine R_nil (by kernel_rfl) ?_
      refine K_then ?_
      refine C_block ?_
      refine C_loop (fun (i : Nat) => i ≤ (stepQ l o b p m a).length) (fun (i : Nat) => upd (upd (upd (fun _ => none) 10 (some (.val (tIs (stepQ l o b p m a))))) 13 (some (.val (tIs (stepQ l (stepO l o b p m a) (stepB l o b p m a) (stepP l o b p m a) m (-a)))))) 15 (some (.val (tI i)))) (fun (i : Nat) => fun _ => none) (nm []) (fun (i : Nat) => (stepQ l o b p m a).length - i) (0) (Nat.zero_le _) (Sub.int rfl (by first | omega | rfl | (dsimp only; omega)) (Sub.cons rfl (Sub.cons rfl Sub.nil))) SubK.nil (SupG.val (SupG.val (SupG.val SupG.nil))) SupH.nil (lkOk rfl) ?_
      intro i hI
      refine C_seq ?_
      refine C_seq ?_
      refine C_reg ?_
      refine R1 d_move rfl ?_
      refine R1 d_move rfl ?_
      refine R1 (d_len Tryz.underlying23) rfl ?_
      refine R2 d_lss rfl rfl ?_
      refine R_nil (by kernel_rfl) ?_
      refine K_then ?_
      refine C_if rfl (fun h85 => ?_) (fun h85 => ?_)
      ·
        refine C_skip ?_
        refine K_then ?_
        refine C_seq ?_
        refine C_block ?_
        refine C_seq ?_
        have hq1 := StepI.qbd hd s2 i
        have hq2 := f5 i
        refine C_draw mixed ?_
        refine R1 d_move rfl ?_
        refine R1 d_move rfl ?_
        refine R2 (d_indexP sl23 (i) (by omega) (gZ (by omega))) rfl rfl ?_
        refine R1 (d_loadP ti3) rfl ?_
        refine R1 d_move rfl ?_
        refine R1 d_move rfl ?_
        refine R2 (d_indexP sl23 (i) (by omega) (gZ (by omega))) rfl rfl ?_
        refine R1 (d_loadP ti3) rfl ?_
        refine R1 (d_neg (ng64 (by omega) (by omega))) rfl ?_
        refine R2 d_neq rfl rfl ?_
        refine R_end (by kernel_rfl) ?_
        refine K_then ?_
        refine C_bF rfl (decide_eq_false (by omega)) ?_
        refine C_skip ?_
        refine K_norB ?_
        refine K_then ?_
        refine C_reg ?_
        refine R1 d_move rfl ?_
        refine R2 (d_add (by first | exact wr64 (by omega) (by omega))) rfl rfl ?_
        refine R1 d_assign rfl ?_
        refine R_nil (by kernel_rfl) ?_
        exact K_fam (i + 1) ⟨(by omega), (by omega)⟩ (Sub.int rfl (by first | omega | rfl | (dsimp only; omega)) (Sub.cons rfl (Sub.cons rfl Sub.nil))) SubK.nil (SupG.val (SupG.val (SupG.val SupG.nil))) SupH.nil (lkOk rfl)
      ·
        refine C_exit ?_
        refine K_exT ?_
        refine K_exT ?_
        refine K_exB ?_
        refine K_then ?_
        refine C_seq ?_
        refine C_reg ?_
        refine R1 d_assign rfl ?_
        refine R_nil (by kernel_rfl) ?_
        refine K_then ?_
        refine C_ret ?_
        exact E_ret1 Plain.mk' rfl rfl Le.refl
end An.S
