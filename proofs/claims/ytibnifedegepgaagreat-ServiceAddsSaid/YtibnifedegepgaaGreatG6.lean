/- Part 6 of a proof: Svc2, S14, S15, O8, Chg, S17, Chg2, S18, Svc3, S19. -/
import Derived.Test.YtibnifedegepgaaGreatChecked
import Derived.Test.YtibnifedegepgaaGreatG5
/- Layer 8: the service of records of quarters. -/
namespace An.S
open Go
theorem qcase {q : Int} (h0 : 0 ≤ q) (h4 : q ≤ 4) : q = 0 ∨ q = 1 ∨ q = 2 ∨ q = 3 ∨ q = 4 := by omega
theorem qv_facts {q : Int} (h0 : 0 ≤ q) (h4 : q ≤ 4) : (qv q).valid = true ∧ sOk ⟨0, 1, qv q⟩ = true ∧ ((qv q).f.n.l.length = 0 ↔ q = 0) ∧ qsum (qv q) 4 = q ∧ qcnt (qv q) 4 = (if q = 0 then 0 else 1) := by
  rcases qcase h0 h4 with rfl | rfl | rfl | rfl | rfl <;> decide +kernel
theorem qv_rat {q : Int} : (qv q).f.rat = Rat.divInt q 4 := by
  show (fr (kfr q 4)).rat = _
  rw [rat_fr, kfr_big (by decide)]
/-- A record of quarters. -/
def isB (l : List Tst) : Prop := tRight l = true ∧ ∀ s ∈ l, ∃ q : Int, 0 ≤ q ∧ q ≤ 4 ∧ s.v = qv q
theorem isB.dig {l : List Tst} (h : isB l) : ∀ s ∈ l, s.v.f.dig := fun s hs => by
  obtain ⟨q, _, _, e⟩ := h.2 s hs
  rw [e]; exact dig_fr _
theorem isB.right {l : List Tst} (h : isB l) : sRight l = true := by
  rw [sRight, h.1, Bool.true_and]
  refine List.all_eq_true.2 fun s hs => ?_
  obtain ⟨q, h0, h4, e⟩ := h.2 s hs
  have := (qv_facts h0 h4).2.1
  simp only [sOk] at *
  rw [e]; exact this
theorem isB.bd {l : List Tst} (h : isB l) : ∀ s ∈ l, 0 ≤ s.lo ∧ s.lo < s.hi ∧ s.hi ≤ 65536 := fun s hs => by
  obtain ⟨i, hi, rfl⟩ := exists_getD hs
  have := tRight_at h.1 hi
  exact ⟨this.1, this.2.1, this.2.2.1⟩
theorem isB.pst1 {l : List Tst} {s : Tst} {q : Int} (h : isB l) (h0 : 0 ≤ s.lo) (h1 : s.hi ≤ 65536) (q0 : 0 ≤ q) (q4 : q ≤ 4) (hv : s.v = qv q) (hl : 0 < l.length → (l.getD (l.length - 1) tst0).hi ≤ s.lo) : isB (pst1 l s) := by
  refine ⟨pst1_right h.1 h0 h1 (by rw [hv]; exact (qv_facts q0 q4).1) fun hp => ⟨hl hp, ?_⟩, ?_⟩
  · obtain ⟨p, _, _, e⟩ := h.2 _ (mem_getD (l := l) (i := l.length - 1) (by omega))
    rw [e, hv]; rfl
  · intro x hx
    rw [An.pst1] at hx
    split at hx
    · exact h.2 x hx
    · split at hx
      · rcases List.mem_or_eq_of_mem_set hx with h' | h'
        · exact h.2 x h'
        · subst h'; exact h.2 (l.getD (l.length - 1) tst0) (mem_getD (by omega))
      · rcases List.mem_append.1 hx with h' | h'
        · exact h.2 x h'
        · rw [List.mem_singleton.1 h']; exact ⟨q, q0, q4, hv⟩
theorem isB_nil : isB [] := ⟨rfl, fun s hs => by cases hs⟩
theorem bRun_isB {m : List Nat} : ∀ (f k : Nat) (out : List Tst) (t : Int), isB out → 0 ≤ t → (0 < out.length → (out.getD (out.length - 1) tst0).hi ≤ t) → isB (bRun m f k out t) ∧ (bRun m f k out t).length ≤ out.length + f
  | 0, _, out, _, h, _, _ => ⟨h, Nat.le_refl _⟩
  | f + 1, k, out, t, h, ht, hl => by
    rw [bRun]
    split
    · split
      · exact ⟨h, by omega⟩
      · rename_i he
        have hF : t ≤ bFrom m k t := by simp only [bFrom]; omega
        have hE : bFrom m k t < bEnd m k t := by simp only [bEnd]; omega
        have h1 : isB (An.pst1 out (bSt m k t)) := h.pst1 (q := bQ m k) (by show 0 ≤ bFrom m k t; omega) (by show bEnd m k t ≤ 65536; omega) (by simp only [bQ]; omega) (by simp only [bQ]; omega) rfl fun hp => by have := hl hp; show _ ≤ bFrom m k t; omega
        have h2 := pst1_last (l := out) (bSt_lt (m := m) (k := k) (t := t))
        have h3 := bRun_isB (m := m) f (k + 1) _ (bEnd m k t) h1 (by omega) fun _ => by rw [h2.2.1]; exact Int.le_refl _
        have h4 := pst1_len out (bSt m k t)
        exact ⟨h3.1, by omega⟩
    · exact ⟨h, by omega⟩
theorem builtB (m : List Nat) : isB (builtT m) ∧ (builtT m).length ≤ 41 := by
  have := bRun_isB (m := m) 41 0 [] 0 isB_nil (Int.le_refl _) fun h => by cases h
  exact ⟨this.1, by have := this.2; simp at this; exact this⟩
/-! Sums of weights and days. -/
def wsum (w : Va → Int) (xs : List Tst) : Int := (xs.map fun s => w s.v * (s.hi - s.lo)).sum
theorem wsum_snoc {w : Va → Int} {xs : List Tst} {s : Tst} : wsum w (xs ++ [s]) = wsum w xs + w s.v * (s.hi - s.lo) := by simp [wsum]
theorem splitT {l : List Tst} (h : 0 < l.length) : l = l.take (l.length - 1) ++ [l.getD (l.length - 1) tst0] := by
  have e : l.take (l.length - 1 + 1) = l.take (l.length - 1) ++ [l[l.length - 1]] := List.take_succ_eq_append_getElem (by omega)
  rw [show l.length - 1 + 1 = l.length by omega, List.take_length] at e
  rw [List.getD_eq_getElem?_getD, List.getElem?_eq_getElem (by omega)]; exact e
theorem setT {l : List Tst} {x : Tst} (h : 0 < l.length) : l.set (l.length - 1) x = l.take (l.length - 1) ++ [x] := by
  have e := List.set_eq_take_append_cons_drop (l := l) (i := l.length - 1) (a := x)
  rw [if_pos (by omega), show l.length - 1 + 1 = l.length by omega, List.drop_length] at e
  exact e
theorem wsum_pst1 {w : Va → Int} {acc : List Tst} {s : Tst} : wsum w (pst1 acc s) = wsum w acc + if s.hi ≤ s.lo then 0 else w s.v * (s.hi - s.lo) := by
  rw [pst1]
  split
  · omega
  · split
    · rename_i hm
      have h1 : wsum w acc = wsum w (acc.take (acc.length - 1)) + w (acc.getD (acc.length - 1) tst0).v * ((acc.getD (acc.length - 1) tst0).hi - (acc.getD (acc.length - 1) tst0).lo) := by rw [← wsum_snoc, ← splitT hm.1]
      rw [setT hm.1, wsum_snoc, h1, ← hm.2.2, hm.2.1]
      simp only [Int.mul_sub]; omega
    · rw [wsum_snoc]
theorem wsum_pst {w : Va → Int} : ∀ (ps acc : List Tst), wsum w (pst acc ps) = wsum w acc + (ps.map fun s => if s.hi ≤ s.lo then 0 else w s.v * (s.hi - s.lo)).sum
  | [], acc => by simp [pst]
  | s :: r, acc => by
    have ih := wsum_pst (w := w) r (pst1 acc s)
    rw [wsum_pst1] at ih
    simp only [pst, List.foldl_cons, List.map_cons, List.sum_cons] at *
    omega
theorem wsum_cut {l : List Tst} {a b : Int} : wsum (fun v => qsum v 4) (cutT l a b) = quS l a b := by
  rw [cutT, wsum_pst]
  simp only [wsum, List.map_nil, List.sum_nil, Int.zero_add, List.map_map, quS]
  congr 1
  refine List.map_congr_left fun s _ => ?_
  have e1 : (clip a b s).hi = min s.hi b := rfl
  have e2 : (clip a b s).lo = max s.lo a := rfl
  show (if (clip a b s).hi ≤ (clip a b s).lo then (0 : Int) else qsum s.v 4 * ((clip a b s).hi - (clip a b s).lo)) = quS1 a b s
  by_cases h : (clip a b s).hi ≤ (clip a b s).lo
  · rw [if_pos h, quS1, if_pos (by simp only [dys]; omega)]
  · rw [if_neg h, quS1, if_neg (by simp only [dys]; omega)]; rfl
/-! Fractions. -/
theorem short_divInt {n d : Int} (hd : 0 < d) (h1 : -9223372036854775808 ≤ n) (h2 : n ≤ 9223372036854775807) (h3 : d ≤ 9223372036854775807) : short (Rat.divInt n d) := by
  have e := lowest_eq (n := n) hd
  have e1 : (wh (Rat.divInt n d).num).l.length = (wh (n / (Int.gcd n d : Int))).l.length := congrArg (fun f : Fr => f.n.l.length) e
  have e2 : (wh ((Rat.divInt n d).den : Int)).l.length = (wh (d / (Int.gcd n d : Int))).l.length := congrArg (fun f : Fr => f.d.l.length) e
  refine ⟨?_, ?_⟩
  · show (wh (Rat.divInt n d).num).l.length ≤ 256
    rw [e1]; exact len16_div (len16_small h1 h2)
  · show (wh ((Rat.divInt n d).den : Int)).l.length ≤ 256
    rw [e2]; exact len16_div (len16_small (by omega) h3)
theorem add4 (a b : Int) : Rat.divInt a 4 + Rat.divInt b 4 = Rat.divInt (a + b) 4 := by
  rw [Rat.divInt_add_divInt a b (by decide) (by decide)]
  exact (Rat.divInt_eq_divInt_iff (by decide) (by decide)).2 (by omega)
theorem mul4 (a n : Int) : Rat.divInt a 4 * (n : Rat) = Rat.divInt (a * n) 4 := by
  have e : (n : Rat) = Rat.divInt n 1 := by
    have := Rat.num_divInt_den (n : Rat)
    rw [Rat.num_intCast, Rat.den_intCast] at this; exact this.symm
  rw [e, Rat.divInt_mul_divInt]; rfl
theorem mulq4 (n : Int) : Rat.divInt n 4 * q4 = Rat.divInt n 1461 := by
  rw [show q4 = Rat.divInt 4 1461 by decide +kernel, Rat.divInt_mul_divInt]
  exact (Rat.divInt_eq_divInt_iff (by decide) (by decide)).2 (by omega)
theorem sum_take {l : List Tst} (h : ∀ s ∈ l, 0 ≤ s.lo ∧ s.lo < s.hi ∧ s.hi ≤ 65536) (hq : ∀ s ∈ l, ∃ q : Int, 0 ≤ q ∧ q ≤ 4 ∧ s.v = qv q) (hl : l.length ≤ 1000000) : ∀ i, i ≤ l.length → sumT (l.take i) = some (Rat.divInt (wsum (fun v => qsum v 4) (l.take i)) 4) ∧ 0 ≤ wsum (fun v => qsum v 4) (l.take i) ∧ wsum (fun v => qsum v 4) (l.take i) ≤ 262144 * i
  | 0, _ => ⟨by rw [List.take_zero]; decide +kernel, by simp [wsum], by simp [wsum]⟩
  | i + 1, hi => by
    obtain ⟨ih, i1, i2⟩ := sum_take h hq hl i (by omega)
    obtain ⟨h1, h2, h3⟩ := h _ (mem_getD (l := l) (i := i) (by omega))
    obtain ⟨q, q0, q4', e⟩ := hq _ (mem_getD (l := l) (i := i) (by omega))
    have hw : wsum (fun v => qsum v 4) (l.take (i + 1)) = wsum (fun v => qsum v 4) (l.take i) + q * ((l.getD i tst0).hi - (l.getD i tst0).lo) := by
      show ((l.take (i + 1)).map fun s => qsum s.v 4 * (s.hi - s.lo)).sum = _
      rw [sum_nextT (by omega), e, (qv_facts q0 q4').2.2.2.1]; rfl
    have hm0 := Int.mul_nonneg q0 (show 0 ≤ (l.getD i tst0).hi - (l.getD i tst0).lo by omega)
    have hm1 := Int.mul_le_mul q4' (show (l.getD i tst0).hi - (l.getD i tst0).lo ≤ 65536 by omega) (by omega) (by decide)
    rw [hw]
    refine ⟨?_, by omega, by omega⟩
    rw [sum_next (by omega), ih, sumStep, e, qv_rat, mul4, add4, if_pos ⟨short_divInt (by decide) (by omega) (by omega) (by decide), short_divInt (by decide) (by omega) (by omega) (by decide)⟩]
theorem cut_B {l : List Tst} {a b : Int} (h : isB l) : (∀ s ∈ cutT l a b, 0 ≤ s.lo ∧ s.lo < s.hi ∧ s.hi ≤ 65536) ∧ ∀ s ∈ cutT l a b, ∃ q : Int, 0 ≤ q ∧ q ≤ 4 ∧ s.v = qv q := by
  have key : ∀ s ∈ cutT l a b, (0 ≤ s.lo ∧ s.lo < s.hi ∧ s.hi ≤ 65536) ∧ ∃ q : Int, 0 ≤ q ∧ q ≤ 4 ∧ s.v = qv q := by
    refine pst_all (P := fun s => (0 ≤ s.lo ∧ s.lo < s.hi ∧ s.hi ≤ 65536) ∧ ∃ q : Int, 0 ≤ q ∧ q ≤ 4 ∧ s.v = qv q) (fun x s hx hs e => ⟨⟨hx.1.1, by have := hx.1.2.1; have := hs.1.2.1; dsimp only; omega, hs.1.2.2⟩, hx.2⟩) _ _ (fun s hs => by cases hs) fun s hs hlt => ?_
    obtain ⟨x, hx, rfl⟩ := List.mem_map.1 hs
    have h1 := h.bd x hx
    refine ⟨?_, h.2 x hx⟩
    simp only [clip] at *
    omega
  exact ⟨fun s hs => (key s hs).1, fun s hs => (key s hs).2⟩
theorem quS_zero {l : List Tst} {a b : Int} (h : b ≤ a) : quS l a b = 0 := by
  rw [quS]
  induction l with
  | nil => rfl
  | cons s r ih => rw [List.map_cons, List.sum_cons, ih, quS1, if_pos (by simp only [dys]; omega)]; rfl
/-- Years of service. -/
theorem yq_B {l : List Tst} {a b : Int} (h : isB l) (hl : l.length ≤ 500000) : yq l a b = some (kfr (quS l a b) 1461) := by
  rw [yq, kfr_big (by decide)]
  split
  · rename_i hba
    rw [quS_zero hba]; decide +kernel
  · obtain ⟨h1, h2⟩ := cut_B (a := a) (b := b) h
    have hlen : (cutT l a b).length ≤ l.length := by have := pst_len (l.map (clip a b)) []; simp at this; exact this
    have := sum_take h1 h2 (by omega) _ (Nat.le_refl _)
    rw [List.take_length, wsum_cut] at this
    rw [this.1, Option.bind_some, mulO, mulq4, if_pos (short_divInt (by decide) (by omega) (by omega) (by decide))]
/-! Days worked. -/
theorem quW_B {l : List Tst} {a b : Int} (h : isB l) (hab : a < b) : dayS (wkS l a b) = quW l a b := by
  have key : ∀ r : List Tst, (∀ s ∈ r, s ∈ l) → dayS (wkS r a b) = quW r a b := by
    intro r
    induction r with
    | nil => intro _; rfl
    | cons s r ih =>
      intro hr
      have ih := ih fun x hx => hr x (List.mem_cons_of_mem _ hx)
      have hs := hr s (List.mem_cons_self ..)
      obtain ⟨h1, h2, h3⟩ := h.bd s hs
      obtain ⟨q, q0, q4', e⟩ := h.2 s hs
      obtain ⟨_, _, f1, _, f2⟩ := qv_facts q0 q4'
      have e1 : quW (s :: r) a b = quW1 a b s + quW r a b := rfl
      rw [e1, ← ih]
      by_cases hi : idle a b s = true
      · have e2 : wkS (s :: r) a b = wkS r a b := by rw [wkS, List.filter_cons]; simp [hi, wkS]
        rw [e2, quW1]
        split
        · omega
        · rename_i hd
          have hi' := idle_iff.1 hi
          rw [e] at hi' ⊢
          rw [f2]
          simp only [dys] at hd
          have : q = 0 := f1.1 (by omega)
          rw [if_pos this]; omega
      · have e2 : wkS (s :: r) a b = clipS a b s :: wkS r a b := by rw [wkS, List.filter_cons]; simp [hi, wkS]
        have hi' : ¬ _ := fun h' => hi (idle_iff.2 h')
        have e3 : dayS (clipS a b s :: wkS r a b) = dys a b s + dayS (wkS r a b) := by simp [dayS, clipS, dys]
        rw [e2, e3, quW1, if_neg (by simp only [dys]; omega), e, f2, if_neg (fun hq => by rw [e] at hi'; have := f1.2 hq; omega)]
        omega
  exact key l fun s hs => hs
theorem bef_all {l : List Sn} (h : sVal l = true) : bef l 65536 = dayS l := by
  rw [bef, dayS]
  congr 1
  refine List.map_congr_left fun s hs => ?_
  obtain ⟨i, hi, e⟩ := List.getElem_of_mem hs
  have h1 := sVal_at h hi
  rw [List.getD_eq_getElem?_getD, List.getElem?_eq_getElem hi] at h1
  have h1 : 0 ≤ s.lo ∧ s.lo < s.hi ∧ s.hi ≤ 65536 := by rw [← e]; exact h1
  simp only [befS]; rw [if_pos (by omega)]; omega
theorem quW_zero {l : List Tst} {a b : Int} (h : b ≤ a) : quW l a b = 0 := by
  rw [quW]
  induction l with
  | nil => rfl
  | cons s r ih => rw [List.map_cons, List.sum_cons, ih, quW1, if_pos (by simp only [dys]; omega)]; rfl
theorem days_B {l : List Tst} {a b : Int} (h : isB l) (h0 : 0 ≤ a) (h1 : b ≤ 65536) : sVal (wkd l a b) = true ∧ bef (wkd l a b) 65536 = quW l a b := by
  obtain ⟨e1, e2⟩ := wkd_set h.1 h0 h1
  refine ⟨e1, ?_⟩
  rw [bef_all e1, e2]
  split
  · rename_i hab; rw [quW_zero hab]
  · exact quW_B h (by omega)
/-! Bounds. -/
theorem dys_sum {a b : Int} : ∀ (l : List Tst) (c : Int), (∀ s ∈ l, s.lo < s.hi ∧ c ≤ s.lo) → l.Pairwise (fun s t => s.hi ≤ t.lo) → (l.map fun s => max 0 (dys a b s)).sum ≤ max 0 (b - max a c)
  | [], c, _, _ => by simp; omega
  | s :: r, c, hl, hp => by
    have h1 := hl s (List.mem_cons_self ..)
    have hp := List.pairwise_cons.1 hp
    have ih := dys_sum (a := a) (b := b) r s.hi (fun t ht => ⟨(hl t (List.mem_cons_of_mem _ ht)).1, hp.1 t ht⟩) hp.2
    rw [List.map_cons, List.sum_cons]
    simp only [dys] at *
    omega
theorem quS_bd {l : List Tst} {a b : Int} (h : isB l) : 0 ≤ quS l a b ∧ quS l a b ≤ 4 * max 0 (b - a) := by
  have h1 := dys_sum (a := a) (b := b) l 0 (fun s hs => ⟨(h.bd s hs).2.1, (h.bd s hs).1⟩) (tRight_pair h.1)
  have key : ∀ r : List Tst, (∀ s ∈ r, s ∈ l) → 0 ≤ quS r a b ∧ quS r a b ≤ 4 * (r.map fun s => max 0 (dys a b s)).sum := by
    intro r
    induction r with
    | nil => intro _; simp [quS]
    | cons s r ih =>
      intro hr
      have ih := ih fun x hx => hr x (List.mem_cons_of_mem _ hx)
      obtain ⟨q, q0, q4', e⟩ := h.2 s (hr s (List.mem_cons_self ..))
      have e1 : quS (s :: r) a b = quS1 a b s + quS r a b := rfl
      have e2 : quS1 a b s = if dys a b s ≤ 0 then 0 else q * dys a b s := by rw [quS1, e, (qv_facts q0 q4').2.2.2.1]
      rw [List.map_cons, List.sum_cons, e1, e2]
      split
      · omega
      · have := Int.mul_nonneg q0 (show 0 ≤ dys a b s by omega)
        have := Int.mul_le_mul_of_nonneg_right q4' (show 0 ≤ dys a b s by omega)
        omega
  have h2 := key l fun s hs => hs
  have h3 : max 0 (b - max a 0) ≤ max 0 (b - a) := by omega
  omega
end An.S

/- Law 8: ServiceCounts. -/
namespace An.S
open Go Go.Proofs An
set_option maxHeartbeats 2000000
theorem fi12 : FnI Tryz.prog 12 := ⟨_, Tryz.func12, by kernel_rfl, rfl⟩
theorem fi13 : FnI Tryz.prog 13 := ⟨_, Tryz.func13, by kernel_rfl, rfl⟩
theorem fi14 : FnI Tryz.prog 14 := ⟨_, Tryz.func14, by kernel_rfl, rfl⟩
theorem isB.ask {l : List Tst} {a b : Int} (h : isB l) (ha : 0 ≤ a ∧ a ≤ 65536) (hb : 0 ≤ b ∧ b ≤ 65536) : askB l a b = true := askB_iff.2 ⟨h.right, ha.1, ha.2, hb.1, hb.2⟩
theorem c_YearsB (l : List Tst) (a b : Int) (h : isB l) (hl : l.length ≤ 41) (ha : 0 ≤ a ∧ a ≤ 65536) (hb : 0 ≤ b ∧ b ≤ 65536) : Ct Tryz.prog 15 [tL 8 true tTs l, tI a, tI b] (tT [tFr (fr (kfr (quS l a b) 1461)), tI 0]) :=
  c_YearsV l a b _ (by omega) h.dig (h.ask ha hb) (yq_B h (by omega))
theorem c_WorkedB (l : List Tst) (a b : Int) (h : isB l) (hl : l.length ≤ 41) (ha : 0 ≤ a ∧ a ≤ 65536) (hb : 0 ≤ b ∧ b ≤ 65536) : Ct Tryz.prog 24 [tL 8 true tTs l, tI a, tI b] (tT [tL 2 true tSn (wkd l a b), tI 0]) :=
  c_WorkedV l a b _ (by omega) h.dig (h.ask ha hb) rfl
end An.S

/- Law 8: ServiceBounds, ServiceCaps. -/
namespace An.S
open Go Go.Proofs An
set_option maxHeartbeats 2000000
theorem short_kfr {x d : Int} (hd : 0 < d) (h1 : -9223372036854775808 ≤ x) (h2 : x ≤ 9223372036854775807) (h3 : d ≤ 9223372036854775807) : short (kfr x d) := by
  rw [kfr_big (by omega)]; exact short_divInt hd h1 h2 h3
theorem c_sameFE (f g : Fr) (e : f = g) : Ct Tryz.prog 19 [tFr f, tFr g] (tB true) := by
  subst e; exact c_sameF f
end An.S

/- What the readers of law 8 read: lists of numbers, numbers. -/
namespace An.S
open Go Go.Proofs An
open Go.ChangeShapes Go.WideShapes Go.ChangeAt Go.RowKit
set_option maxRecDepth 100000
theorem own : ownKnob Tryz.prog.godebug = none := by kernel_rfl
theorem laidOut : laidOutB Tryz.prog = true := by kernel_rfl
theorem oInt : Opn Tryz.prog 3 1 false (fun n : Int => tI n) (fun n => IntKind.i64.min ≤ n ∧ n ≤ IntKind.i64.max) := Opn.int Tryz.underlying3 (by kernel_rfl)
theorem oU16 : Opn Tryz.prog 47 1 false (fun n : Nat => tE (.int .u16 n)) (fun n => n < 65536) := Opn.nat Tryz.underlying47 (by kernel_rfl) rfl rfl
theorem oLm : Opn Tryz.prog 22 1 false (fun l : List Nat => tLm l) (fun l => Dig 65536 l) := (Opn.slice Tryz.underlying22 (by kernel_rfl) oU16).as id (fun _ => rfl) (fun _ h => h)
/-- What a contract says, as the frame of a statement wants it. -/
theorem walked {f : FuncId} {ts : List Ty} (h : Ct Tryz.prog f ts (tB true)) {vs : List Value} {W : World} (ha : Tup.all (Old W) W ts vs) : Calls Tryz.prog f vs.toArray W fun e W' => e = .returned (.bool true) ∧ Ext W W' :=
  (h (Old W) W vs ha).mono fun e W' ⟨v, h1, h2, h3⟩ => by
    have h3 : v = .bool true := h3
    subst h3; exact ⟨h1, h2⟩
end An.S

/- Layer 4: sets are swept day by day. Plain data. -/
namespace An.S
open Go
/-- The i-th border of a set. -/
def bd (l : List Sn) (i : Nat) : Int := if i % 2 = 0 then (l.getD (i / 2) sn0).lo else (l.getD (i / 2) sn0).hi
/-- The next day at which something changes, if the borders i and j come next. -/
def cday1 (a : List Sn) (i : Nat) : Int := if i < 2 * a.length then min 65536 (bd a i) else 65536
def cday (a b : List Sn) (i j : Nat) : Int := if j < 2 * b.length then min (cday1 a i) (bd b j) else cday1 a i
def cnxt (a : List Sn) (i : Nat) (d : Int) : Nat := if i < 2 * a.length ∧ bd a i = d then i + 1 else i
abbrev Ch := Int × Nat × Nat
def ch0 : Ch := (0, 0, 0)
def chL (a b : List Sn) : Nat → Nat → Nat → List Ch
  | 0, _, _ => []
  | f + 1, i, j => if i < 2 * a.length ∨ j < 2 * b.length then (cday a b i j, cnxt a i (cday a b i j), cnxt b j (cday a b i j)) :: chL a b f (cnxt a i (cday a b i j)) (cnxt b j (cday a b i j)) else []
def chAll (a b : List Sn) : List Ch := chL a b (2 * a.length + 2 * b.length) 0 0
theorem bd_le {l : List Sn} {i : Nat} (h : sVal l = true) (hi : i < 2 * l.length) : 0 ≤ bd l i ∧ bd l i ≤ 65536 := by
  have := sVal_at h (i := i / 2) (by omega)
  rw [bd]; split <;> omega
theorem bd_succ {l : List Sn} {i : Nat} (h : sVal l = true) (hi : i + 1 < 2 * l.length) : bd l i < bd l (i + 1) := by
  rcases Nat.mod_two_eq_zero_or_one i with h0 | h0
  · have := sVal_at h (i := i / 2) (by omega)
    rw [bd, bd, if_pos h0, if_neg (by omega), show (i + 1) / 2 = i / 2 by omega]; exact this.2.1
  · have := (sOkA_iff.1 (sVal_iff.1 h ((i + 1) / 2) (by omega))).2.2.resolve_left (by omega)
    rw [bd, bd, if_neg (by omega), if_pos (by omega)]
    rw [show (i + 1) / 2 - 1 = i / 2 by omega] at this; exact this
theorem bd_lt {l : List Sn} (h : sVal l = true) : ∀ {j i : Nat}, i < j → j < 2 * l.length → bd l i < bd l j
  | j + 1, i, hij, hj => by
    have h1 := bd_succ h hj
    rcases Nat.lt_or_ge i j with h2 | h2
    · have := bd_lt h h2 (by omega); omega
    · have : i = j := by omega
      subst this; exact h1
/-- One of two borders is reached. -/
theorem cday_is {a b : List Sn} {i j : Nat} (ha : sVal a = true) (hb : sVal b = true) (h : i < 2 * a.length ∨ j < 2 * b.length) : (i < 2 * a.length → cday a b i j ≤ bd a i) ∧ (j < 2 * b.length → cday a b i j ≤ bd b j) ∧ (i < 2 * a.length ∧ cday a b i j = bd a i ∨ j < 2 * b.length ∧ cday a b i j = bd b j) := by
  have h1 := fun hi => bd_le (i := i) ha hi
  have h2 := fun hj => bd_le (i := j) hb hj
  simp only [cday, cday1]
  by_cases hi : i < 2 * a.length
  · have h1 := h1 hi
    by_cases hj : j < 2 * b.length
    · have h2 := h2 hj
      rw [if_pos hj, if_pos hi]; omega
    · rw [if_neg hj, if_pos hi]; omega
  · have hj : j < 2 * b.length := h.resolve_left hi
    have h2 := h2 hj
    rw [if_pos hj, if_neg hi]; omega
theorem cnxt_adv {a b : List Sn} {i j : Nat} (ha : sVal a = true) (hb : sVal b = true) (h : i < 2 * a.length ∨ j < 2 * b.length) : i ≤ cnxt a i (cday a b i j) ∧ cnxt a i (cday a b i j) ≤ i + 1 ∧ j ≤ cnxt b j (cday a b i j) ∧ cnxt b j (cday a b i j) ≤ j + 1 ∧ i + j < cnxt a i (cday a b i j) + cnxt b j (cday a b i j) := by
  have := (cday_is ha hb h).2.2
  generalize cday a b i j = d at *
  simp only [cnxt]
  rcases this with h1 | h1
  · rw [if_pos ⟨h1.1, h1.2.symm⟩]; split <;> omega
  · rw [if_pos (c := j < 2 * b.length ∧ bd b j = d) ⟨h1.1, h1.2.symm⟩]; split <;> omega
theorem cnxt_le {a : List Sn} {i : Nat} {d : Int} (h : i ≤ 2 * a.length) : cnxt a i d ≤ 2 * a.length := by rw [cnxt]; split <;> omega
theorem drop_cons {α : Type} {l r : List α} {x : α} {k : Nat} (h : l.drop k = x :: r) : k < l.length ∧ l[k]? = some x ∧ l.drop (k + 1) = r := by
  have hk : k < l.length := by
    rcases Nat.lt_or_ge k l.length with h1 | h1
    · exact h1
    · rw [List.drop_eq_nil_of_le h1] at h; cases h
  rw [List.drop_eq_getElem_cons hk, List.cons.injEq] at h
  exact ⟨hk, by rw [List.getElem?_eq_getElem hk, h.1], h.2⟩
/-- The round k, with the borders i and j next. -/
def CI (a b : List Sn) (k i j : Nat) : Prop := i ≤ 2 * a.length ∧ j ≤ 2 * b.length ∧ k ≤ (chAll a b).length ∧ ∃ f, chL a b f i j = (chAll a b).drop k ∧ 2 * a.length + 2 * b.length ≤ f + (i + j)
theorem CI.next {a b : List Sn} {k i j : Nat} (ha : sVal a = true) (hb : sVal b = true) (h : CI a b k i j) (hij : i < 2 * a.length ∨ j < 2 * b.length) : k < (chAll a b).length ∧ (chAll a b).getD k ch0 = (cday a b i j, cnxt a i (cday a b i j), cnxt b j (cday a b i j)) ∧ CI a b (k + 1) (cnxt a i (cday a b i j)) (cnxt b j (cday a b i j)) ∧ i + j < cnxt a i (cday a b i j) + cnxt b j (cday a b i j) := by
  obtain ⟨h1, h2, h3, f, h4, h5⟩ := h
  have hadv := cnxt_adv ha hb hij
  cases f with
  | zero => omega
  | succ f =>
    rw [chL, if_pos hij] at h4
    obtain ⟨e1, e2, e3⟩ := drop_cons h4.symm
    refine ⟨e1, by rw [List.getD_eq_getElem?_getD, e2]; rfl, ⟨cnxt_le h1, cnxt_le h2, e1, f, e3.symm, by omega⟩, hadv.2.2.2.2⟩
theorem CI.stop {a b : List Sn} {k i j : Nat} (h : CI a b k i j) (hij : ¬ (i < 2 * a.length ∨ j < 2 * b.length)) : (chAll a b).length ≤ k := by
  obtain ⟨_, _, _, f, h4, _⟩ := h
  have : chL a b f i j = [] := by cases f with
    | zero => rfl
    | succ f => rw [chL, if_neg hij]
  rw [this] at h4
  have := congrArg List.length h4
  simp at this; omega
theorem CI.zero {a b : List Sn} : CI a b 0 0 0 := ⟨Nat.zero_le _, Nat.zero_le _, Nat.zero_le _, _, rfl, by omega⟩
theorem chAll_len {a b : List Sn} : (chAll a b).length ≤ 2 * a.length + 2 * b.length := by
  have key : ∀ f i j, (chL a b f i j).length ≤ f := by
    intro f
    induction f with
    | zero => intro i j; exact Nat.le_refl _
    | succ f ih => intro i j; rw [chL]; split
                   · have := ih (cnxt a i (cday a b i j)) (cnxt b j (cday a b i j)); simp only [List.length_cons]; omega
                   · simp
  exact key _ _ _
/-- What is chosen. -/
structure Ck where
  xs : List Sn
  lo : Int
  ins : Bool
def ck1 (kp : Bool → Bool → Bool) (s : Ck) (c : Ch) : Ck :=
  ⟨if s.ins && !kp (c.2.1 % 2 == 1) (c.2.2 % 2 == 1) then s.xs ++ [⟨if kp (c.2.1 % 2 == 1) (c.2.2 % 2 == 1) && !s.ins then c.1 else s.lo, c.1⟩] else s.xs, if kp (c.2.1 % 2 == 1) (c.2.2 % 2 == 1) && !s.ins then c.1 else s.lo, kp (c.2.1 % 2 == 1) (c.2.2 % 2 == 1)⟩
def ckRun (kp : Bool → Bool → Bool) (a b : List Sn) : Ck := (chAll a b).foldl (ck1 kp) ⟨[], 0, false⟩
theorem ck_next {α β : Type} {f : β → α → β} {l : List α} {k : Nat} {s R : β} {d : α} (hk : k < l.length) (h : (l.drop k).foldl f s = R) : (l.drop (k + 1)).foldl f (f s (l.getD k d)) = R := by
  rw [List.drop_eq_getElem_cons hk, List.foldl_cons] at h
  rw [List.getD_eq_getElem?_getD, List.getElem?_eq_getElem hk]; exact h
end An.S

/- Layer 4: unions, meets. -/
namespace An.S
open Go Go.Proofs An
set_option maxHeartbeats 2000000
theorem ti54 : TyI Tryz.prog 54 1 false := ⟨by kernel_rfl, by kernel_rfl⟩
theorem ti100 : TyI Tryz.prog 100 2 true := ⟨by kernel_rfl, by kernel_rfl⟩
theorem ti101 : TyI Tryz.prog 101 1 false := ⟨by kernel_rfl, by kernel_rfl⟩
theorem fo100_0 : fieldO Tryz.prog 100 0 = some 0 := by kernel_rfl
theorem fo100_1 : fieldO Tryz.prog 100 1 = some 1 := by kernel_rfl
theorem fi66 : FnI Tryz.prog 66 := ⟨_, Tryz.func66, by kernel_rfl, rfl⟩
theorem fi67 : FnI Tryz.prog 67 := ⟨_, Tryz.func67, by kernel_rfl, rfl⟩
theorem fi98 : FnI Tryz.prog 98 := ⟨_, Tryz.func98, by kernel_rfl, rfl⟩
theorem fi124 : FnI Tryz.prog 124 := ⟨_, Tryz.func124, by kernel_rfl, rfl⟩
theorem fi125 : FnI Tryz.prog 125 := ⟨_, Tryz.func125, by kernel_rfl, rfl⟩
theorem zr3 : (Tryz.prog.info? 3).bind (·.zero) = some (.int .i64 0) ∧ ∀ F w, (tE (.int .i64 0)).p F w (.int .i64 0) := ⟨by kernel_rfl, fun _ _ => rfl⟩
theorem zr4 : (Tryz.prog.info? 4).bind (·.zero) = some (.bool false) ∧ ∀ F w, (tE (.bool false)).p F w (.bool false) := ⟨by kernel_rfl, fun _ _ => rfl⟩
theorem zr54 : (Tryz.prog.info? 54).bind (·.zero) = some (.slice none 0 0) ∧ ∀ F w, (tE (.slice none 0 0)).p F w (.slice none 0 0) := ⟨by kernel_rfl, fun _ _ => rfl⟩
theorem zr100 : (Tryz.prog.info? 100).bind (·.zero) = some (.agg #[.bool false, .bool false]) ∧ ∀ F w, (tS [⟨1, false, (tE (.bool false))⟩, ⟨1, false, (tE (.bool false))⟩]).p F w (.agg #[.bool false, .bool false]) := ⟨by kernel_rfl, fun _ _ => ⟨_, rfl, rfl, ⟨fun _ => rfl, rfl⟩, ⟨fun _ => rfl, rfl⟩, trivial⟩⟩
theorem bu100 : BuI Tryz.prog 100 (fun i => [(0, 1), (1, 1)][i]?) (.agg #[.bool false, .bool false]) := BuI.struct Tryz.underlying100 (by kernel_rfl) (by kernel_rfl)
theorem c_border (l : List Sn) (i : Nat) (hi : i < 2 * l.length) (hl : l.length ≤ 1000000) :
  Ct Tryz.prog 125 [tL 2 true tSn l, tI i] (tI (bd l i)) := by
 refine Ct.intro Tryz.func125 rfl Tryz.ntmps125 rfl ?_
 intro w F
 refine C_seq ?_
 refine C_reg ?_
 refine R1 d_assign rfl ?_
 refine R_nil (by kernel_rfl) ?_
 refine K_then ?_
 refine C_seq ?_
 refine C_seq ?_
 refine C_reg ?_
 refine R1 d_move rfl ?_
 refine R2 (d_remP (by omega) (by omega)) rfl rfl ?_
 refine R2 d_eql rfl rfl ?_
 refine R_nil (by kernel_rfl) ?_
 refine K_then ?_
 refine C_if rfl (fun h53 => ?_) (fun h53 => ?_)
 ·
  refine C_seq ?_
  refine C_reg ?_
  refine R1 d_move rfl ?_
  refine R1 d_move rfl ?_
  refine R2 (d_quoP (by omega) (by omega) (wr64 (by omega) (by omega))) rfl rfl ?_
  refine R2 (d_indexP sl54 (i / 2) (by omega) (gD (l := l) (n := i / 2) (d := sn0) (by omega))) rfl rfl ?_
  refine R1 (d_fieldP fo69_0 (At.f 0 rfl rfl) rfl) rfl ?_
  refine R1 (d_loadP ti3) rfl ?_
  refine R1 d_assign rfl ?_
  refine R_nil (by kernel_rfl) ?_
  refine K_then ?_
  refine C_ret ?_
  refine K_retT ?_
  exact E_ret1 Plain.mk' rfl rfl (Le.int (by rw [bd, if_pos (by omega)]))
 ·
  refine C_skip ?_
  refine K_then ?_
  refine C_seq ?_
  refine C_reg ?_
  refine R1 d_move rfl ?_
  refine R1 d_move rfl ?_
  refine R2 (d_quoP (by omega) (by omega) (wr64 (by omega) (by omega))) rfl rfl ?_
  refine R2 (d_indexP sl54 (i / 2) (by omega) (gD (l := l) (n := i / 2) (d := sn0) (by omega))) rfl rfl ?_
  refine R1 (d_fieldP fo69_1 (At.f 1 rfl rfl) rfl) rfl ?_
  refine R1 (d_loadP ti3) rfl ?_
  refine R1 d_assign rfl ?_
  refine R_nil (by kernel_rfl) ?_
  refine K_then ?_
  refine C_ret ?_
  exact E_ret1 Plain.mk' rfl rfl (Le.int (by rw [bd, if_neg (by omega)]))
theorem c_changes (a b : List Sn) :
  CtG Tryz.prog 98 [] [.val (tL 2 true tSn a), .val (tL 2 true tSn b)] (.own (.fn 124 [.ptr 2 0, .ptr 3 0])) [(2, ⟨54, 1, false, [.val (tL 2 true tSn a)]⟩), (3, ⟨54, 1, false, [.val (tL 2 true tSn b)]⟩)] [2, 3] := by
 refine CtG.intro [] Tryz.func98 rfl Tryz.ntmps98 rfl rfl trivial ?_
 intro w F η
 refine C_seq ?_
 refine C_reg ?_
 refine RE (d_box (k := 2) ti54 rfl) ⟨rfl, trivial⟩ trivial ⟨rfl, trivial⟩ ?_
 refine RE (d_box (k := 3) ti54 rfl) ⟨rfl, trivial⟩ trivial ⟨rfl, trivial⟩ ?_
 refine R1 d_assign rfl ?_
 refine R_nil (by kernel_rfl) ?_
 refine K_then ?_
 refine C_seq ?_
 refine C_reg ?_
 refine R2 (d_makeFunc (ps := [.ptr 2 0, .ptr 3 0]) rfl) rfl rfl ?_
 refine R1 d_assign rfl ?_
 refine R_nil (by kernel_rfl) ?_
 refine K_then ?_
 refine C_ret ?_
 exact E_retG1 LentC.mk' rfl rfl Imp.refl ⟨rfl, rfl, trivial⟩ rfl ⟨⟨rfl, (SupX.lit rfl)⟩, ⟨rfl, (SupX.lit rfl)⟩, trivial⟩ rfl
abbrev tMem (x y : Bool) : Ty := tS [⟨1, false, tB x⟩, ⟨1, false, tB y⟩]
def chY (a b : List Sn) (k : Nat) : List Ty := [tI ((chAll a b).getD k ch0).1, tMem (((chAll a b).getD k ch0).2.1 % 2 == 1) (((chAll a b).getD k ch0).2.2 % 2 == 1)]
theorem mod_eq {n : Nat} : decide ((n : Int) % 2 = 1) = (n % 2 == 1) := by
  rw [Bool.eq_iff_iff]; simp; omega
theorem ch_le {a b : List Sn} {k : Nat} {c : Ch} (h : (chAll a b).getD k ch0 = c) : LeL [tI c.1, tMem (decide ((c.2.1 : Int) % 2 = 1)) (decide ((c.2.2 : Int) % 2 = 1))] (chY a b k) := by
  rw [chY, h, mod_eq, mod_eq]; exact ⟨Le.refl, Le.refl, trivial⟩
theorem i_changes (a b : List Sn) (ha : sVal a = true) (hb : sVal b = true) (hla : a.length ≤ 1000000) (hlb : b.length ≤ 1000000) :
  ItC Tryz.prog 124 [(1, ⟨54, 1, false, [.val (tL 2 true tSn a)]⟩), (2, ⟨54, 1, false, [.val (tL 2 true tSn b)]⟩)] [.ptr 1 0, .ptr 2 0] ((chAll a b).length) (chY a b) := by
 refine ItC.intro (K := 99) [1, 2] Tryz.func124 rfl Tryz.ntmps124 rfl rfl ⟨⟨rfl, (SupX.lit rfl)⟩, ⟨rfl, (SupX.lit rfl)⟩, trivial⟩ rfl ?_
 intro w F η l V J Jc hB
 refine C_seq ?_
 refine C_reg ?_
 refine R1 d_assign rfl ?_
 refine R1 d_assign rfl ?_
 refine R_nil (by kernel_rfl) ?_
 refine K_then ?_
 refine C_block ?_
 refine C_loop (fun (fm : (Nat) × (Nat) × (Nat)) => (fun (k : Nat) (i : Nat) (j : Nat) => CI a b k i j) fm.1 fm.2.1 fm.2.2) (fun (fm : (Nat) × (Nat) × (Nat)) => (fun (k : Nat) (i : Nat) (j : Nat) => upd (upd (upd (upd (upd (fun _ => none) 0 (some (.val (tE (.func (.yield l) #[] #[]))))) 1 (some (.own (.ptr 1 0)))) 2 (some (.own (.ptr 2 0)))) 4 (some (.val (tI i)))) 5 (some (.val (tI j)))) fm.1 fm.2.1 fm.2.2) (fun (fm : (Nat) × (Nat) × (Nat)) => (fun (k : Nat) (i : Nat) (j : Nat) => upd (upd (upd (fun _ => none) 1 (some (⟨54, 1, false, [.val (tL 2 true tSn a)]⟩))) 2 (some (⟨54, 1, false, [.val (tL 2 true tSn b)]⟩))) 99 (some (⟨2 * k, 1, false, []⟩))) fm.1 fm.2.1 fm.2.2) (nm [1, 2, 99]) (fun (fm : (Nat) × (Nat) × (Nat)) => (fun (k : Nat) (i : Nat) (j : Nat) => 2 * a.length + 2 * b.length - (i + j)) fm.1 fm.2.1 fm.2.2) ((0, 0, 0)) (by dsimp only; exact CI.zero) (Sub.int rfl (by first | omega | rfl | (dsimp only; omega)) (Sub.int rfl (by first | omega | rfl | (dsimp only; omega)) (Sub.cons rfl (Sub.cons rfl (Sub.cons rfl Sub.nil))))) ((SubK.consI rfl ImpK.refl) ((SubK.consI rfl ImpK.refl) ((SubK.consI rfl ImpK.refl) SubK.nil))) (SupG.val (SupG.val (SupG.own rfl (SupG.own rfl (SupG.val SupG.nil))))) (SupH.cons rfl (supJL rfl) (SupH.cons rfl (supJL rfl) (SupH.cons rfl (supJL rfl) SupH.nil))) (lkOk rfl) ?_
 intro fm hI
 obtain ⟨k, i, j⟩ := fm
 replace hI : CI a b k i j := hI
 show wc _ _ _ _ (upd (upd (upd (upd (upd (fun _ => none) 0 (some (.val (tE (.func (.yield l) #[] #[]))))) 1 (some (.own (.ptr 1 0)))) 2 (some (.own (.ptr 2 0)))) 4 (some (.val (tI i)))) 5 (some (.val (tI j)))) (upd (upd (upd (fun _ => none) 1 (some (⟨54, 1, false, [.val (tL 2 true tSn a)]⟩))) 2 (some (⟨54, 1, false, [.val (tL 2 true tSn b)]⟩))) 99 (some (⟨2 * k, 1, false, []⟩))) _
 have hCI := hI
 have hi2 := hI.1
 have hj2 := hI.2.1
 refine C_seq ?_
 refine C_seq ?_
 refine C_reg ?_
 refine R1 d_move rfl ?_
 refine RE (d_load (0) ti54 rfl rfl) ⟨rfl, trivial⟩ ⟨rfl, trivial⟩ trivial ?_
 refine R1 (d_len Tryz.underlying54) rfl ?_
 refine R2 (d_mul (wr64 (by omega) (by omega))) rfl rfl ?_
 refine R2 d_lss rfl rfl ?_
 refine R1 d_move rfl ?_
 refine RGcaseD (t := 12) rfl (fun h66 => ?_) (fun h66 => ?_)
 ·
  refine RGoff (decide_eq_true h66) rfl rfl ?_
  refine RGoff (decide_eq_true h66) rfl rfl ?_
  refine RGoff (decide_eq_true h66) rfl rfl ?_
  refine RGoff (decide_eq_true h66) rfl rfl ?_
  refine RGoff (decide_eq_true h66) rfl rfl ?_
  refine R2 (d_pickT (decide_eq_true h66)) rfl rfl ?_
  refine R_nil (by kernel_rfl) ?_
  refine K_then ?_
  refine C_bT rfl rfl ?_
  refine C_skip ?_
  refine K_then ?_
  refine C_block ?_
  refine C_seq ?_
  have hij : i < 2 * a.length ∨ j < 2 * b.length := by omega
  refine C_reg ?_
  refine R1 d_assign rfl ?_
  refine R_nil (by kernel_rfl) ?_
  refine K_then ?_
  refine C_join (fun (d1 : Int) => d1 = cday1 a i) (fun (d1 : Int) => upd (upd (upd (upd (upd (upd (fun _ => none) 0 (some (.val (tE (.func (.yield l) #[] #[]))))) 1 (some (.own (.ptr 1 0)))) 2 (some (.own (.ptr 2 0)))) 4 (some (.val (tI i)))) 5 (some (.val (tI j)))) 6 (some (.val (tI d1)))) (fun (d1 : Int) => upd (upd (upd (fun _ => none) 1 (some (⟨54, 1, false, [.val (tL 2 true tSn a)]⟩))) 2 (some (⟨54, 1, false, [.val (tL 2 true tSn b)]⟩))) 99 (some (⟨2 * k, 1, false, []⟩))) (nm [1, 2, 99]) ?_ ?_
  ·
   refine C_seq ?_
   refine C_reg ?_
   refine R1 d_move rfl ?_
   refine RE (d_load (0) ti54 rfl rfl) ⟨rfl, trivial⟩ ⟨rfl, trivial⟩ trivial ?_
   refine R1 (d_len Tryz.underlying54) rfl ?_
   refine R2 (d_mul (wr64 (by omega) (by omega))) rfl rfl ?_
   refine R2 d_lss rfl rfl ?_
   refine R_nil (by kernel_rfl) ?_
   refine K_then ?_
   refine C_if rfl (fun h68 => ?_) (fun h68 => ?_)
   ·
    refine C_reg ?_
    refine R1 d_move rfl ?_
    refine RE (d_load (0) ti54 rfl rfl) ⟨rfl, trivial⟩ ⟨rfl, trivial⟩ trivial ?_
    refine R1 d_move rfl ?_
    refine R2 (d_call (c_border a i (by omega) (by omega)) fi125 rfl) rfl rfl ?_
    refine R2 d_min2 rfl rfl ?_
    refine R1 d_assign rfl ?_
    refine R_nil (by kernel_rfl) ?_
    exact K_fam (min 65536 (bd a i)) (by rw [cday1, if_pos (by omega)]) (Sub.int rfl (by first | omega | rfl | (dsimp only; omega)) (Sub.int rfl (by first | omega | rfl | (dsimp only; omega)) (Sub.int rfl (by first | omega | rfl | (dsimp only; omega)) (Sub.cons rfl (Sub.cons rfl (Sub.cons rfl Sub.nil)))))) ((SubK.consI rfl ImpK.refl) ((SubK.consI rfl ImpK.refl) ((SubK.consI rfl ImpK.refl) SubK.nil))) (SupG.val (SupG.val (SupG.val (SupG.own rfl (SupG.own rfl (SupG.val SupG.nil)))))) (SupH.cons rfl (supJL rfl) (SupH.cons rfl (supJL rfl) (SupH.cons rfl (supJL rfl) SupH.nil))) (lkOk rfl)
   ·
    refine C_skip ?_
    exact K_fam (65536) (by rw [cday1, if_neg (by omega)]) (Sub.int rfl (by first | omega | rfl | (dsimp only; omega)) (Sub.int rfl (by first | omega | rfl | (dsimp only; omega)) (Sub.int rfl (by first | omega | rfl | (dsimp only; omega)) (Sub.cons rfl (Sub.cons rfl (Sub.cons rfl Sub.nil)))))) ((SubK.consI rfl ImpK.refl) ((SubK.consI rfl ImpK.refl) ((SubK.consI rfl ImpK.refl) SubK.nil))) (SupG.val (SupG.val (SupG.val (SupG.own rfl (SupG.own rfl (SupG.val SupG.nil)))))) (SupH.cons rfl (supJL rfl) (SupH.cons rfl (supJL rfl) (SupH.cons rfl (supJL rfl) SupH.nil))) (lkOk rfl)
  ·
   intro d1 hj68
   refine C_join (fun (d2 : Int) => d2 = (cday a b i j)) (fun (d2 : Int) => upd (upd (upd (upd (upd (upd (fun _ => none) 0 (some (.val (tE (.func (.yield l) #[] #[]))))) 1 (some (.own (.ptr 1 0)))) 2 (some (.own (.ptr 2 0)))) 4 (some (.val (tI i)))) 5 (some (.val (tI j)))) 6 (some (.val (tI d2)))) (fun (d2 : Int) => upd (upd (upd (fun _ => none) 1 (some (⟨54, 1, false, [.val (tL 2 true tSn a)]⟩))) 2 (some (⟨54, 1, false, [.val (tL 2 true tSn b)]⟩))) 99 (some (⟨2 * k, 1, false, []⟩))) (nm [1, 2, 99]) ?_ ?_
   ·
    refine C_seq ?_
    refine C_reg ?_
    refine R1 d_move rfl ?_
    refine RE (d_load (0) ti54 rfl rfl) ⟨rfl, trivial⟩ ⟨rfl, trivial⟩ trivial ?_
    refine R1 (d_len Tryz.underlying54) rfl ?_
    refine R2 (d_mul (wr64 (by omega) (by omega))) rfl rfl ?_
    refine R2 d_lss rfl rfl ?_
    refine R_nil (by kernel_rfl) ?_
    refine K_then ?_
    refine C_if rfl (fun h71 => ?_) (fun h71 => ?_)
    ·
     refine C_reg ?_
     refine R1 d_move rfl ?_
     refine RE (d_load (0) ti54 rfl rfl) ⟨rfl, trivial⟩ ⟨rfl, trivial⟩ trivial ?_
     refine R1 d_move rfl ?_
     refine R2 (d_call (c_border b j (by omega) (by omega)) fi125 rfl) rfl rfl ?_
     refine R2 d_min2 rfl rfl ?_
     refine R1 d_assign rfl ?_
     refine R_nil (by kernel_rfl) ?_
     exact K_fam (min d1 (bd b j)) (by rw [cday, if_pos (by omega), ← hj68]) (Sub.int rfl (by first | omega | rfl | (dsimp only; omega)) (Sub.int rfl (by first | omega | rfl | (dsimp only; omega)) (Sub.int rfl (by first | omega | rfl | (dsimp only; omega)) (Sub.cons rfl (Sub.cons rfl (Sub.cons rfl Sub.nil)))))) ((SubK.consI rfl ImpK.refl) ((SubK.consI rfl ImpK.refl) ((SubK.consI rfl ImpK.refl) SubK.nil))) (SupG.val (SupG.val (SupG.val (SupG.own rfl (SupG.own rfl (SupG.val SupG.nil)))))) (SupH.cons rfl (supJL rfl) (SupH.cons rfl (supJL rfl) (SupH.cons rfl (supJL rfl) SupH.nil))) (lkOk rfl)
    ·
     refine C_skip ?_
     exact K_fam (d1) (by rw [cday, if_neg (by omega), ← hj68]) (Sub.int rfl (by first | omega | rfl | (dsimp only; omega)) (Sub.int rfl (by first | omega | rfl | (dsimp only; omega)) (Sub.int rfl (by first | omega | rfl | (dsimp only; omega)) (Sub.cons rfl (Sub.cons rfl (Sub.cons rfl Sub.nil)))))) ((SubK.consI rfl ImpK.refl) ((SubK.consI rfl ImpK.refl) ((SubK.consI rfl ImpK.refl) SubK.nil))) (SupG.val (SupG.val (SupG.val (SupG.own rfl (SupG.own rfl (SupG.val SupG.nil)))))) (SupH.cons rfl (supJL rfl) (SupH.cons rfl (supJL rfl) (SupH.cons rfl (supJL rfl) SupH.nil))) (lkOk rfl)
   ·
    intro d2 hj71
    subst hj71
    refine C_join (fun (i2 : Nat) => i2 = cnxt a i (cday a b i j)) (fun (i2 : Nat) => upd (upd (upd (upd (upd (upd (fun _ => none) 0 (some (.val (tE (.func (.yield l) #[] #[]))))) 1 (some (.own (.ptr 1 0)))) 2 (some (.own (.ptr 2 0)))) 4 (some (.val (tI i2)))) 5 (some (.val (tI j)))) 6 (some (.val (tI (cday a b i j))))) (fun (i2 : Nat) => upd (upd (upd (fun _ => none) 1 (some (⟨54, 1, false, [.val (tL 2 true tSn a)]⟩))) 2 (some (⟨54, 1, false, [.val (tL 2 true tSn b)]⟩))) 99 (some (⟨2 * k, 1, false, []⟩))) (nm [1, 2, 99]) ?_ ?_
    ·
     refine C_seq ?_
     refine C_reg ?_
     refine R1 d_move rfl ?_
     refine RE (d_load (0) ti54 rfl rfl) ⟨rfl, trivial⟩ ⟨rfl, trivial⟩ trivial ?_
     refine R1 (d_len Tryz.underlying54) rfl ?_
     refine R2 (d_mul (wr64 (by omega) (by omega))) rfl rfl ?_
     refine R2 d_lss rfl rfl ?_
     refine R1 d_move rfl ?_
     refine RGcaseD (t := 44) rfl (fun h74 => ?_) (fun h74 => ?_)
     ·
      refine RGon (decide_eq_true h74) rfl (d_load (0) ti54 rfl rfl) rfl ⟨rfl, trivial⟩ ⟨rfl, trivial⟩ trivial ?_
      refine RGon (decide_eq_true h74) rfl d_move rfl ⟨rfl, trivial⟩ trivial trivial ?_
      refine RGon (decide_eq_true h74) rfl (d_call (c_border a i (by omega) (by omega)) fi125 rfl) rfl ⟨rfl, rfl, trivial⟩ trivial trivial ?_
      refine RGon (decide_eq_true h74) rfl d_move rfl ⟨rfl, trivial⟩ trivial trivial ?_
      refine RGon (decide_eq_true h74) rfl d_eql rfl ⟨rfl, rfl, trivial⟩ trivial trivial ?_
      refine R2 (d_pickT (decide_eq_true h74)) rfl rfl ?_
      refine R_nil (by kernel_rfl) ?_
      refine K_then ?_
      refine C_if rfl (fun h74_2 => ?_) (fun h74_2 => ?_)
      ·
       refine C_reg ?_
       refine R1 d_move rfl ?_
       refine R2 (d_add (wr64 (by omega) (by omega))) rfl rfl ?_
       refine R1 d_assign rfl ?_
       refine R_nil (by kernel_rfl) ?_
       exact K_fam (i + 1) (by rw [cnxt, if_pos ⟨by omega, h74_2⟩]) (Sub.int rfl (by first | omega | rfl | (dsimp only; omega)) (Sub.int rfl (by first | omega | rfl | (dsimp only; omega)) (Sub.int rfl (by first | omega | rfl | (dsimp only; omega)) (Sub.cons rfl (Sub.cons rfl (Sub.cons rfl Sub.nil)))))) ((SubK.consI rfl ImpK.refl) ((SubK.consI rfl ImpK.refl) ((SubK.consI rfl ImpK.refl) SubK.nil))) (SupG.val (SupG.val (SupG.val (SupG.own rfl (SupG.own rfl (SupG.val SupG.nil)))))) (SupH.cons rfl (supJL rfl) (SupH.cons rfl (supJL rfl) (SupH.cons rfl (supJL rfl) SupH.nil))) (lkOk rfl)
      ·
       refine C_skip ?_
       exact K_fam (i) (by rw [cnxt, if_neg (fun h => h74_2 h.2)]) (Sub.int rfl (by first | omega | rfl | (dsimp only; omega)) (Sub.int rfl (by first | omega | rfl | (dsimp only; omega)) (Sub.int rfl (by first | omega | rfl | (dsimp only; omega)) (Sub.cons rfl (Sub.cons rfl (Sub.cons rfl Sub.nil)))))) ((SubK.consI rfl ImpK.refl) ((SubK.consI rfl ImpK.refl) ((SubK.consI rfl ImpK.refl) SubK.nil))) (SupG.val (SupG.val (SupG.val (SupG.own rfl (SupG.own rfl (SupG.val SupG.nil)))))) (SupH.cons rfl (supJL rfl) (SupH.cons rfl (supJL rfl) (SupH.cons rfl (supJL rfl) SupH.nil))) (lkOk rfl)
     ·
      refine RGoff (decide_eq_false h74) rfl rfl ?_
      refine RGoff (decide_eq_false h74) rfl rfl ?_
      refine RGoff (decide_eq_false h74) rfl rfl ?_
      refine RGoff (decide_eq_false h74) rfl rfl ?_
      refine RGoff (decide_eq_false h74) rfl rfl ?_
      refine R2 (d_pickF (decide_eq_false h74)) rfl rfl ?_
      refine R_nil (by kernel_rfl) ?_
      refine K_then ?_
      refine C_bF rfl rfl ?_
      refine C_skip ?_
      exact K_fam (i) (by rw [cnxt, if_neg (fun h => by have := h.1; omega)]) (Sub.int rfl (by first | omega | rfl | (dsimp only; omega)) (Sub.int rfl (by first | omega | rfl | (dsimp only; omega)) (Sub.int rfl (by first | omega | rfl | (dsimp only; omega)) (Sub.cons rfl (Sub.cons rfl (Sub.cons rfl Sub.nil)))))) ((SubK.consI rfl ImpK.refl) ((SubK.consI rfl ImpK.refl) ((SubK.consI rfl ImpK.refl) SubK.nil))) (SupG.val (SupG.val (SupG.val (SupG.own rfl (SupG.own rfl (SupG.val SupG.nil)))))) (SupH.cons rfl (supJL rfl) (SupH.cons rfl (supJL rfl) (SupH.cons rfl (supJL rfl) SupH.nil))) (lkOk rfl)
    ·
     intro i2 hj74
     subst hj74
     refine C_join (fun (j2 : Nat) => j2 = cnxt b j (cday a b i j)) (fun (j2 : Nat) => upd (upd (upd (upd (upd (upd (fun _ => none) 0 (some (.val (tE (.func (.yield l) #[] #[]))))) 1 (some (.own (.ptr 1 0)))) 2 (some (.own (.ptr 2 0)))) 4 (some (.val (tI (cnxt a i (cday a b i j) : Nat))))) 5 (some (.val (tI j2)))) 6 (some (.val (tI (cday a b i j))))) (fun (j2 : Nat) => upd (upd (upd (fun _ => none) 1 (some (⟨54, 1, false, [.val (tL 2 true tSn a)]⟩))) 2 (some (⟨54, 1, false, [.val (tL 2 true tSn b)]⟩))) 99 (some (⟨2 * k, 1, false, []⟩))) (nm [1, 2, 99]) ?_ ?_
     ·
      refine C_seq ?_
      refine C_reg ?_
      refine R1 d_move rfl ?_
      refine RE (d_load (0) ti54 rfl rfl) ⟨rfl, trivial⟩ ⟨rfl, trivial⟩ trivial ?_
      refine R1 (d_len Tryz.underlying54) rfl ?_
      refine R2 (d_mul (wr64 (by omega) (by omega))) rfl rfl ?_
      refine R2 d_lss rfl rfl ?_
      refine R1 d_move rfl ?_
      refine RGcaseD (t := 58) rfl (fun h77 => ?_) (fun h77 => ?_)
      ·
       refine RGon (decide_eq_true h77) rfl (d_load (0) ti54 rfl rfl) rfl ⟨rfl, trivial⟩ ⟨rfl, trivial⟩ trivial ?_
       refine RGon (decide_eq_true h77) rfl d_move rfl ⟨rfl, trivial⟩ trivial trivial ?_
       refine RGon (decide_eq_true h77) rfl (d_call (c_border b j (by omega) (by omega)) fi125 rfl) rfl ⟨rfl, rfl, trivial⟩ trivial trivial ?_
       refine RGon (decide_eq_true h77) rfl d_move rfl ⟨rfl, trivial⟩ trivial trivial ?_
       refine RGon (decide_eq_true h77) rfl d_eql rfl ⟨rfl, rfl, trivial⟩ trivial trivial ?_
       refine R2 (d_pickT (decide_eq_true h77)) rfl rfl ?_
       refine R_nil (by kernel_rfl) ?_
       refine K_then ?_
       refine C_if rfl (fun h77_2 => ?_) (fun h77_2 => ?_)
       ·
        refine C_reg ?_
        refine R1 d_move rfl ?_
        refine R2 (d_add (wr64 (by omega) (by omega))) rfl rfl ?_
        refine R1 d_assign rfl ?_
        refine R_nil (by kernel_rfl) ?_
        exact K_fam (j + 1) (by rw [cnxt, if_pos ⟨by omega, h77_2⟩]) (Sub.int rfl (by first | omega | rfl | (dsimp only; omega)) (Sub.int rfl (by first | omega | rfl | (dsimp only; omega)) (Sub.int rfl (by first | omega | rfl | (dsimp only; omega)) (Sub.cons rfl (Sub.cons rfl (Sub.cons rfl Sub.nil)))))) ((SubK.consI rfl ImpK.refl) ((SubK.consI rfl ImpK.refl) ((SubK.consI rfl ImpK.refl) SubK.nil))) (SupG.val (SupG.val (SupG.val (SupG.own rfl (SupG.own rfl (SupG.val SupG.nil)))))) (SupH.cons rfl (supJL rfl) (SupH.cons rfl (supJL rfl) (SupH.cons rfl (supJL rfl) SupH.nil))) (lkOk rfl)
       ·
        refine C_skip ?_
        exact K_fam (j) (by rw [cnxt, if_neg (fun h => h77_2 h.2)]) (Sub.int rfl (by first | omega | rfl | (dsimp only; omega)) (Sub.int rfl (by first | omega | rfl | (dsimp only; omega)) (Sub.int rfl (by first | omega | rfl | (dsimp only; omega)) (Sub.cons rfl (Sub.cons rfl (Sub.cons rfl Sub.nil)))))) ((SubK.consI rfl ImpK.refl) ((SubK.consI rfl ImpK.refl) ((SubK.consI rfl ImpK.refl) SubK.nil))) (SupG.val (SupG.val (SupG.val (SupG.own rfl (SupG.own rfl (SupG.val SupG.nil)))))) (SupH.cons rfl (supJL rfl) (SupH.cons rfl (supJL rfl) (SupH.cons rfl (supJL rfl) SupH.nil))) (lkOk rfl)
      ·
       refine RGoff (decide_eq_false h77) rfl rfl ?_
       refine RGoff (decide_eq_false h77) rfl rfl ?_
       refine RGoff (decide_eq_false h77) rfl rfl ?_
       refine RGoff (decide_eq_false h77) rfl rfl ?_
       refine RGoff (decide_eq_false h77) rfl rfl ?_
       refine R2 (d_pickF (decide_eq_false h77)) rfl rfl ?_
       refine R_nil (by kernel_rfl) ?_
       refine K_then ?_
       refine C_bF rfl rfl ?_
       refine C_skip ?_
       exact K_fam (j) (by rw [cnxt, if_neg (fun h => by have := h.1; omega)]) (Sub.int rfl (by first | omega | rfl | (dsimp only; omega)) (Sub.int rfl (by first | omega | rfl | (dsimp only; omega)) (Sub.int rfl (by first | omega | rfl | (dsimp only; omega)) (Sub.cons rfl (Sub.cons rfl (Sub.cons rfl Sub.nil)))))) ((SubK.consI rfl ImpK.refl) ((SubK.consI rfl ImpK.refl) ((SubK.consI rfl ImpK.refl) SubK.nil))) (SupG.val (SupG.val (SupG.val (SupG.own rfl (SupG.own rfl (SupG.val SupG.nil)))))) (SupH.cons rfl (supJL rfl) (SupH.cons rfl (supJL rfl) (SupH.cons rfl (supJL rfl) SupH.nil))) (lkOk rfl)
     ·
      intro j2 hj77
      subst hj77
      refine C_seq ?_
      refine C_regY ?_
      refine wl_op d_move ⟨rfl, trivial⟩ trivial trivial rfl ?_
      refine wl_op d_move ⟨rfl, trivial⟩ trivial trivial rfl ?_
      refine wl_op d_move ⟨rfl, trivial⟩ trivial trivial rfl ?_
      refine wl_op (d_remP (by omega) (by omega)) ⟨rfl, rfl, trivial⟩ trivial trivial rfl ?_
      refine wl_op d_eql ⟨rfl, rfl, trivial⟩ trivial trivial rfl ?_
      refine wl_op d_move ⟨rfl, trivial⟩ trivial trivial rfl ?_
      refine wl_op (d_remP (by omega) (by omega)) ⟨rfl, rfl, trivial⟩ trivial trivial rfl ?_
      refine wl_op d_eql ⟨rfl, rfl, trivial⟩ trivial trivial rfl ?_
      refine wl_op (d_build (r := tS [⟨1, false, tB (decide ((cnxt a i (cday a b i j) : Nat) % 2 = (1 : Int)))⟩, ⟨1, false, tB (decide ((cnxt b j (cday a b i j) : Nat) % 2 = (1 : Int)))⟩]) (ts := [(0, tB (decide ((cnxt a i (cday a b i j) : Nat) % 2 = (1 : Int)))), (1, tB (decide ((cnxt b j (cday a b i j) : Nat) % 2 = (1 : Int))))]) bu100 zr100.2 ⟨_, rfl⟩ rfl ⟨_, _, _, _, rfl, Up.f (fs := [⟨1, false, (tE (.bool false))⟩, ⟨1, false, (tE (.bool false))⟩]) (f := ⟨1, false, (tE (.bool false))⟩) (fs' := [⟨1, false, tB (decide ((cnxt a i (cday a b i j) : Nat) % 2 = (1 : Int)))⟩, ⟨1, false, (tE (.bool false))⟩]) 0 rfl rfl rfl, inferInstance, ⟨_, _, _, _, rfl, Up.f (fs := [⟨1, false, tB (decide ((cnxt a i (cday a b i j) : Nat) % 2 = (1 : Int)))⟩, ⟨1, false, (tE (.bool false))⟩]) (f := ⟨1, false, (tE (.bool false))⟩) (fs' := [⟨1, false, tB (decide ((cnxt a i (cday a b i j) : Nat) % 2 = (1 : Int)))⟩, ⟨1, false, tB (decide ((cnxt b j (cday a b i j) : Nat) % 2 = (1 : Int)))⟩]) 1 rfl rfl rfl, inferInstance, Le.refl⟩⟩) ⟨rfl, rfl, trivial⟩ trivial trivial rfl ?_
      obtain ⟨hkN, hkc, hnx, hadv⟩ := hCI.next ha hb hij
      refine wl_yield (ts := [tI (cday a b i j), tMem (decide ((cnxt a i (cday a b i j) : Nat) % 2 = (1 : Int))) (decide ((cnxt b j (cday a b i j) : Nat) % 2 = (1 : Int)))]) hB (wanted_none rfl) rfl rfl ⟨rfl, rfl, trivial⟩ rfl rfl hkN (ch_le hkc) ?_ ?_
      ·
       refine wl_op d_not ⟨rfl, trivial⟩ trivial trivial rfl ?_
       refine wl_nil ?_
       refine K_then ?_
       refine C_bF rfl rfl ?_
       refine C_skip ?_
       refine K_norB ?_
       exact K_fam ((k + 1, cnxt a i (cday a b i j), cnxt b j (cday a b i j))) ⟨(by dsimp only; exact hnx), (by dsimp only; have := hnx.1; have := hnx.2.1; omega)⟩ (Sub.int rfl (by first | omega | rfl | (dsimp only; omega)) (Sub.int rfl (by first | omega | rfl | (dsimp only; omega)) (Sub.cons rfl (Sub.cons rfl (Sub.cons rfl Sub.nil))))) ((SubK.consI rfl ImpK.refl) ((SubK.consI rfl ImpK.refl) ((SubK.consI rfl ImpK.refl) SubK.nil))) (SupG.val (SupG.val (SupG.own rfl (SupG.own rfl (SupG.val SupG.nil))))) (SupH.cons rfl (supJL rfl) (SupH.cons rfl (supJL rfl) (SupH.cons rfl (supJL rfl) SupH.nil))) (lkOk rfl)
      ·
       refine wl_op d_not ⟨rfl, trivial⟩ trivial trivial rfl ?_
       refine wl_nil ?_
       refine K_then ?_
       refine C_bT rfl rfl ?_
       refine C_ret ?_
       refine K_retB ?_
       refine K_retT ?_
       refine K_retB ?_
       exact E_it hB rfl trivial rfl (.inl rfl) rfl (.inr ⟨k, hkN, rfl⟩)
 ·
  refine RGon (decide_eq_false h66) rfl d_move rfl ⟨rfl, trivial⟩ trivial trivial ?_
  refine RGon (decide_eq_false h66) rfl (d_load (0) ti54 rfl rfl) rfl ⟨rfl, trivial⟩ ⟨rfl, trivial⟩ trivial ?_
  refine RGon (decide_eq_false h66) rfl (d_len Tryz.underlying54) rfl ⟨rfl, trivial⟩ trivial trivial ?_
  refine RGon (decide_eq_false h66) rfl (d_mul (wr64 (by omega) (by omega))) rfl ⟨rfl, rfl, trivial⟩ trivial trivial ?_
  refine RGon (decide_eq_false h66) rfl d_lss rfl ⟨rfl, rfl, trivial⟩ trivial trivial ?_
  refine R2 (d_pickF (decide_eq_false h66)) rfl rfl ?_
  refine R_nil (by kernel_rfl) ?_
  refine K_then ?_
  refine C_if rfl (fun h66_2 => ?_) (fun h66_2 => ?_)
  ·
   refine C_skip ?_
   refine K_then ?_
   refine C_block ?_
   refine C_seq ?_
   have hij : i < 2 * a.length ∨ j < 2 * b.length := by omega
   refine C_reg ?_
   refine R1 d_assign rfl ?_
   refine R_nil (by kernel_rfl) ?_
   refine K_then ?_
   refine C_join (fun (d1 : Int) => d1 = cday1 a i) (fun (d1 : Int) => upd (upd (upd (upd (upd (upd (fun _ => none) 0 (some (.val (tE (.func (.yield l) #[] #[]))))) 1 (some (.own (.ptr 1 0)))) 2 (some (.own (.ptr 2 0)))) 4 (some (.val (tI i)))) 5 (some (.val (tI j)))) 6 (some (.val (tI d1)))) (fun (d1 : Int) => upd (upd (upd (fun _ => none) 1 (some (⟨54, 1, false, [.val (tL 2 true tSn a)]⟩))) 2 (some (⟨54, 1, false, [.val (tL 2 true tSn b)]⟩))) 99 (some (⟨2 * k, 1, false, []⟩))) (nm [1, 2, 99]) ?_ ?_
   ·
    refine C_seq ?_
    refine C_reg ?_
    refine R1 d_move rfl ?_
    refine RE (d_load (0) ti54 rfl rfl) ⟨rfl, trivial⟩ ⟨rfl, trivial⟩ trivial ?_
    refine R1 (d_len Tryz.underlying54) rfl ?_
    refine R2 (d_mul (wr64 (by omega) (by omega))) rfl rfl ?_
    refine R2 d_lss rfl rfl ?_
    refine R_nil (by kernel_rfl) ?_
    refine K_then ?_
    refine C_if rfl (fun h68 => ?_) (fun h68 => ?_)
    ·
     refine C_reg ?_
     refine R1 d_move rfl ?_
     refine RE (d_load (0) ti54 rfl rfl) ⟨rfl, trivial⟩ ⟨rfl, trivial⟩ trivial ?_
     refine R1 d_move rfl ?_
     refine R2 (d_call (c_border a i (by omega) (by omega)) fi125 rfl) rfl rfl ?_
     refine R2 d_min2 rfl rfl ?_
     refine R1 d_assign rfl ?_
     refine R_nil (by kernel_rfl) ?_
     exact K_fam (min 65536 (bd a i)) (by rw [cday1, if_pos (by omega)]) (Sub.int rfl (by first | omega | rfl | (dsimp only; omega)) (Sub.int rfl (by first | omega | rfl | (dsimp only; omega)) (Sub.int rfl (by first | omega | rfl | (dsimp only; omega)) (Sub.cons rfl (Sub.cons rfl (Sub.cons rfl Sub.nil)))))) ((SubK.consI rfl ImpK.refl) ((SubK.consI rfl ImpK.refl) ((SubK.consI rfl ImpK.refl) SubK.nil))) (SupG.val (SupG.val (SupG.val (SupG.own rfl (SupG.own rfl (SupG.val SupG.nil)))))) (SupH.cons rfl (supJL rfl) (SupH.cons rfl (supJL rfl) (SupH.cons rfl (supJL rfl) SupH.nil))) (lkOk rfl)
    ·
     refine C_skip ?_
     exact K_fam (65536) (by rw [cday1, if_neg (by omega)]) (Sub.int rfl (by first | omega | rfl | (dsimp only; omega)) (Sub.int rfl (by first | omega | rfl | (dsimp only; omega)) (Sub.int rfl (by first | omega | rfl | (dsimp only; omega)) (Sub.cons rfl (Sub.cons rfl (Sub.cons rfl Sub.nil)))))) ((SubK.consI rfl ImpK.refl) ((SubK.consI rfl ImpK.refl) ((SubK.consI rfl ImpK.refl) SubK.nil))) (SupG.val (SupG.val (SupG.val (SupG.own rfl (SupG.own rfl (SupG.val SupG.nil)))))) (SupH.cons rfl (supJL rfl) (SupH.cons rfl (supJL rfl) (SupH.cons rfl (supJL rfl) SupH.nil))) (lkOk rfl)
   ·
    intro d1 hj68
    refine C_join (fun (d2 : Int) => d2 = (cday a b i j)) (fun (d2 : Int) => upd (upd (upd (upd (upd (upd (fun _ => none) 0 (some (.val (tE (.func (.yield l) #[] #[]))))) 1 (some (.own (.ptr 1 0)))) 2 (some (.own (.ptr 2 0)))) 4 (some (.val (tI i)))) 5 (some (.val (tI j)))) 6 (some (.val (tI d2)))) (fun (d2 : Int) => upd (upd (upd (fun _ => none) 1 (some (⟨54, 1, false, [.val (tL 2 true tSn a)]⟩))) 2 (some (⟨54, 1, false, [.val (tL 2 true tSn b)]⟩))) 99 (some (⟨2 * k, 1, false, []⟩))) (nm [1, 2, 99]) ?_ ?_
    ·
     refine C_seq ?_
     refine C_reg ?_
     refine R1 d_move rfl ?_
     refine RE (d_load (0) ti54 rfl rfl) ⟨rfl, trivial⟩ ⟨rfl, trivial⟩ trivial ?_
     refine R1 (d_len Tryz.underlying54) rfl ?_
     refine R2 (d_mul (wr64 (by omega) (by omega))) rfl rfl ?_
     refine R2 d_lss rfl rfl ?_
     refine R_nil (by kernel_rfl) ?_
     refine K_then ?_
     refine C_if rfl (fun h71 => ?_) (fun h71 => ?_)
     ·
      refine C_reg ?_
      refine R1 d_move rfl ?_
      refine RE (d_load (0) ti54 rfl rfl) ⟨rfl, trivial⟩ ⟨rfl, trivial⟩ trivial ?_
      refine R1 d_move rfl ?_
      refine R2 (d_call (c_border b j (by omega) (by omega)) fi125 rfl) rfl rfl ?_
      refine R2 d_min2 rfl rfl ?_
      refine R1 d_assign rfl ?_
      refine R_nil (by kernel_rfl) ?_
      exact K_fam (min d1 (bd b j)) (by rw [cday, if_pos (by omega), ← hj68]) (Sub.int rfl (by first | omega | rfl | (dsimp only; omega)) (Sub.int rfl (by first | omega | rfl | (dsimp only; omega)) (Sub.int rfl (by first | omega | rfl | (dsimp only; omega)) (Sub.cons rfl (Sub.cons rfl (Sub.cons rfl Sub.nil)))))) ((SubK.consI rfl ImpK.refl) ((SubK.consI rfl ImpK.refl) ((SubK.consI rfl ImpK.refl) SubK.nil))) (SupG.val (SupG.val (SupG.val (SupG.own rfl (SupG.own rfl (SupG.val SupG.nil)))))) (SupH.cons rfl (supJL rfl) (SupH.cons rfl (supJL rfl) (SupH.cons rfl (supJL rfl) SupH.nil))) (lkOk rfl)
     ·
      refine C_skip ?_
      exact K_fam (d1) (by rw [cday, if_neg (by omega), ← hj68]) (Sub.int rfl (by first | omega | rfl | (dsimp only; omega)) (Sub.int rfl (by first | omega | rfl | (dsimp only; omega)) (Sub.int rfl (by first | omega | rfl | (dsimp only; omega)) (Sub.cons rfl (Sub.cons rfl (Sub.cons rfl Sub.nil)))))) ((SubK.consI rfl ImpK.refl) ((SubK.consI rfl ImpK.refl) ((SubK.consI rfl ImpK.refl) SubK.nil))) (SupG.val (SupG.val (SupG.val (SupG.own rfl (SupG.own rfl (SupG.val SupG.nil)))))) (SupH.cons rfl (supJL rfl) (SupH.cons rfl (supJL rfl) (SupH.cons rfl (supJL rfl) SupH.nil))) (lkOk rfl)
    ·
     intro d2 hj71
     subst hj71
     refine C_join (fun (i2 : Nat) => i2 = cnxt a i (cday a b i j)) (fun (i2 : Nat) => upd (upd (upd (upd (upd (upd (fun _ => none) 0 (some (.val (tE (.func (.yield l) #[] #[]))))) 1 (some (.own (.ptr 1 0)))) 2 (some (.own (.ptr 2 0)))) 4 (some (.val (tI i2)))) 5 (some (.val (tI j)))) 6 (some (.val (tI (cday a b i j))))) (fun (i2 : Nat) => upd (upd (upd (fun _ => none) 1 (some (⟨54, 1, false, [.val (tL 2 true tSn a)]⟩))) 2 (some (⟨54, 1, false, [.val (tL 2 true tSn b)]⟩))) 99 (some (⟨2 * k, 1, false, []⟩))) (nm [1, 2, 99]) ?_ ?_
     ·
      refine C_seq ?_
      refine C_reg ?_
      refine R1 d_move rfl ?_
      refine RE (d_load (0) ti54 rfl rfl) ⟨rfl, trivial⟩ ⟨rfl, trivial⟩ trivial ?_
      refine R1 (d_len Tryz.underlying54) rfl ?_
      refine R2 (d_mul (wr64 (by omega) (by omega))) rfl rfl ?_
      refine R2 d_lss rfl rfl ?_
      refine R1 d_move rfl ?_
      refine RGcaseD (t := 44) rfl (fun h74 => ?_) (fun h74 => ?_)
      ·
       refine RGon (decide_eq_true h74) rfl (d_load (0) ti54 rfl rfl) rfl ⟨rfl, trivial⟩ ⟨rfl, trivial⟩ trivial ?_
       refine RGon (decide_eq_true h74) rfl d_move rfl ⟨rfl, trivial⟩ trivial trivial ?_
       refine RGon (decide_eq_true h74) rfl (d_call (c_border a i (by omega) (by omega)) fi125 rfl) rfl ⟨rfl, rfl, trivial⟩ trivial trivial ?_
       refine RGon (decide_eq_true h74) rfl d_move rfl ⟨rfl, trivial⟩ trivial trivial ?_
       refine RGon (decide_eq_true h74) rfl d_eql rfl ⟨rfl, rfl, trivial⟩ trivial trivial ?_
       refine R2 (d_pickT (decide_eq_true h74)) rfl rfl ?_
       refine R_nil (by kernel_rfl) ?_
       refine K_then ?_
       refine C_if rfl (fun h74_2 => ?_) (fun h74_2 => ?_)
       ·
        refine C_reg ?_
        refine R1 d_move rfl ?_
        refine R2 (d_add (wr64 (by omega) (by omega))) rfl rfl ?_
        refine R1 d_assign rfl ?_
        refine R_nil (by kernel_rfl) ?_
        exact K_fam (i + 1) (by rw [cnxt, if_pos ⟨by omega, h74_2⟩]) (Sub.int rfl (by first | omega | rfl | (dsimp only; omega)) (Sub.int rfl (by first | omega | rfl | (dsimp only; omega)) (Sub.int rfl (by first | omega | rfl | (dsimp only; omega)) (Sub.cons rfl (Sub.cons rfl (Sub.cons rfl Sub.nil)))))) ((SubK.consI rfl ImpK.refl) ((SubK.consI rfl ImpK.refl) ((SubK.consI rfl ImpK.refl) SubK.nil))) (SupG.val (SupG.val (SupG.val (SupG.own rfl (SupG.own rfl (SupG.val SupG.nil)))))) (SupH.cons rfl (supJL rfl) (SupH.cons rfl (supJL rfl) (SupH.cons rfl (supJL rfl) SupH.nil))) (lkOk rfl)
       ·
        refine C_skip ?_
        exact K_fam (i) (by rw [cnxt, if_neg (fun h => h74_2 h.2)]) (Sub.int rfl (by first | omega | rfl | (dsimp only; omega)) (Sub.int rfl (by first | omega | rfl | (dsimp only; omega)) (Sub.int rfl (by first | omega | rfl | (dsimp only; omega)) (Sub.cons rfl (Sub.cons rfl (Sub.cons rfl Sub.nil)))))) ((SubK.consI rfl ImpK.refl) ((SubK.consI rfl ImpK.refl) ((SubK.consI rfl ImpK.refl) SubK.nil))) (SupG.val (SupG.val (SupG.val (SupG.own rfl (SupG.own rfl (SupG.val SupG.nil)))))) (SupH.cons rfl (supJL rfl) (SupH.cons rfl (supJL rfl) (SupH.cons rfl (supJL rfl) SupH.nil))) (lkOk rfl)
      ·
       refine RGoff (decide_eq_false h74) rfl rfl ?_
       refine RGoff (decide_eq_false h74) rfl rfl ?_
       refine RGoff (decide_eq_false h74) rfl rfl ?_
       refine RGoff (decide_eq_false h74) rfl rfl ?_
       refine RGoff (decide_eq_false h74) rfl rfl ?_
       refine R2 (d_pickF (decide_eq_false h74)) rfl rfl ?_
       refine R_nil (by kernel_rfl) ?_
       refine K_then ?_
       refine C_bF rfl rfl ?_
       refine C_skip ?_
       exact K_fam (i) (by rw [cnxt, if_neg (fun h => by have := h.1; omega)]) (Sub.int rfl (by first | omega | rfl | (dsimp only; omega)) (Sub.int rfl (by first | omega | rfl | (dsimp only; omega)) (Sub.int rfl (by first | omega | rfl | (dsimp only; omega)) (Sub.cons rfl (Sub.cons rfl (Sub.cons rfl Sub.nil)))))) ((SubK.consI rfl ImpK.refl) ((SubK.consI rfl ImpK.refl) ((SubK.consI rfl ImpK.refl) SubK.nil))) (SupG.val (SupG.val (SupG.val (SupG.own rfl (SupG.own rfl (SupG.val SupG.nil)))))) (SupH.cons rfl (supJL rfl) (SupH.cons rfl (supJL rfl) (SupH.cons rfl (supJL rfl) SupH.nil))) (lkOk rfl)
     ·
      intro i2 hj74
      subst hj74
      refine C_join (fun (j2 : Nat) => j2 = cnxt b j (cday a b i j)) (fun (j2 : Nat) => upd (upd (upd (upd (upd (upd (fun _ => none) 0 (some (.val (tE (.func (.yield l) #[] #[]))))) 1 (some (.own (.ptr 1 0)))) 2 (some (.own (.ptr 2 0)))) 4 (some (.val (tI (cnxt a i (cday a b i j) : Nat))))) 5 (some (.val (tI j2)))) 6 (some (.val (tI (cday a b i j))))) (fun (j2 : Nat) => upd (upd (upd (fun _ => none) 1 (some (⟨54, 1, false, [.val (tL 2 true tSn a)]⟩))) 2 (some (⟨54, 1, false, [.val (tL 2 true tSn b)]⟩))) 99 (some (⟨2 * k, 1, false, []⟩))) (nm [1, 2, 99]) ?_ ?_
      ·
       refine C_seq ?_
       refine C_reg ?_
       refine R1 d_move rfl ?_
       refine RE (d_load (0) ti54 rfl rfl) ⟨rfl, trivial⟩ ⟨rfl, trivial⟩ trivial ?_
       refine R1 (d_len Tryz.underlying54) rfl ?_
       refine R2 (d_mul (wr64 (by omega) (by omega))) rfl rfl ?_
       refine R2 d_lss rfl rfl ?_
       refine R1 d_move rfl ?_
       refine RGcaseD (t := 58) rfl (fun h77 => ?_) (fun h77 => ?_)
       ·
        refine RGon (decide_eq_true h77) rfl (d_load (0) ti54 rfl rfl) rfl ⟨rfl, trivial⟩ ⟨rfl, trivial⟩ trivial ?_
        refine RGon (decide_eq_true h77) rfl d_move rfl ⟨rfl, trivial⟩ trivial trivial ?_
        refine RGon (decide_eq_true h77) rfl (d_call (c_border b j (by omega) (by omega)) fi125 rfl) rfl ⟨rfl, rfl, trivial⟩ trivial trivial ?_
        refine RGon (decide_eq_true h77) rfl d_move rfl ⟨rfl, trivial⟩ trivial trivial ?_
        refine RGon (decide_eq_true h77) rfl d_eql rfl ⟨rfl, rfl, trivial⟩ trivial trivial ?_
        refine R2 (d_pickT (decide_eq_true h77)) rfl rfl ?_
        refine R_nil (by kernel_rfl) ?_
        refine K_then ?_
        refine C_if rfl (fun h77_2 => ?_) (fun h77_2 => ?_)
        ·
         refine C_reg ?_
         refine R1 d_move rfl ?_
         refine R2 (d_add (wr64 (by omega) (by omega))) rfl rfl ?_
         refine R1 d_assign rfl ?_
         refine R_nil (by kernel_rfl) ?_
         exact K_fam (j + 1) (by rw [cnxt, if_pos ⟨by omega, h77_2⟩]) (Sub.int rfl (by first | omega | rfl | (dsimp only; omega)) (Sub.int rfl (by first | omega | rfl | (dsimp only; omega)) (Sub.int rfl (by first | omega | rfl | (dsimp only; omega)) (Sub.cons rfl (Sub.cons rfl (Sub.cons rfl Sub.nil)))))) ((SubK.consI rfl ImpK.refl) ((SubK.consI rfl ImpK.refl) ((SubK.consI rfl ImpK.refl) SubK.nil))) (SupG.val (SupG.val (SupG.val (SupG.own rfl (SupG.own rfl (SupG.val SupG.nil)))))) (SupH.cons rfl (supJL rfl) (SupH.cons rfl (supJL rfl) (SupH.cons rfl (supJL rfl) SupH.nil))) (lkOk rfl)
        ·
         refine C_skip ?_
         exact K_fam (j) (by rw [cnxt, if_neg (fun h => h77_2 h.2)]) (Sub.int rfl (by first | omega | rfl | (dsimp only; omega)) (Sub.int rfl (by first | omega | rfl | (dsimp only; omega)) (Sub.int rfl (by first | omega | rfl | (dsimp only; omega)) (Sub.cons rfl (Sub.cons rfl (Sub.cons rfl Sub.nil)))))) ((SubK.consI rfl ImpK.refl) ((SubK.consI rfl ImpK.refl) ((SubK.consI rfl ImpK.refl) SubK.nil))) (SupG.val (SupG.val (SupG.val (SupG.own rfl (SupG.own rfl (SupG.val SupG.nil)))))) (SupH.cons rfl (supJL rfl) (SupH.cons rfl (supJL rfl) (SupH.cons rfl (supJL rfl) SupH.nil))) (lkOk rfl)
       ·
        refine RGoff (decide_eq_false h77) rfl rfl ?_
        refine RGoff (decide_eq_false h77) rfl rfl ?_
        refine RGoff (decide_eq_false h77) rfl rfl ?_
        refine RGoff (decide_eq_false h77) rfl rfl ?_
        refine RGoff (decide_eq_false h77) rfl rfl ?_
        refine R2 (d_pickF (decide_eq_false h77)) rfl rfl ?_
        refine R_nil (by kernel_rfl) ?_
        refine K_then ?_
        refine C_bF rfl rfl ?_
        refine C_skip ?_
        exact K_fam (j) (by rw [cnxt, if_neg (fun h => by have := h.1; omega)]) (Sub.int rfl (by first | omega | rfl | (dsimp only; omega)) (Sub.int rfl (by first | omega | rfl | (dsimp only; omega)) (Sub.int rfl (by first | omega | rfl | (dsimp only; omega)) (Sub.cons rfl (Sub.cons rfl (Sub.cons rfl Sub.nil)))))) ((SubK.consI rfl ImpK.refl) ((SubK.consI rfl ImpK.refl) ((SubK.consI rfl ImpK.refl) SubK.nil))) (SupG.val (SupG.val (SupG.val (SupG.own rfl (SupG.own rfl (SupG.val SupG.nil)))))) (SupH.cons rfl (supJL rfl) (SupH.cons rfl (supJL rfl) (SupH.cons rfl (supJL rfl) SupH.nil))) (lkOk rfl)
      ·
       intro j2 hj77
       subst hj77
       refine C_seq ?_
       refine C_regY ?_
       refine wl_op d_move ⟨rfl, trivial⟩ trivial trivial rfl ?_
       refine wl_op d_move ⟨rfl, trivial⟩ trivial trivial rfl ?_
       refine wl_op d_move ⟨rfl, trivial⟩ trivial trivial rfl ?_
       refine wl_op (d_remP (by omega) (by omega)) ⟨rfl, rfl, trivial⟩ trivial trivial rfl ?_
       refine wl_op d_eql ⟨rfl, rfl, trivial⟩ trivial trivial rfl ?_
       refine wl_op d_move ⟨rfl, trivial⟩ trivial trivial rfl ?_
       refine wl_op (d_remP (by omega) (by omega)) ⟨rfl, rfl, trivial⟩ trivial trivial rfl ?_
       refine wl_op d_eql ⟨rfl, rfl, trivial⟩ trivial trivial rfl ?_
       refine wl_op (d_build (r := tS [⟨1, false, tB (decide ((cnxt a i (cday a b i j) : Nat) % 2 = (1 : Int)))⟩, ⟨1, false, tB (decide ((cnxt b j (cday a b i j) : Nat) % 2 = (1 : Int)))⟩]) (ts := [(0, tB (decide ((cnxt a i (cday a b i j) : Nat) % 2 = (1 : Int)))), (1, tB (decide ((cnxt b j (cday a b i j) : Nat) % 2 = (1 : Int))))]) bu100 zr100.2 ⟨_, rfl⟩ rfl ⟨_, _, _, _, rfl, Up.f (fs := [⟨1, false, (tE (.bool false))⟩, ⟨1, false, (tE (.bool false))⟩]) (f := ⟨1, false, (tE (.bool false))⟩) (fs' := [⟨1, false, tB (decide ((cnxt a i (cday a b i j) : Nat) % 2 = (1 : Int)))⟩, ⟨1, false, (tE (.bool false))⟩]) 0 rfl rfl rfl, inferInstance, ⟨_, _, _, _, rfl, Up.f (fs := [⟨1, false, tB (decide ((cnxt a i (cday a b i j) : Nat) % 2 = (1 : Int)))⟩, ⟨1, false, (tE (.bool false))⟩]) (f := ⟨1, false, (tE (.bool false))⟩) (fs' := [⟨1, false, tB (decide ((cnxt a i (cday a b i j) : Nat) % 2 = (1 : Int)))⟩, ⟨1, false, tB (decide ((cnxt b j (cday a b i j) : Nat) % 2 = (1 : Int)))⟩]) 1 rfl rfl rfl, inferInstance, Le.refl⟩⟩) ⟨rfl, rfl, trivial⟩ trivial trivial rfl ?_
       obtain ⟨hkN, hkc, hnx, hadv⟩ := hCI.next ha hb hij
       refine wl_yield (ts := [tI (cday a b i j), tMem (decide ((cnxt a i (cday a b i j) : Nat) % 2 = (1 : Int))) (decide ((cnxt b j (cday a b i j) : Nat) % 2 = (1 : Int)))]) hB (wanted_none rfl) rfl rfl ⟨rfl, rfl, trivial⟩ rfl rfl hkN (ch_le hkc) ?_ ?_
       ·
        refine wl_op d_not ⟨rfl, trivial⟩ trivial trivial rfl ?_
        refine wl_nil ?_
        refine K_then ?_
        refine C_bF rfl rfl ?_
        refine C_skip ?_
        refine K_norB ?_
        exact K_fam ((k + 1, cnxt a i (cday a b i j), cnxt b j (cday a b i j))) ⟨(by dsimp only; exact hnx), (by dsimp only; have := hnx.1; have := hnx.2.1; omega)⟩ (Sub.int rfl (by first | omega | rfl | (dsimp only; omega)) (Sub.int rfl (by first | omega | rfl | (dsimp only; omega)) (Sub.cons rfl (Sub.cons rfl (Sub.cons rfl Sub.nil))))) ((SubK.consI rfl ImpK.refl) ((SubK.consI rfl ImpK.refl) ((SubK.consI rfl ImpK.refl) SubK.nil))) (SupG.val (SupG.val (SupG.own rfl (SupG.own rfl (SupG.val SupG.nil))))) (SupH.cons rfl (supJL rfl) (SupH.cons rfl (supJL rfl) (SupH.cons rfl (supJL rfl) SupH.nil))) (lkOk rfl)
       ·
        refine wl_op d_not ⟨rfl, trivial⟩ trivial trivial rfl ?_
        refine wl_nil ?_
        refine K_then ?_
        refine C_bT rfl rfl ?_
        refine C_ret ?_
        refine K_retB ?_
        refine K_retT ?_
        refine K_retB ?_
        exact E_it hB rfl trivial rfl (.inl rfl) rfl (.inr ⟨k, hkN, rfl⟩)
  ·
   refine C_exit ?_
   refine K_exT ?_
   refine K_exT ?_
   refine K_exB ?_
   exact E_it hB rfl trivial rfl (.inr rfl) rfl (.inl (by have := hCI.stop (by omega); have h2 := hCI.2.2.1; rw [show k = (chAll a b).length by omega]))
theorem c_choose (a b : List Sn) (fk : Nat) (kp : Bool → Bool → Bool) (hfk : FnI Tryz.prog fk) (hkp : ∀ x y, Ct Tryz.prog fk [tMem x y] (tB (kp x y))) (hla : a.length ≤ 100000) (hlb : b.length ≤ 100000) :
  Ct Tryz.prog 66 [tL 2 true tSn a, tL 2 true tSn b, tE (.func (.func fk) #[] #[])] (tT [tL 2 true tSn (if sVal a = true ∧ sVal b = true then (ckRun kp a b).xs else []), tI (if sVal a = true ∧ sVal b = true then 0 else 2)]) := by
 refine Ct.intro Tryz.func66 rfl Tryz.ntmps66 rfl ?_
 intro w F
 refine C_seq ?_
 refine C_reg ?_
 refine RE (d_box (k := 5) ti101 rfl) ⟨rfl, trivial⟩ trivial ⟨rfl, trivial⟩ ?_
 refine R1 d_assign rfl ?_
 refine R1 d_assign rfl ?_
 refine R_nil (by kernel_rfl) ?_
 refine K_then ?_
 refine C_seq ?_
 refine C_seq ?_
 refine C_reg ?_
 refine R1 d_move rfl ?_
 refine R1 (d_call (c_SValid a) fi28 rfl) rfl ?_
 refine R1 d_not rfl ?_
 refine R1 d_move rfl ?_
 refine RGcase (t := 17) rfl (fun h89 => ?_) (fun h89 => ?_)
 ·
  refine RGoff h89 rfl rfl ?_
  refine RGoff h89 rfl rfl ?_
  refine RGoff h89 rfl rfl ?_
  refine R2 (d_pickT h89) rfl rfl ?_
  refine R_nil (by kernel_rfl) ?_
  refine K_then ?_
  refine C_bT rfl rfl ?_
  refine C_seq ?_
  refine C_reg ?_
  refine R1 d_assign rfl ?_
  refine R1 d_assign rfl ?_
  refine R_nil (by kernel_rfl) ?_
  refine K_then ?_
  refine C_ret ?_
  refine K_retT ?_
  exact E_ret2 Plain.mk' rfl rfl rfl (leNil (by rw [if_neg (fun h => by rw [h.1] at h89; cases h89)])) (Le.int (by rw [if_neg (fun h => by rw [h.1] at h89; cases h89)]))
 ·
  refine RGon h89 rfl d_move rfl ⟨rfl, trivial⟩ trivial trivial ?_
  refine RGon h89 rfl (d_call (c_SValid b) fi28 rfl) rfl ⟨rfl, trivial⟩ trivial trivial ?_
  refine RGon h89 rfl d_not rfl ⟨rfl, trivial⟩ trivial trivial ?_
  refine R2 (d_pickF h89) rfl rfl ?_
  refine R_nil (by kernel_rfl) ?_
  refine K_then ?_
  refine C_cond rfl (fun h89_2 => ?_) (fun h89_2 => ?_)
  ·
   refine C_seq ?_
   refine C_reg ?_
   refine R1 d_assign rfl ?_
   refine R1 d_assign rfl ?_
   refine R_nil (by kernel_rfl) ?_
   refine K_then ?_
   refine C_ret ?_
   refine K_retT ?_
   exact E_ret2 Plain.mk' rfl rfl rfl (leNil (by rw [if_neg (fun h => by rw [h.2] at h89_2; cases h89_2)])) (Le.int (by rw [if_neg (fun h => by rw [h.2] at h89_2; cases h89_2)]))
  ·
   refine C_skip ?_
   refine K_then ?_
   refine C_seq ?_
   refine C_reg ?_
   refine RE (d_alloc (k := 8) (n := 1) (agg := false) zr54.1 zr54.2 rfl) trivial trivial ⟨rfl, trivial⟩ ?_
   refine R_nil (by kernel_rfl) ?_
   refine K_then ?_
   refine C_seq ?_
   refine C_reg ?_
   refine RE (d_alloc (k := 9) (n := 1) (agg := false) zr3.1 zr3.2 rfl) trivial trivial ⟨rfl, trivial⟩ ?_
   refine RE (d_alloc (k := 10) (n := 1) (agg := false) zr4.1 zr4.2 rfl) trivial trivial ⟨rfl, trivial⟩ ?_
   refine RE (d_store (es := 1) (agg := false) (0) ti3 rfl rfl rfl) ⟨rfl, rfl, trivial⟩ ⟨rfl, trivial⟩ trivial ?_
   refine RE (d_store (es := 1) (agg := false) (0) ti4 rfl rfl rfl) ⟨rfl, rfl, trivial⟩ ⟨rfl, trivial⟩ trivial ?_
   refine R_nil (by kernel_rfl) ?_
   refine K_then ?_
   refine C_seq ?_
   refine C_seq ?_
   have hok : sVal a = true ∧ sVal b = true := ⟨by simpa using h89, by simpa using h89_2⟩
   refine C_nilC (q := 8) 60 69 2 true 0 rfl rfl rfl rfl (fun h => by cases h) rfl rfl ?_
   refine C_reg ?_
   refine R1 d_move rfl ?_
   refine R1 d_move rfl ?_
   refine RE (d_callGX (fun j => cond (Nat.beq j 2) 24 (1024)) (c_changes a b) fi98 rfl (krN (ρ := fun j => cond (Nat.beq j 2) 24 (1024))) (krC (ρ := fun j => cond (Nat.beq j 2) 24 (1024)) (k := 2) rfl (krC (ρ := fun j => cond (Nat.beq j 2) 24 (1024)) (k := 3) rfl (krN (ρ := fun j => cond (Nat.beq j 2) 24 (1024))))) ⟨⟨rfl, (SupX.lit rfl)⟩, ⟨rfl, (SupX.lit rfl)⟩, trivial⟩ rfl) ⟨rfl, rfl, trivial⟩ trivial ⟨rfl, rfl, trivial⟩ ?_
   refine R_nil (by kernel_rfl) ?_
   refine K_then ?_
   refine C_block ?_
   refine C_range (caps := [.ptr 1 0, .ptr 2 0]) (κ := Empty) (fun j => cond (Nat.beq j 2) 1024 (cond (Nat.beq j 1) 24 (j))) rfl (fun _ h => h) trivial (i_changes a b hok.1 hok.2 (by omega) (by omega)) fi124 rfl ⟨rfl, rfl, trivial⟩ rfl rfl (fun _ _ => rfl) (upd (upd (upd (upd (fun _ => none) 5 (some (.own (.ptr 5 0)))) 8 (some (.own (.ptr 8 0)))) 9 (some (.own (.ptr 9 0)))) 10 (some (.own (.ptr 10 0)))) [5, 8, 9, 10, 60] [5, 8, 9, 10] (Sub.cons rfl (Sub.cons rfl (Sub.cons rfl (Sub.cons rfl Sub.nil)))) (SupG.own rfl (SupG.own rfl (SupG.own rfl (SupG.own rfl SupG.nil)))) rfl (lkOk rfl) (fun (k : Nat) (s : Ck) => ((chAll a b).drop k).foldl (ck1 kp) s = (ckRun kp a b) ∧ s.xs.length ≤ k) (fun (k : Nat) (s : Ck) => upd (upd (upd (upd (upd (fun _ => none) 5 (some (⟨101, 1, false, [.val (tE (.func (.func fk) #[] #[]))]⟩))) 8 (some (⟨54, 1, false, [.own (.sl 60 2 0 s.xs.length)]⟩))) 9 (some (⟨3, 1, false, [.val (tI s.lo)]⟩))) 10 (some (⟨4, 1, false, [.val (tB s.ins)]⟩))) 60 (some (⟨69, 2, true, rV tSn s.xs⟩))) (fun k x => (SupH.cons rfl (supJ sup_rV) (SupH.cons rfl (supJL rfl) (SupH.cons rfl (supJL rfl) (SupH.cons rfl (supJL rfl) (SupH.cons rfl (supJL rfl) SupH.nil)))))) (fun k x y hy => by simp only [List.mem_cons, List.not_mem_nil, or_false] at hy; rcases hy with rfl | rfl <;> rfl) (fun _ _ => False) (fun i => i.elim) (fun _ _ h => h.elim) (⟨[], 0, false⟩) ⟨rfl, Nat.le_refl _⟩ ((SubK.consI rfl ImpK.refl) ((SubK.consI rfl ImpK.refl) ((SubK.consI rfl ImpK.refl) ((SubK.consI rfl ImpK.refl) ((SubK.consI rfl ImpK.refl) SubK.nil))))) ?_ ?_ ?_
   ·
    intro D lp o1 o2 O W lη lb V0 k s hk hI
    obtain ⟨hrun, hxl⟩ := hI
    have hN := chAll_len (a := a) (b := b)
    apply rnd_mk
    ·
     refine C_seq ?_
     refine C_reg ?_
     refine R1 d_assign rfl ?_
     refine R_nil (by kernel_rfl) ?_
     refine K_then ?_
     refine C_reg ?_
     refine RE (d_alloc (k := 12) (n := 2) (agg := true) zr100.1 zr100.2 rfl) trivial trivial ⟨rfl, trivial⟩ ?_
     refine RE (d_store (es := 2) (agg := true) (0) ti100 rfl rfl rfl) ⟨rfl, rfl, trivial⟩ ⟨rfl, trivial⟩ trivial ?_
     refine R_nil (by kernel_rfl) ?_
     exact K_thenF fun _ _ h => h
    ·
     refine C_block ?_
     refine C_seq ?_
     refine C_reg ?_
     refine RE (d_load (0) ti101 rfl rfl) ⟨rfl, trivial⟩ ⟨rfl, trivial⟩ trivial ?_
     refine RE (d_load (0) ti100 rfl rfl) ⟨rfl, trivial⟩ ⟨rfl, trivial⟩ trivial ?_
     refine R2 (d_callF (hkp _ _) hfk rfl) rfl rfl ?_
     refine R1 d_assign rfl ?_
     refine R_nil (by kernel_rfl) ?_
     refine K_then ?_
     refine C_join (fun (f1 : Int) => f1 = (if (kp (((chAll a b).getD k ch0).2.1 % 2 == 1) (((chAll a b).getD k ch0).2.2 % 2 == 1)) && !s.ins then ((chAll a b).getD k ch0).1 else s.lo)) (fun (f1 : Int) => upd (upd (upd (upd (upd (upd (fun _ => none) 5 (some (.own (.ptr 5 0)))) 8 (some (.own (.ptr 8 0)))) 9 (some (.own (.ptr 9 0)))) 10 (some (.own (.ptr 10 0)))) 11 (some (.val (tI ((chAll a b).getD k ch0).1)))) 13 (some (.val (tB (kp (((chAll a b).getD k ch0).2.1 % 2 == 1) (((chAll a b).getD k ch0).2.2 % 2 == 1)))))) (fun (f1 : Int) => upd (upd (upd (upd (upd (fun _ => none) 5 (some (⟨101, 1, false, [.val (tE (.func (.func fk) #[] #[]))]⟩))) 8 (some (⟨54, 1, false, [.own (.sl 60 2 0 s.xs.length)]⟩))) 9 (some (⟨3, 1, false, [.val (tI f1)]⟩))) 10 (some (⟨4, 1, false, [.val (tB s.ins)]⟩))) 60 (some (⟨69, 2, true, rV tSn s.xs⟩))) (nm [5, 8, 9, 10, 60]) ?_ ?_
     ·
      refine C_seq ?_
      refine C_reg ?_
      refine R1 d_move rfl ?_
      refine R1 d_move rfl ?_
      refine RGcase (t := 31) rfl (fun h96 => ?_) (fun h96 => ?_)
      ·
       refine RGon h96 rfl (d_load (0) ti4 rfl rfl) rfl ⟨rfl, trivial⟩ ⟨rfl, trivial⟩ trivial ?_
       refine RGon h96 rfl d_not rfl ⟨rfl, trivial⟩ trivial trivial ?_
       refine R2 (d_pickT h96) rfl rfl ?_
       refine R_nil (by kernel_rfl) ?_
       refine K_then ?_
       refine C_cond rfl (fun h96_2 => ?_) (fun h96_2 => ?_)
       ·
        refine C_reg ?_
        refine R1 d_move rfl ?_
        refine RE (d_store (es := 1) (agg := false) (0) ti3 rfl rfl rfl) ⟨rfl, rfl, trivial⟩ ⟨rfl, trivial⟩ trivial ?_
        refine R_nil (by kernel_rfl) ?_
        exact K_fam (((chAll a b).getD k ch0).1) (by rw [h96, show s.ins = false by simpa using h96_2]; rfl) (Sub.cons rfl (Sub.int rfl (by first | omega | rfl | (dsimp only; omega)) (Sub.cons rfl (Sub.cons rfl (Sub.cons rfl (Sub.cons rfl Sub.nil)))))) ((SubK.consI rfl ImpK.refl) ((SubK.consI rfl ImpK.refl) ((SubK.consI rfl ImpK.refl) ((SubK.consI rfl ImpK.refl) ((SubK.consI rfl ImpK.refl) SubK.nil))))) (SupG.val (SupG.val (SupG.own rfl (SupG.own rfl (SupG.own rfl (SupG.own rfl SupG.nil)))))) (SupH.cons rfl (supJ sup_rV) (SupH.cons rfl (supJL rfl) (SupH.cons rfl (supJL rfl) (SupH.cons rfl (supJL rfl) (SupH.cons rfl (supJL rfl) SupH.nil))))) (lkOk rfl)
       ·
        refine C_skip ?_
        exact K_fam (s.lo) (by rw [h96, show s.ins = true by simpa using h96_2]; rfl) (Sub.cons rfl (Sub.int rfl (by first | omega | rfl | (dsimp only; omega)) (Sub.cons rfl (Sub.cons rfl (Sub.cons rfl (Sub.cons rfl Sub.nil)))))) ((SubK.consI rfl ImpK.refl) ((SubK.consI rfl ImpK.refl) ((SubK.consI rfl ImpK.refl) ((SubK.consI rfl ImpK.refl) ((SubK.consI rfl ImpK.refl) SubK.nil))))) (SupG.val (SupG.val (SupG.own rfl (SupG.own rfl (SupG.own rfl (SupG.own rfl SupG.nil)))))) (SupH.cons rfl (supJ sup_rV) (SupH.cons rfl (supJL rfl) (SupH.cons rfl (supJL rfl) (SupH.cons rfl (supJL rfl) (SupH.cons rfl (supJL rfl) SupH.nil))))) (lkOk rfl)
      ·
       refine RGoff h96 rfl rfl ?_
       refine RGoff h96 rfl rfl ?_
       refine R2 (d_pickF h96) rfl rfl ?_
       refine R_nil (by kernel_rfl) ?_
       refine K_then ?_
       refine C_bF rfl rfl ?_
       refine C_skip ?_
       exact K_fam (s.lo) (by rw [h96]; rfl) (Sub.cons rfl (Sub.int rfl (by first | omega | rfl | (dsimp only; omega)) (Sub.cons rfl (Sub.cons rfl (Sub.cons rfl (Sub.cons rfl Sub.nil)))))) ((SubK.consI rfl ImpK.refl) ((SubK.consI rfl ImpK.refl) ((SubK.consI rfl ImpK.refl) ((SubK.consI rfl ImpK.refl) ((SubK.consI rfl ImpK.refl) SubK.nil))))) (SupG.val (SupG.val (SupG.own rfl (SupG.own rfl (SupG.own rfl (SupG.own rfl SupG.nil)))))) (SupH.cons rfl (supJ sup_rV) (SupH.cons rfl (supJL rfl) (SupH.cons rfl (supJL rfl) (SupH.cons rfl (supJL rfl) (SupH.cons rfl (supJL rfl) SupH.nil))))) (lkOk rfl)
     ·
      intro f1 hf1
      refine C_seq ?_
      refine C_seq ?_
      refine C_reg ?_
      refine RE (d_load (0) ti4 rfl rfl) ⟨rfl, trivial⟩ ⟨rfl, trivial⟩ trivial ?_
      refine R1 d_move rfl ?_
      refine RGcase (t := 37) rfl (fun h99 => ?_) (fun h99 => ?_)
      ·
       refine RGon h99 rfl d_move rfl ⟨rfl, trivial⟩ trivial trivial ?_
       refine RGon h99 rfl d_not rfl ⟨rfl, trivial⟩ trivial trivial ?_
       refine R2 (d_pickT h99) rfl rfl ?_
       refine R_nil (by kernel_rfl) ?_
       refine K_then ?_
       refine C_cond rfl (fun h99_2 => ?_) (fun h99_2 => ?_)
       ·
        refine C_reg ?_
        refine RE (d_load (ts := [.own (.sl 60 2 0 s.xs.length)]) (0) ti54 rfl rfl) ⟨rfl, trivial⟩ ⟨rfl, trivial⟩ trivial ?_
        refine RE (d_load (0) ti3 rfl rfl) ⟨rfl, trivial⟩ ⟨rfl, trivial⟩ trivial ?_
        refine R1 d_move rfl ?_
        refine R2 (d_build (r := tS [⟨1, false, tI f1⟩, ⟨1, false, tI ((chAll a b).getD k ch0).1⟩]) (ts := [(0, tI f1), (1, tI ((chAll a b).getD k ch0).1)]) bu69 zr69.2 ⟨_, rfl⟩ rfl ⟨_, _, _, _, rfl, Up.f (fs := [⟨1, false, (tE (.int .i64 0))⟩, ⟨1, false, (tE (.int .i64 0))⟩]) (f := ⟨1, false, (tE (.int .i64 0))⟩) (fs' := [⟨1, false, tI f1⟩, ⟨1, false, (tE (.int .i64 0))⟩]) 0 rfl rfl rfl, inferInstance, ⟨_, _, _, _, rfl, Up.f (fs := [⟨1, false, tI f1⟩, ⟨1, false, (tE (.int .i64 0))⟩]) (f := ⟨1, false, (tE (.int .i64 0))⟩) (fs' := [⟨1, false, tI f1⟩, ⟨1, false, tI ((chAll a b).getD k ch0).1⟩]) 1 rfl rfl rfl, inferInstance, Le.refl⟩⟩) rfl rfl ?_
        refine R1 (d_vals (n := 1) (f := tSn) [(⟨f1, ((chAll a b).getD k ch0).1⟩ : Sn)] Tryz.underlying54 el69 zf69 rfl (fun _ => inferInstance) rfl rfl rfl) rfl ?_
        refine RE (d_appendO (k := 60) (k' := 46) (f := tSn) (ys := [(⟨f1, ((chAll a b).getD k ch0).1⟩ : Sn)]) (ts' := rV tSn (s.xs ++ [⟨f1, ((chAll a b).getD k ch0).1⟩])) Tryz.underlying54 el69 zf69 rfl rfl (fun _ => inferInstance) rV_len (by simp; omega) (by simp; omega) (by simp [rV]) (n' := s.xs.length + 1) rfl) ⟨rfl, rfl, trivial⟩ ⟨rfl, trivial⟩ ⟨rfl, trivial⟩ ?_
        refine RE (d_store (es := 1) (agg := false) (0) ti54 rfl rfl rfl) ⟨rfl, rfl, trivial⟩ ⟨rfl, trivial⟩ trivial ?_
        refine R_nil (by kernel_rfl) ?_
        refine K_then ?_
        refine C_reg ?_
        refine R1 d_move rfl ?_
        refine RE (d_store (es := 1) (agg := false) (0) ti4 rfl rfl rfl) ⟨rfl, rfl, trivial⟩ ⟨rfl, trivial⟩ trivial ?_
        refine R_nil (by kernel_rfl) ?_
        refine K_norB ?_
        have hn : (ck1 kp s ((chAll a b).getD k ch0)) = ⟨s.xs ++ [⟨(if (kp (((chAll a b).getD k ch0).2.1 % 2 == 1) (((chAll a b).getD k ch0).2.2 % 2 == 1)) && !s.ins then ((chAll a b).getD k ch0).1 else s.lo), ((chAll a b).getD k ch0).1⟩], (if (kp (((chAll a b).getD k ch0).2.1 % 2 == 1) (((chAll a b).getD k ch0).2.2 % 2 == 1)) && !s.ins then ((chAll a b).getD k ch0).1 else s.lo), (kp (((chAll a b).getD k ch0).2.1 % 2 == 1) (((chAll a b).getD k ch0).2.2 % 2 == 1))⟩ := by rw [ck1, h99, h99_2]; rfl
        exact K_ren (g' := fun _ => none) [5, 8, 9, 10, 60] (fun j => cond (Nat.beq j 60) 46 (j)) SubR.nil ((SubKR.consI rfl (ImpK.of (by rw [← hf1]; exact ren_rV.symm))) ((SubKR.consI rfl ImpK.refl) ((SubKR.consI rfl (ImpK.of (by rw [hf1]; rfl))) ((SubKR.consI rfl (ImpK.of (by dsimp only; rw [List.length_append]; rfl))) ((SubKR.consI rfl ImpK.refl) SubKR.nil))))) SupG.nil (SupH.cons rfl (supJ sup_rV) (SupH.cons rfl (supJL rfl) (SupH.cons rfl (supJL rfl) (SupH.cons rfl (supJL rfl) (SupH.cons rfl (supJL rfl) SupH.nil))))) (lkOk rfl) rfl rfl (fun _ h => by cases h) (K_rnd (⟨s.xs ++ [⟨(if (kp (((chAll a b).getD k ch0).2.1 % 2 == 1) (((chAll a b).getD k ch0).2.2 % 2 == 1)) && !s.ins then ((chAll a b).getD k ch0).1 else s.lo), ((chAll a b).getD k ch0).1⟩], (if (kp (((chAll a b).getD k ch0).2.1 % 2 == 1) (((chAll a b).getD k ch0).2.2 % 2 == 1)) && !s.ins then ((chAll a b).getD k ch0).1 else s.lo), (kp (((chAll a b).getD k ch0).2.1 % 2 == 1) (((chAll a b).getD k ch0).2.2 % 2 == 1))⟩) ⟨by rw [← hn]; exact ck_next hk hrun, by rw [List.length_append]; simp; omega⟩ SubK.refl (SupH.cons rfl (supJ sup_rV) (SupH.cons rfl (supJL rfl) (SupH.cons rfl (supJL rfl) (SupH.cons rfl (supJL rfl) (SupH.cons rfl (supJL rfl) SupH.nil))))) (lkOk rfl))
       ·
        refine C_skip ?_
        refine K_then ?_
        refine C_reg ?_
        refine R1 d_move rfl ?_
        refine RE (d_store (es := 1) (agg := false) (0) ti4 rfl rfl rfl) ⟨rfl, rfl, trivial⟩ ⟨rfl, trivial⟩ trivial ?_
        refine R_nil (by kernel_rfl) ?_
        refine K_norB ?_
        have hn : (ck1 kp s ((chAll a b).getD k ch0)) = ⟨s.xs, (if (kp (((chAll a b).getD k ch0).2.1 % 2 == 1) (((chAll a b).getD k ch0).2.2 % 2 == 1)) && !s.ins then ((chAll a b).getD k ch0).1 else s.lo), (kp (((chAll a b).getD k ch0).2.1 % 2 == 1) (((chAll a b).getD k ch0).2.2 % 2 == 1))⟩ := by rw [ck1, h99, h99_2]; rfl
        exact K_rnd (⟨s.xs, (if (kp (((chAll a b).getD k ch0).2.1 % 2 == 1) (((chAll a b).getD k ch0).2.2 % 2 == 1)) && !s.ins then ((chAll a b).getD k ch0).1 else s.lo), (kp (((chAll a b).getD k ch0).2.1 % 2 == 1) (((chAll a b).getD k ch0).2.2 % 2 == 1))⟩) ⟨by rw [← hn]; exact ck_next hk hrun, by show s.xs.length ≤ k + 1; omega⟩ ((SubK.consI rfl ImpK.refl) ((SubK.consI rfl ImpK.refl) ((SubK.consI rfl (ImpK.of (by rw [hf1]))) ((SubK.consI rfl ImpK.refl) ((SubK.consI rfl ImpK.refl) SubK.nil))))) (SupH.cons rfl (supJ sup_rV) (SupH.cons rfl (supJL rfl) (SupH.cons rfl (supJL rfl) (SupH.cons rfl (supJL rfl) (SupH.cons rfl (supJL rfl) SupH.nil))))) (lkOk rfl)
      ·
       refine RGoff h99 rfl rfl ?_
       refine RGoff h99 rfl rfl ?_
       refine R2 (d_pickF h99) rfl rfl ?_
       refine R_nil (by kernel_rfl) ?_
       refine K_then ?_
       refine C_bF rfl rfl ?_
       refine C_skip ?_
       refine K_then ?_
       refine C_reg ?_
       refine R1 d_move rfl ?_
       refine RE (d_store (es := 1) (agg := false) (0) ti4 rfl rfl rfl) ⟨rfl, rfl, trivial⟩ ⟨rfl, trivial⟩ trivial ?_
       refine R_nil (by kernel_rfl) ?_
       refine K_norB ?_
       have hn : (ck1 kp s ((chAll a b).getD k ch0)) = ⟨s.xs, (if (kp (((chAll a b).getD k ch0).2.1 % 2 == 1) (((chAll a b).getD k ch0).2.2 % 2 == 1)) && !s.ins then ((chAll a b).getD k ch0).1 else s.lo), (kp (((chAll a b).getD k ch0).2.1 % 2 == 1) (((chAll a b).getD k ch0).2.2 % 2 == 1))⟩ := by rw [ck1, h99]; rfl
       exact K_rnd (⟨s.xs, (if (kp (((chAll a b).getD k ch0).2.1 % 2 == 1) (((chAll a b).getD k ch0).2.2 % 2 == 1)) && !s.ins then ((chAll a b).getD k ch0).1 else s.lo), (kp (((chAll a b).getD k ch0).2.1 % 2 == 1) (((chAll a b).getD k ch0).2.2 % 2 == 1))⟩) ⟨by rw [← hn]; exact ck_next hk hrun, by show s.xs.length ≤ k + 1; omega⟩ ((SubK.consI rfl ImpK.refl) ((SubK.consI rfl ImpK.refl) ((SubK.consI rfl (ImpK.of (by rw [hf1]))) ((SubK.consI rfl ImpK.refl) ((SubK.consI rfl ImpK.refl) SubK.nil))))) (SupH.cons rfl (supJ sup_rV) (SupH.cons rfl (supJL rfl) (SupH.cons rfl (supJL rfl) (SupH.cons rfl (supJL rfl) (SupH.cons rfl (supJL rfl) SupH.nil))))) (lkOk rfl)
   ·
    intro D hD s hI
    obtain ⟨hrun, hxl⟩ := hI
    rw [List.drop_length] at hrun
    have hR : s = (ckRun kp a b) := hrun
    refine K_norB ?_
    refine K_then ?_
    refine C_seq ?_
    refine C_reg ?_
    refine RE (Does.giveL (k := 60) (es := 2) (off := 0) (len := s.xs.length) (xs := s.xs) (f := tSn) (ts := rV tSn s.xs) (d_load (ts := [.own (.sl 60 2 0 s.xs.length)]) (0) ti54 rfl rfl) (fun _ h => h) (rV_all rfl) rfl) ⟨rfl, trivial⟩ ⟨rfl, rfl, trivial⟩ trivial ?_
    refine R1 d_assign rfl ?_
    refine R1 d_assign rfl ?_
    refine R_nil (by kernel_rfl) ?_
    refine K_then ?_
    refine C_ret ?_
    exact E_ret2 (Plain.loop Plain.mk' hD) rfl rfl rfl (Le.of (by rw [if_pos hok, hR])) (Le.int (by rw [if_pos hok]))
   ·
    intro D hD e i; exact i.elim
theorem c_Union1 (x y : Bool) :
  Ct Tryz.prog 67 [tMem x y] (tB (x || y)) := by
 refine Ct.intro Tryz.func67 rfl Tryz.ntmps67 rfl ?_
 intro w F
 refine C_seq ?_
 refine C_reg ?_
 refine RE (d_box (k := 1) ti100 rfl) ⟨rfl, trivial⟩ trivial ⟨rfl, trivial⟩ ?_
 refine R1 d_assign rfl ?_
 refine R_nil (by kernel_rfl) ?_
 refine K_then ?_
 refine C_seq ?_
 refine C_reg ?_
 refine R1 (d_fieldO fo100_0 rfl) rfl ?_
 refine R_loadF (0) ti4 rfl rfl rfl (At.g 0 rfl rfl) rfl ?_
 refine R1 d_move rfl ?_
 refine RGcase (t := 5) rfl (fun h109 => ?_) (fun h109 => ?_)
 ·
  refine RGoff h109 rfl rfl ?_
  refine RGoff h109 rfl rfl ?_
  refine R2 (d_pickT h109) rfl rfl ?_
  refine R1 d_assign rfl ?_
  refine R_nil (by kernel_rfl) ?_
  refine K_then ?_
  refine C_ret ?_
  exact E_ret1 Plain.mk' rfl rfl (Le.bool (by simp [*]))
 ·
  refine RGon h109 rfl (d_fieldO fo100_1 rfl) rfl ⟨rfl, trivial⟩ trivial trivial ?_
  refine RG_loadF h109 rfl rfl (0) ti4 rfl rfl rfl (At.g 1 rfl rfl) rfl ?_
  refine R2 (d_pickF h109) rfl rfl ?_
  refine R1 d_assign rfl ?_
  refine R_nil (by kernel_rfl) ?_
  refine K_then ?_
  refine C_ret ?_
  exact E_ret1 Plain.mk' rfl rfl (Le.bool (by simp [*]))
theorem c_Union (a b : List Sn) (hla : a.length ≤ 100000) (hlb : b.length ≤ 100000) :
  Ct Tryz.prog 32 [tL 2 true tSn a, tL 2 true tSn b] (tT [tL 2 true tSn (if sVal a = true ∧ sVal b = true then (ckRun (fun x y => x || y) a b).xs else []), tI (if sVal a = true ∧ sVal b = true then 0 else 2)]) := by
 refine Ct.intro Tryz.func32 rfl Tryz.ntmps32 rfl ?_
 intro w F
 refine C_seq ?_
 refine C_reg ?_
 refine R1 d_assign rfl ?_
 refine R1 d_assign rfl ?_
 refine R_nil (by kernel_rfl) ?_
 refine K_then ?_
 refine C_seq ?_
 refine C_reg ?_
 refine R1 d_move rfl ?_
 refine R1 d_move rfl ?_
 refine R3 (d_call (c_choose a b 67 (fun x y => x || y) fi67 c_Union1 hla hlb) fi66 rfl) rfl rfl rfl ?_
 refine R1 (d_extract rfl) rfl ?_
 refine R1 (d_extract rfl) rfl ?_
 refine R1 d_assign rfl ?_
 refine R1 d_assign rfl ?_
 refine R_nil (by kernel_rfl) ?_
 refine K_then ?_
 refine C_ret ?_
 exact E_ret2 Plain.mk' rfl rfl rfl Le.refl Le.refl
end An.S

/- Layer 4: what is chosen is the set of the days that are wanted; sets with the same days are the same. Plain data. -/
namespace An.S
open Go
def mem (l : List Sn) (d : Int) : Bool := l.any fun s => decide (s.lo ≤ d) && decide (d < s.hi)
theorem mem_iff {l : List Sn} {d : Int} : mem l d = true ↔ ∃ s ∈ l, s.lo ≤ d ∧ d < s.hi := by simp [mem]
theorem mem_no {l : List Sn} {d : Int} : mem l d = false ↔ ∀ s ∈ l, ¬ (s.lo ≤ d ∧ d < s.hi) := by
  rw [← Bool.not_eq_true, mem_iff]; simp only [not_exists, not_and]
theorem mem_snoc {l : List Sn} {s : Sn} {d : Int} : mem (l ++ [s]) d = (mem l d || (decide (s.lo ≤ d) && decide (d < s.hi))) := by simp [mem]
/-- The border i is the first one behind the day D. -/
def Pos (l : List Sn) (i : Nat) (D : Int) : Prop := i ≤ 2 * l.length ∧ (∀ k, k < i → bd l k ≤ D) ∧ ∀ k, i ≤ k → k < 2 * l.length → D < bd l k
theorem exists_getS {l : List Sn} {s : Sn} (hs : s ∈ l) : ∃ i, i < l.length ∧ s = l.getD i sn0 := by
  obtain ⟨i, hi, e⟩ := List.getElem_of_mem hs
  exact ⟨i, hi, by rw [List.getD_eq_getElem?_getD, List.getElem?_eq_getElem hi]; exact e.symm⟩
theorem mem_getS {l : List Sn} {i : Nat} (hi : i < l.length) : l.getD i sn0 ∈ l := by
  rw [List.getD_eq_getElem?_getD, List.getElem?_eq_getElem hi]; exact List.getElem_mem hi
theorem bd_even (l : List Sn) (p : Nat) : bd l (2 * p) = (l.getD p sn0).lo := by rw [bd, if_pos (by omega), show 2 * p / 2 = p by omega]
theorem bd_odd (l : List Sn) (p : Nat) : bd l (2 * p + 1) = (l.getD p sn0).hi := by rw [bd, if_neg (by omega), show (2 * p + 1) / 2 = p by omega]
theorem Pos.mem {l : List Sn} {i : Nat} {D : Int} (h : Pos l i D) : mem l D = (i % 2 == 1) := by
  obtain ⟨h1, h2, h3⟩ := h
  rw [Bool.eq_iff_iff, mem_iff, beq_iff_eq]
  constructor
  · rintro ⟨s, hs, h4, h5⟩
    obtain ⟨p, hp, rfl⟩ := exists_getS hs
    rw [← bd_even] at h4; rw [← bd_odd] at h5
    have a1 : ¬ i ≤ 2 * p := fun h' => by have := h3 _ h' (by omega); omega
    have a2 : ¬ 2 * p + 1 < i := fun h' => by have := h2 _ h'; omega
    omega
  · intro h4
    have e : i = 2 * (i / 2) + 1 := by omega
    refine ⟨l.getD (i / 2) sn0, mem_getS (by omega), ?_, ?_⟩
    · rw [← bd_even]; exact h2 _ (by omega)
    · rw [← bd_odd]; exact h3 _ (by omega) (by omega)
theorem Pos.stay {l : List Sn} {i : Nat} {D d e : Int} (hv : sVal l = true) (h : Pos l i D) (hd : D ≤ d) (he : d < e) (hb : i < 2 * l.length → e ≤ bd l i) : Pos l i d := by
  refine ⟨h.1, fun k hk => by have := h.2.1 k hk; omega, fun k hk hk2 => ?_⟩
  have h1 := hb (by omega)
  rcases Nat.lt_or_ge i k with h2 | h2
  · have := bd_lt hv h2 hk2; omega
  · have : k = i := by omega
    subst this; omega
theorem Pos.next {l : List Sn} {i : Nat} {D e : Int} (hv : sVal l = true) (h : Pos l i D) (he : D < e) (hb : i < 2 * l.length → e ≤ bd l i) : Pos l (cnxt l i e) e := by
  refine ⟨cnxt_le h.1, fun k hk => ?_, fun k hk hk2 => ?_⟩
  · rw [cnxt] at hk
    split at hk
    · rename_i hc
      rcases Nat.lt_or_ge k i with h2 | h2
      · have := h.2.1 k h2; omega
      · have : k = i := by omega
        subst this; omega
    · have := h.2.1 k hk; omega
  · rw [cnxt] at hk
    split at hk
    · rename_i hc
      have := bd_lt hv (show i < k by omega) hk2; omega
    · rename_i hc
      have h1 := hb (by omega)
      rcases Nat.lt_or_ge i k with h2 | h2
      · have := bd_lt hv h2 hk2; omega
      · have : k = i := by omega
        subst this
        have : ¬ bd l k = e := fun h' => hc ⟨hk2, h'⟩
        omega
theorem Pos.zero {l : List Sn} (hv : sVal l = true) : Pos l 0 (-1) := ⟨Nat.zero_le _, fun k hk => by omega, fun k _ hk2 => by have := bd_le hv hk2; omega⟩
theorem sVal_lt {l : List Sn} (h : sVal l = true) {i j : Nat} (hij : i < j) (hj : j < l.length) : (l.getD i sn0).hi < (l.getD j sn0).lo := by
  have := bd_lt h (show 2 * i + 1 < 2 * j by omega) (by omega)
  rwa [bd_odd, bd_even] at this
theorem lastS_no {l : List Sn} {d : Int} (h : sVal l = true) (hl : 0 < l.length → (lastS l).hi ≤ d) : mem l d = false := mem_no.2 fun s hs h' => by
  obtain ⟨i, hi, rfl⟩ := exists_getS hs
  have h1 := hl (by omega)
  have h2 := sVal_at h hi
  rcases Nat.lt_or_ge i (l.length - 1) with h3 | h3
  · have h4 := sVal_lt h h3 (by omega)
    have h5 := sVal_at h (i := l.length - 1) (by omega)
    have h6 : (l.getD (l.length - 1) sn0).hi ≤ d := h1
    omega
  · have : i = l.length - 1 := by omega
    subst this
    have h6 : (l.getD (l.length - 1) sn0).hi ≤ d := h1
    omega
structure CkI (kp : Bool → Bool → Bool) (a b : List Sn) (s : Ck) (i j : Nat) (D : Int) : Prop where
  d0 : -1 ≤ D
  pa : Pos a i D
  pb : Pos b j D
  ins : s.ins = kp (i % 2 == 1) (j % 2 == 1)
  val : sVal s.xs = true
  last : 0 < s.xs.length → (lastS s.xs).hi ≤ D ∧ (s.ins = true → (lastS s.xs).hi < s.lo)
  lo : s.ins = true → 0 ≤ s.lo ∧ s.lo ≤ D
  all : ∀ d, d ≤ D → (mem s.xs d || (s.ins && decide (s.lo ≤ d))) = kp (mem a d) (mem b d)
theorem CkI.next {kp : Bool → Bool → Bool} {a b : List Sn} {s : Ck} {i j : Nat} {D : Int} (ha : sVal a = true) (hb : sVal b = true) (h : CkI kp a b s i j D) (hij : i < 2 * a.length ∨ j < 2 * b.length) : CkI kp a b (ck1 kp s (cday a b i j, cnxt a i (cday a b i j), cnxt b j (cday a b i j))) (cnxt a i (cday a b i j)) (cnxt b j (cday a b i j)) (cday a b i j) := by
  obtain ⟨c1, c2, c3⟩ := cday_is ha hb hij
  have hD : D < cday a b i j := by
    rcases c3 with c3 | c3
    · have := h.pa.2.2 i (Nat.le_refl _) c3.1; omega
    · have := h.pb.2.2 j (Nat.le_refl _) c3.1; omega
  have hE : cday a b i j ≤ 65536 := by
    rcases c3 with c3 | c3
    · have := bd_le ha c3.1; omega
    · have := bd_le hb c3.1; omega
  generalize cday a b i j = e at *
  have pa := h.pa.next ha hD c1
  have pb := h.pb.next hb hD c2
  have mid : ∀ d, D < d → d < e → kp (mem a d) (mem b d) = s.ins := fun d h1 h2 => by
    rw [(h.pa.stay ha (by omega) h2 c1).mem, (h.pb.stay hb (by omega) h2 c2).mem, h.ins]
  have now : kp (mem a e) (mem b e) = kp (cnxt a i e % 2 == 1) (cnxt b j e % 2 == 1) := by rw [pa.mem, pb.mem]
  have hno : ∀ d, D ≤ d → mem s.xs d = false := fun d hd => lastS_no h.val fun h0 => by have := (h.last h0).1; omega
  obtain ⟨xs, lo, ins⟩ := s
  have hd0 := h.d0
  have hd1 : -1 ≤ e := by omega
  obtain ⟨_, _, _, h3, h4, h5, h6, h7⟩ := h
  simp only at *
  cases hn : kp (cnxt a i e % 2 == 1) (cnxt b j e % 2 == 1) <;> cases ins
  · -- outside, outside
    have e1 : ck1 kp ⟨xs, lo, false⟩ (e, cnxt a i e, cnxt b j e) = ⟨xs, lo, false⟩ := by simp [ck1, hn]
    rw [e1]
    refine ⟨hd1, pa, pb, hn.symm, h4, fun h0 => ⟨by have := (h5 h0).1; show (lastS xs).hi ≤ e; omega, fun h' => by cases h'⟩, fun h' => (by cases h'), fun d hd => ?_⟩
    show (mem xs d || (false && decide (lo ≤ d))) = _
    rcases Int.lt_or_le D d with hd2 | hd2
    · rw [hno d (by omega)]
      rcases Int.lt_or_le d e with hd3 | hd3
      · rw [mid d hd2 hd3]; rfl
      · rw [show d = e by omega, now, hn]; rfl
    · exact h7 d hd2
  · -- ends
    have e1 : ck1 kp ⟨xs, lo, true⟩ (e, cnxt a i e, cnxt b j e) = ⟨xs ++ [⟨lo, e⟩], lo, false⟩ := by simp [ck1, hn]
    rw [e1]
    obtain ⟨l0, l1⟩ := h6 rfl
    refine ⟨hd1, pa, pb, hn.symm, sVal_snoc h4 ⟨l0, by show lo < e; omega, hE⟩ fun h0 => (h5 h0).2 rfl, fun _ => ⟨?_, fun h' => by cases h'⟩, fun h' => (by cases h'), fun d hd => ?_⟩
    · show (lastS (xs ++ [⟨lo, e⟩])).hi ≤ e
      rw [lastS, getD_snocS, List.length_append, List.length_singleton, if_neg (by omega), if_pos (by omega)]
      exact Int.le_refl _
    · show (mem (xs ++ [⟨lo, e⟩]) d || (false && _)) = _
      rw [mem_snoc]
      rcases Int.lt_or_le D d with hd2 | hd2
      · rw [hno d (by omega)]
        rcases Int.lt_or_le d e with hd3 | hd3
        · rw [mid d hd2 hd3]; simp; omega
        · rw [show d = e by omega, now, hn]; simp
      · rw [← h7 d hd2, show decide (d < e) = true from decide_eq_true (by omega)]; simp
  · -- begins
    have e1 : ck1 kp ⟨xs, lo, false⟩ (e, cnxt a i e, cnxt b j e) = ⟨xs, e, true⟩ := by simp [ck1, hn]
    rw [e1]
    refine ⟨hd1, pa, pb, hn.symm, h4, fun h0 => ⟨by have := (h5 h0).1; show (lastS xs).hi ≤ e; omega, fun _ => by have := (h5 h0).1; show (lastS xs).hi < e; omega⟩, fun _ => ⟨by show 0 ≤ e; omega, Int.le_refl _⟩, fun d hd => ?_⟩
    show (mem xs d || (true && decide (e ≤ d))) = _
    rcases Int.lt_or_le D d with hd2 | hd2
    · rw [hno d (by omega)]
      rcases Int.lt_or_le d e with hd3 | hd3
      · rw [mid d hd2 hd3]; simp; omega
      · rw [show d = e by omega, now, hn]; simp
    · rw [← h7 d hd2, show decide (e ≤ d) = false from decide_eq_false (by omega)]; simp
  · -- inside, inside
    have e1 : ck1 kp ⟨xs, lo, true⟩ (e, cnxt a i e, cnxt b j e) = ⟨xs, lo, true⟩ := by simp [ck1, hn]
    rw [e1]
    obtain ⟨l0, l1⟩ := h6 rfl
    refine ⟨hd1, pa, pb, hn.symm, h4, fun h0 => ⟨by have := (h5 h0).1; show (lastS xs).hi ≤ e; omega, (h5 h0).2⟩, fun _ => ⟨l0, by show lo ≤ e; omega⟩, fun d hd => ?_⟩
    show (mem xs d || (true && decide (lo ≤ d))) = _
    rcases Int.lt_or_le D d with hd2 | hd2
    · rw [hno d (by omega)]
      rcases Int.lt_or_le d e with hd3 | hd3
      · rw [mid d hd2 hd3]; simp; omega
      · rw [show d = e by omega, now, hn]; simp; omega
    · exact h7 d hd2
theorem ck_run {kp : Bool → Bool → Bool} {a b : List Sn} (ha : sVal a = true) (hb : sVal b = true) (hk : kp false false = false) : ∀ (f i j : Nat) (D : Int) (s : Ck), CkI kp a b s i j D → 2 * a.length + 2 * b.length ≤ f + (i + j) →
    sVal ((chL a b f i j).foldl (ck1 kp) s).xs = true ∧ ∀ d, mem ((chL a b f i j).foldl (ck1 kp) s).xs d = kp (mem a d) (mem b d)
  | f, i, j, D, s, h, hf => by
    by_cases hij : i < 2 * a.length ∨ j < 2 * b.length
    · cases f with
      | zero => have := h.pa.1; have := h.pb.1; omega
      | succ f =>
        have hadv := cnxt_adv ha hb hij
        rw [chL, if_pos hij, List.foldl_cons]
        exact ck_run ha hb hk f _ _ _ _ (h.next ha hb hij) (by omega)
    · have e : chL a b f i j = [] := by cases f with
        | zero => rfl
        | succ f => rw [chL, if_neg hij]
      have hi : i = 2 * a.length := by have := h.pa.1; omega
      have hj : j = 2 * b.length := by have := h.pb.1; omega
      have hins : s.ins = false := by
        rw [h.ins, show (i % 2 == 1) = false by simp; omega, show (j % 2 == 1) = false by simp; omega, hk]
      rw [e]
      refine ⟨h.val, fun d => ?_⟩
      show mem s.xs d = _
      rcases Int.lt_or_le D d with hd | hd
      · rw [lastS_no h.val (fun h0 => by have := (h.last h0).1; omega), (h.pa.stay ha (Int.le_of_lt hd) (Int.lt_succ d) (fun h' => by omega)).mem, (h.pb.stay hb (Int.le_of_lt hd) (Int.lt_succ d) (fun h' => by omega)).mem, show (i % 2 == 1) = false by simp; omega, show (j % 2 == 1) = false by simp; omega, hk]
      · have := h.all d hd
        rw [hins] at this; simpa using this
theorem ck_zero {kp : Bool → Bool → Bool} {a b : List Sn} (ha : sVal a = true) (hb : sVal b = true) (hk : kp false false = false) : CkI kp a b ⟨[], 0, false⟩ 0 0 (-1) where
  d0 := by omega
  pa := Pos.zero ha
  pb := Pos.zero hb
  ins := hk.symm
  val := rfl
  last := fun h => by cases h
  lo := fun h => by cases h
  all := fun d hd => by
    have e1 : mem a d = false := mem_no.2 fun s hs h' => by
      obtain ⟨i, hi, rfl⟩ := exists_getS hs
      have := sVal_at ha hi; omega
    have e2 : mem b d = false := mem_no.2 fun s hs h' => by
      obtain ⟨i, hi, rfl⟩ := exists_getS hs
      have := sVal_at hb hi; omega
    rw [e1, e2, hk]; rfl
/-- What is chosen is the set of the days that are wanted. -/
theorem ck_all {kp : Bool → Bool → Bool} {a b : List Sn} (ha : sVal a = true) (hb : sVal b = true) (hk : kp false false = false) : sVal (ckRun kp a b).xs = true ∧ ∀ d, mem (ckRun kp a b).xs d = kp (mem a d) (mem b d) :=
  ck_run ha hb hk _ 0 0 (-1) _ (ck_zero ha hb hk) (by omega)
/-! Sets with the same days are the same. -/
def setS (l : List Sn) : Prop := (∀ s ∈ l, okS s) ∧ l.Pairwise fun s t => s.hi < t.lo
theorem sVal_set {l : List Sn} (h : sVal l = true) : setS l := by
  refine ⟨fun s hs => ?_, List.pairwise_iff_getElem.2 fun i j hi hj hij => ?_⟩
  · obtain ⟨i, hi, rfl⟩ := exists_getS hs
    exact sVal_at h hi
  · have := sVal_lt h hij hj
    rwa [List.getD_eq_getElem?_getD, List.getD_eq_getElem?_getD, List.getElem?_eq_getElem hi, List.getElem?_eq_getElem hj] at this
theorem mem_cons {s : Sn} {r : List Sn} {d : Int} : mem (s :: r) d = ((decide (s.lo ≤ d) && decide (d < s.hi)) || mem r d) := by simp [mem]
theorem mem_low {s : Sn} {r : List Sn} {d : Int} (h : setS (s :: r)) (hd : d ≤ s.hi) : mem r d = false := mem_no.2 fun t ht h' => by
  have := (List.pairwise_cons.1 h.2).1 t ht; omega
theorem set_ext : ∀ {a b : List Sn}, setS a → setS b → (∀ d, mem a d = mem b d) → a = b
  | [], [], _, _, _ => rfl
  | [], t :: u, _, hb, h => by
    have h1 := hb.1 t (List.mem_cons_self ..)
    have h2 := h t.lo
    rw [mem_cons] at h2
    simp [mem, h1.2.1] at h2
  | s :: r, [], ha, _, h => by
    have h1 := ha.1 s (List.mem_cons_self ..)
    have h2 := h s.lo
    rw [mem_cons] at h2
    simp [mem, h1.2.1] at h2
  | s :: r, t :: u, ha, hb, h => by
    have hs := ha.1 s (List.mem_cons_self ..)
    have ht := hb.1 t (List.mem_cons_self ..)
    have pa := List.pairwise_cons.1 ha.2
    have pb := List.pairwise_cons.1 hb.2
    have l1 : t.lo ≤ s.lo := by
      obtain ⟨x, hx, hx2⟩ := mem_iff.1 ((h s.lo).symm.trans (by rw [mem_cons]; simp [hs.2.1]))
      rcases List.mem_cons.1 hx with rfl | hx
      · exact hx2.1
      · have := pb.1 x hx; have := ht.2.1; omega
    have l2 : s.lo ≤ t.lo := by
      obtain ⟨x, hx, hx2⟩ := mem_iff.1 ((h t.lo).trans (by rw [mem_cons]; simp [ht.2.1]))
      rcases List.mem_cons.1 hx with rfl | hx
      · exact hx2.1
      · have := pa.1 x hx; have := hs.2.1; omega
    have l3 : t.hi ≤ s.hi := by
      rcases Int.lt_or_le s.hi t.hi with h1 | h1
      · have h2 := h s.hi
        have := hs.2.1
        rw [mem_cons, mem_cons, mem_low ha (Int.le_refl _)] at h2
        simp [h1, show t.lo ≤ s.hi by omega] at h2
      · exact h1
    have l4 : s.hi ≤ t.hi := by
      rcases Int.lt_or_le t.hi s.hi with h1 | h1
      · have h2 := h t.hi
        have := ht.2.1
        rw [mem_cons, mem_cons, mem_low hb (Int.le_refl _)] at h2
        simp [h1, show s.lo ≤ t.hi by omega] at h2
      · exact h1
    have est : s = t := by
      obtain ⟨a1, a2⟩ := s; obtain ⟨b1, b2⟩ := t
      simp only at l1 l2 l3 l4
      rw [show a1 = b1 by omega, show a2 = b2 by omega]
    subst est
    congr 1
    refine set_ext ⟨fun x hx => ha.1 x (List.mem_cons_of_mem _ hx), pa.2⟩ ⟨fun x hx => hb.1 x (List.mem_cons_of_mem _ hx), pb.2⟩ fun d => ?_
    rcases Int.lt_or_le d s.hi with h1 | h1
    · rw [mem_low ha (by omega), mem_low hb (by omega)]
    · have h2 := h d
      rw [mem_cons, mem_cons] at h2
      simpa [show ¬ d < s.hi by omega] using h2
theorem set_same {a b : List Sn} (ha : sVal a = true) (hb : sVal b = true) (h : ∀ d, mem a d = mem b d) : a = b := set_ext (sVal_set ha) (sVal_set hb) h
/-! Worked days. -/
theorem mem_append {a b : List Sn} {d : Int} : mem (a ++ b) d = (mem a d || mem b d) := by simp [mem]
theorem mem_mrg {d : Int} : ∀ (xs acc : List Sn), ascS xs → sVal acc = true → (0 < acc.length → ∀ s ∈ xs, (lastS acc).hi ≤ s.lo) → mem (xs.foldl mrg1 acc) d = (mem acc d || mem xs d)
  | [], acc, _, _, _ => by simp [mem]
  | s :: r, acc, hx, hv, hl => by
    have hs := hx.1 s (List.mem_cons_self ..)
    have hp := List.pairwise_cons.1 hx.2
    have hr : ascS r := ⟨fun t ht => hx.1 t (List.mem_cons_of_mem _ ht), hp.2⟩
    have h1 := mrg_asc [s] acc ⟨fun t ht => hx.1 t (by rw [List.mem_singleton.1 ht]; exact List.mem_cons_self ..), List.pairwise_singleton ..⟩ hv fun h0 t ht => hl h0 t (by rw [List.mem_singleton.1 ht]; exact List.mem_cons_self ..)
    have key : mem (mrg1 acc s) d = (mem acc d || (decide (s.lo ≤ d) && decide (d < s.hi))) ∧ (lastS (mrg1 acc s)).hi = s.hi := by
      rw [mrg1]
      split
      · rename_i hm
        have h2 : (lastS acc).hi = s.lo := by have := hl hm.1 s (List.mem_cons_self ..); have h2 : s.lo ≤ (lastS acc).hi := hm.2; omega
        have hmax : max (acc.getD (acc.length - 1) sn0).hi s.hi = s.hi := by
          have h3 : (acc.getD (acc.length - 1) sn0).hi = s.lo := h2
          have := hs.2.1; omega
        rw [hmax]
        refine ⟨?_, by rw [lastS, List.length_set, getD_setS (by omega), if_pos rfl]⟩
        rw [set_lastE hm.1, mem_snoc]
        have e3 : mem acc d = (mem (acc.take (acc.length - 1)) d || (decide ((lastS acc).lo ≤ d) && decide (d < (lastS acc).hi))) := by rw [← mem_snoc, ← split_last hm.1]
        rw [e3, h2]
        have h4 := sVal_at hv (i := acc.length - 1) (by omega)
        have h5 : (lastS acc).lo < s.lo := by rw [← h2]; exact h4.2.1
        have h6 : (acc.getD (acc.length - 1) sn0).lo = (lastS acc).lo := rfl
        have := hs.2.1
        dsimp only
        rw [h6, Bool.or_assoc]
        congr 1
        rw [Bool.eq_iff_iff]; simp; omega
      · rename_i hm
        exact ⟨mem_snoc, by rw [lastS, getD_snocS, List.length_append, List.length_singleton, if_neg (by omega), if_pos (by omega)]⟩
    have ih := mem_mrg (d := d) r (mrg1 acc s) hr h1.1 fun _ t ht => by rw [key.2]; exact hp.1 t ht
    rw [List.foldl_cons, ih, key.1, mem_cons, Bool.or_assoc]
/-- The days on which one works. -/
theorem mem_wkd {l : List Tst} {a b d : Int} (h : isB l) (h0 : 0 ≤ a) (h1 : b ≤ 65536) : mem (wkd l a b) d = true ↔ (a ≤ d ∧ d < b) ∧ ∃ s ∈ l, s.v.f.n.l.length ≠ 0 ∧ s.lo ≤ d ∧ d < s.hi := by
  rw [wkd_eq h.1 h0 h1]
  split
  · simp [mem]; omega
  · rename_i hab
    have hm := mem_mrg (d := d) (wkS l a b) [] (wkS_asc h.1 h0 h1 (by omega)) rfl fun h' => by cases h'
    rw [mrg, hm]
    simp only [mem, List.any_nil, Bool.false_or]
    rw [show (wkS l a b).any (fun s => decide (s.lo ≤ d) && decide (d < s.hi)) = mem (wkS l a b) d from rfl, mem_iff]
    constructor
    · rintro ⟨x, hx, hx2⟩
      obtain ⟨s, hs, rfl⟩ := List.mem_map.1 hx
      obtain ⟨hs1, hs2⟩ := List.mem_filter.1 hs
      have hi : ¬ _ := fun h' => by rw [idle_iff.2 h'] at hs2; cases hs2
      simp only [clipS] at hx2
      exact ⟨by omega, s, hs1, by omega, by omega⟩
    · rintro ⟨hd, s, hs1, h3, h4⟩
      have hi : ¬ idle a b s = true := fun h' => by have := idle_iff.1 h'; omega
      refine ⟨clipS a b s, List.mem_map.2 ⟨s, List.mem_filter.2 ⟨hs1, by simpa using hi⟩, rfl⟩, ?_⟩
      simp only [clipS]; omega
end An.S

/- Layer 4: days are looked for. -/
namespace An.S
open Go Go.Proofs An
set_option maxHeartbeats 2000000
/-- The index of the first span that has days from d on. -/
def fnd (l : List Sn) (d : Int) : Nat := (l.takeWhile fun s => decide (s.hi ≤ d)).length
def hasB (l : List Sn) (d : Int) : Bool := decide (fnd l d < l.length) && decide ((l.getD (fnd l d) sn0).lo ≤ d)
def wi (b : List Sn) (s : Sn) : Bool := decide (fnd b s.lo < b.length) && decide ((b.getD (fnd b s.lo) sn0).lo ≤ s.lo) && decide (s.hi ≤ (b.getD (fnd b s.lo) sn0).hi)
end An.S

/- Layer 8: neighbouring spans. Plain data, but for what the walks define. -/
namespace An.S
open Go
theorem quS_add {l : List Tst} {a c b : Int} (h : isB l) (h1 : a ≤ c) (h2 : c ≤ b) : quS l a c + quS l c b = quS l a b := by
  have key : ∀ r : List Tst, (∀ s ∈ r, s ∈ l) → quS r a c + quS r c b = quS r a b := by
    intro r
    induction r with
    | nil => intro _; rfl
    | cons s r ih =>
      intro hr
      have ih := ih fun x hx => hr x (List.mem_cons_of_mem _ hx)
      have hs := h.bd s (hr s (List.mem_cons_self ..))
      have e : ∀ x y, quS (s :: r) x y = quS1 x y s + quS r x y := fun _ _ => rfl
      rw [e, e, e, ← ih]
      have k : quS1 a c s + quS1 c b s = quS1 a b s := by
        simp only [quS1]
        generalize qsum s.v 4 = q
        by_cases d1 : dys a c s ≤ 0
        · by_cases d2 : dys c b s ≤ 0
          · rw [if_pos d1, if_pos d2, if_pos (by simp only [dys] at *; omega)]; rfl
          · rw [if_pos d1, if_neg d2, if_neg (by simp only [dys] at *; omega), show dys a b s = dys c b s by simp only [dys] at *; omega]; omega
        · by_cases d2 : dys c b s ≤ 0
          · rw [if_neg d1, if_pos d2, if_neg (by simp only [dys] at *; omega), show dys a b s = dys a c s by simp only [dys] at *; omega]; omega
          · rw [if_neg d1, if_neg d2, if_neg (by simp only [dys] at *; omega), show dys a b s = dys a c s + dys c b s by simp only [dys] at *; omega, Int.mul_add]
      omega
  exact key l fun s hs => hs
theorem kfr_add (x y : Int) : kfr x 1461 + kfr y 1461 = kfr (x + y) 1461 := by
  rw [kfr_big (by decide), kfr_big (by decide), kfr_big (by decide), Rat.divInt_add_divInt x y (by decide) (by decide)]
  exact (Rat.divInt_eq_divInt_iff (by decide) (by decide)).2 (by omega)
def unionS (u v : List Sn) : List Sn := (ckRun (fun x y => x || y) u v).xs
def meetS (u v : List Sn) : List Sn := (ckRun (fun x y => x && y) u v).xs
theorem unionS_spec {u v : List Sn} (hu : sVal u = true) (hv : sVal v = true) : sVal (unionS u v) = true ∧ ∀ d, mem (unionS u v) d = (mem u d || mem v d) := ck_all (kp := fun x y => x || y) hu hv rfl
theorem wkd_add {l : List Tst} {a c b : Int} (h : isB l) (h0 : 0 ≤ a) (h1 : a ≤ c) (h2 : c ≤ b) (h3 : b ≤ 65536) : unionS (wkd l a c) (wkd l c b) = wkd l a b := by
  have e1 := (wkd_set (a := a) (b := c) h.1 h0 (by omega)).1
  have e2 := (wkd_set (a := c) (b := b) h.1 (by omega) h3).1
  have e3 := (wkd_set (a := a) (b := b) h.1 h0 h3).1
  obtain ⟨s1, s2⟩ := unionS_spec e1 e2
  refine set_same s1 e3 fun d => ?_
  rw [s2, Bool.eq_iff_iff, Bool.or_eq_true, mem_wkd h h0 (by omega), mem_wkd h (by omega) h3, mem_wkd h h0 h3]
  by_cases hE : ∃ s ∈ l, s.v.f.n.l.length ≠ 0 ∧ s.lo ≤ d ∧ d < s.hi
  · simp only [hE, and_true]; omega
  · simp only [hE, and_false, or_false]
end An.S

/- Law 8: ServiceAdds. -/
namespace An.S
open Go Go.Proofs An
set_option maxHeartbeats 2000000
theorem fi32 : FnI Tryz.prog 32 := ⟨_, Tryz.func32, by kernel_rfl, rfl⟩
theorem c_AddK (x y : Int) (h1 : 0 ≤ x) (h2 : x ≤ 1000000) (h3 : 0 ≤ y) (h4 : y ≤ 1000000) : Ct Tryz.prog 31 [tFr (fr (kfr x 1461)), tFr (fr (kfr y 1461))] (tT [tFr (fr (kfr (x + y) 1461)), tI 0]) := by
  have s1 : short (kfr x 1461) := short_kfr (by decide) (by omega) (by omega) (by decide)
  have s2 : short (kfr y 1461) := short_kfr (by decide) (by omega) (by omega) (by decide)
  have s3 : short (kfr (x + y) 1461) := short_kfr (by decide) (by omega) (by omega) (by decide)
  have h := c_FAdd (kfr x 1461) (kfr y 1461) s1 s2
  rw [kfr_add, resF, resFE, if_pos s3, if_pos s3] at h; exact h
theorem c_UnionT (u v : List Sn) (hu : sVal u = true) (hv : sVal v = true) (h1 : u.length ≤ 100000) (h2 : v.length ≤ 100000) : Ct Tryz.prog 32 [tL 2 true tSn u, tL 2 true tSn v] (tT [tL 2 true tSn (unionS u v), tI 0]) := by
  have h := c_Union u v h1 h2
  rw [if_pos ⟨hu, hv⟩, if_pos ⟨hu, hv⟩] at h; exact h
theorem c_sameSE (u w : List Sn) (e : u = w) : Ct Tryz.prog 33 [tL 2 true tSn u, tL 2 true tSn w] (tB true) := by
  subst e; exact c_sameS u
theorem c_SvAdds (m : List Nat) (hm : ∀ i, m.getD i 0 < 65536) (x y : Int) (z : Int) :
  Ct Tryz.prog 8 [tLm m, tI x, tI y, tI z] (tB true) := by
 obtain ⟨hB, hl⟩ := builtB m
 have hbt := c_Built m hm
 generalize builtT m = l at *
 have hdx := c_day x
 have ha : 0 ≤ x % 65537 ∧ x % 65537 ≤ 65536 := by omega
 generalize x % 65537 = a at *
 have hdy := c_day y
 have hb : 0 ≤ y % 65537 ∧ y % 65537 ≤ 65536 := by omega
 generalize y % 65537 = b at *
 have hr1 := Int.emod_nonneg z (show (max a b) - (min a b) + 1 ≠ 0 by omega)
 have hr2 := Int.emod_lt_of_pos z (show 0 < (max a b) - (min a b) + 1 by omega)
 have q1 := quS_bd (a := (min a b)) (b := ((min a b) + z % ((max a b) - (min a b) + 1))) hB
 have q2 := quS_bd (a := ((min a b) + z % ((max a b) - (min a b) + 1))) (b := (max a b)) hB
 have qa := quS_add (a := (min a b)) (c := ((min a b) + z % ((max a b) - (min a b) + 1))) (b := (max a b)) hB (by omega) (by omega)
 refine Ct.intro Tryz.func8 rfl Tryz.ntmps8 rfl ?_
 intro w F
 refine C_seq ?_
 refine C_reg ?_
 refine R1 d_assign rfl ?_
 refine R_nil (by kernel_rfl) ?_
 refine K_then ?_
 refine C_seq ?_
 refine C_seq ?_
 refine C_reg ?_
 refine R0 (d_call c_awake fi12 rfl)  ?_
 refine R1 d_not rfl ?_
 refine R_nil (by kernel_rfl) ?_
 refine K_then ?_
 refine C_bF rfl rfl ?_
 refine C_skip ?_
 refine K_then ?_
 refine C_seq ?_
 refine C_reg ?_
 refine R1 d_move rfl ?_
 refine R1 (d_call hbt fi13 rfl) rfl ?_
 refine R1 d_assign rfl ?_
 refine R_nil (by kernel_rfl) ?_
 refine K_then ?_
 refine C_seq ?_
 refine C_reg ?_
 refine R1 d_move rfl ?_
 refine R1 (d_call hdx fi14 rfl) rfl ?_
 refine R1 d_move rfl ?_
 refine R1 (d_call hdy fi14 rfl) rfl ?_
 refine R1 d_assign rfl ?_
 refine R1 d_assign rfl ?_
 refine R_nil (by kernel_rfl) ?_
 refine K_then ?_
 refine C_seq ?_
 refine C_reg ?_
 refine R1 d_move rfl ?_
 refine R1 d_move rfl ?_
 refine R2 d_min2 rfl rfl ?_
 refine R1 d_move rfl ?_
 refine R1 d_move rfl ?_
 refine R2 d_max2 rfl rfl ?_
 refine R1 d_assign rfl ?_
 refine R1 d_assign rfl ?_
 refine R_nil (by kernel_rfl) ?_
 refine K_then ?_
 refine C_seq ?_
 refine C_reg ?_
 refine R1 d_move rfl ?_
 refine R1 d_move rfl ?_
 refine R1 d_move rfl ?_
 refine R1 d_move rfl ?_
 refine R2 (d_sub (wr64 (by omega) (by omega))) rfl rfl ?_
 refine R2 (d_add (wr64 (by omega) (by omega))) rfl rfl ?_
 refine R2 (d_call (c_Pick z ((max a b) - (min a b) + 1) (by omega) (by omega)) fi30 rfl) rfl rfl ?_
 refine R2 (d_add (wr64 (by omega) (by omega))) rfl rfl ?_
 refine R1 d_assign rfl ?_
 refine R_nil (by kernel_rfl) ?_
 refine K_then ?_
 refine C_seq ?_
 refine C_reg ?_
 refine R1 d_move rfl ?_
 refine R1 d_move rfl ?_
 refine R1 d_move rfl ?_
 refine R3 (d_call (c_YearsB l (min a b) ((min a b) + z % ((max a b) - (min a b) + 1)) hB hl (by omega) (by omega)) fi15 rfl) rfl rfl rfl ?_
 refine R1 d_move rfl ?_
 refine R1 (d_extract rfl) rfl ?_
 refine R1 (d_extract rfl) rfl ?_
 refine RE (d_alloc (k := 12) (n := 4) (agg := true) zr26.1 zr26.2 rfl) trivial trivial ⟨rfl, trivial⟩ ?_
 refine RE (d_store (es := 4) (agg := true) (0) ti26 rfl rfl rfl) ⟨rfl, rfl, trivial⟩ ⟨rfl, trivial⟩ trivial ?_
 refine R1 d_assign rfl ?_
 refine R_nil (by kernel_rfl) ?_
 refine K_then ?_
 refine C_seq ?_
 refine C_reg ?_
 refine R1 d_move rfl ?_
 refine R1 d_move rfl ?_
 refine R1 d_move rfl ?_
 refine R3 (d_call (c_YearsB l ((min a b) + z % ((max a b) - (min a b) + 1)) (max a b) hB hl (by omega) (by omega)) fi15 rfl) rfl rfl rfl ?_
 refine R1 d_move rfl ?_
 refine R1 (d_extract rfl) rfl ?_
 refine R1 (d_extract rfl) rfl ?_
 refine RE (d_alloc (k := 14) (n := 4) (agg := true) zr26.1 zr26.2 rfl) trivial trivial ⟨rfl, trivial⟩ ?_
 refine RE (d_store (es := 4) (agg := true) (0) ti26 rfl rfl rfl) ⟨rfl, rfl, trivial⟩ ⟨rfl, trivial⟩ trivial ?_
 refine R1 d_assign rfl ?_
 refine R_nil (by kernel_rfl) ?_
 refine K_then ?_
 refine C_seq ?_
 refine C_reg ?_
 refine R1 d_move rfl ?_
 refine R1 d_move rfl ?_
 refine R1 d_move rfl ?_
 refine R3 (d_call (c_YearsB l (min a b) (max a b) hB hl (by omega) (by omega)) fi15 rfl) rfl rfl rfl ?_
 refine R1 d_move rfl ?_
 refine R1 (d_extract rfl) rfl ?_
 refine R1 (d_extract rfl) rfl ?_
 refine RE (d_alloc (k := 16) (n := 4) (agg := true) zr26.1 zr26.2 rfl) trivial trivial ⟨rfl, trivial⟩ ?_
 refine RE (d_store (es := 4) (agg := true) (0) ti26 rfl rfl rfl) ⟨rfl, rfl, trivial⟩ ⟨rfl, trivial⟩ trivial ?_
 refine R1 d_assign rfl ?_
 refine R_nil (by kernel_rfl) ?_
 refine K_then ?_
 refine C_seq ?_
 refine C_reg ?_
 refine RE (d_load (0) ti26 rfl rfl) ⟨rfl, trivial⟩ ⟨rfl, trivial⟩ trivial ?_
 refine RE (d_load (0) ti26 rfl rfl) ⟨rfl, trivial⟩ ⟨rfl, trivial⟩ trivial ?_
 refine R2 (d_call (c_AddK (quS l (min a b) ((min a b) + z % ((max a b) - (min a b) + 1))) (quS l ((min a b) + z % ((max a b) - (min a b) + 1)) (max a b)) (by omega) (by omega) (by omega) (by omega)) fi31 rfl) rfl rfl ?_
 refine R1 d_move rfl ?_
 refine R1 (d_extract rfl) rfl ?_
 refine R1 (d_extract rfl) rfl ?_
 refine RE (d_alloc (k := 18) (n := 4) (agg := true) zr26.1 zr26.2 rfl) trivial trivial ⟨rfl, trivial⟩ ?_
 refine RE (d_store (es := 4) (agg := true) (0) ti26 rfl rfl rfl) ⟨rfl, rfl, trivial⟩ ⟨rfl, trivial⟩ trivial ?_
 refine R1 d_assign rfl ?_
 refine R_nil (by kernel_rfl) ?_
 refine K_then ?_
 refine C_seq ?_
 refine C_reg ?_
 refine R1 d_move rfl ?_
 refine R1 d_move rfl ?_
 refine R1 d_move rfl ?_
 refine R3 (d_call (c_WorkedB l (min a b) ((min a b) + z % ((max a b) - (min a b) + 1)) hB hl (by omega) (by omega)) fi24 rfl) rfl rfl rfl ?_
 refine R1 d_move rfl ?_
 refine R1 (d_extract rfl) rfl ?_
 refine R1 (d_extract rfl) rfl ?_
 refine R1 d_assign rfl ?_
 refine R1 d_assign rfl ?_
 refine R_nil (by kernel_rfl) ?_
 refine K_then ?_
 refine C_seq ?_
 refine C_reg ?_
 refine R1 d_move rfl ?_
 refine R1 d_move rfl ?_
 refine R1 d_move rfl ?_
 refine R3 (d_call (c_WorkedB l ((min a b) + z % ((max a b) - (min a b) + 1)) (max a b) hB hl (by omega) (by omega)) fi24 rfl) rfl rfl rfl ?_
 refine R1 d_move rfl ?_
 refine R1 (d_extract rfl) rfl ?_
 refine R1 (d_extract rfl) rfl ?_
 refine R1 d_assign rfl ?_
 refine R1 d_assign rfl ?_
 refine R_nil (by kernel_rfl) ?_
 refine K_then ?_
 refine C_seq ?_
 refine C_reg ?_
 refine R1 d_move rfl ?_
 refine R1 d_move rfl ?_
 refine R1 d_move rfl ?_
 refine R3 (d_call (c_WorkedB l (min a b) (max a b) hB hl (by omega) (by omega)) fi24 rfl) rfl rfl rfl ?_
 refine R1 d_move rfl ?_
 refine R1 (d_extract rfl) rfl ?_
 refine R1 (d_extract rfl) rfl ?_
 refine R1 d_assign rfl ?_
 refine R1 d_assign rfl ?_
 refine R_nil (by kernel_rfl) ?_
 refine K_then ?_
 refine C_seq ?_
 refine C_reg ?_
 refine R1 d_move rfl ?_
 refine R1 d_move rfl ?_
 refine R2 (d_call (c_UnionT (wkd l (min a b) ((min a b) + z % ((max a b) - (min a b) + 1))) (wkd l ((min a b) + z % ((max a b) - (min a b) + 1)) (max a b)) (days_B (a := (min a b)) (b := ((min a b) + z % ((max a b) - (min a b) + 1))) hB (by omega) (by omega)).1 (days_B (a := ((min a b) + z % ((max a b) - (min a b) + 1))) (b := (max a b)) hB (by omega) (by omega)).1 (Nat.le_trans (wkd_len (l := l) (a := (min a b)) (b := ((min a b) + z % ((max a b) - (min a b) + 1)))) (by omega)) (Nat.le_trans (wkd_len (l := l) (a := ((min a b) + z % ((max a b) - (min a b) + 1))) (b := (max a b))) (by omega))) fi32 rfl) rfl rfl ?_
 refine R1 d_move rfl ?_
 refine R1 (d_extract rfl) rfl ?_
 refine R1 (d_extract rfl) rfl ?_
 refine R1 d_assign rfl ?_
 refine R1 d_assign rfl ?_
 refine R_nil (by kernel_rfl) ?_
 refine K_then ?_
 refine C_seq ?_
 refine C_reg ?_
 refine R1 d_move rfl ?_
 refine R1 d_move rfl ?_
 refine R2 (d_add (wr64 (by omega) (by omega))) rfl rfl ?_
 refine R1 d_move rfl ?_
 refine R2 (d_add (wr64 (by omega) (by omega))) rfl rfl ?_
 refine R1 d_move rfl ?_
 refine R2 (d_add (wr64 (by omega) (by omega))) rfl rfl ?_
 refine R1 d_move rfl ?_
 refine R2 (d_add (wr64 (by omega) (by omega))) rfl rfl ?_
 refine R1 d_move rfl ?_
 refine R2 (d_add (wr64 (by omega) (by omega))) rfl rfl ?_
 refine R1 d_move rfl ?_
 refine R2 (d_add (wr64 (by omega) (by omega))) rfl rfl ?_
 refine R1 d_move rfl ?_
 refine R2 (d_add (wr64 (by omega) (by omega))) rfl rfl ?_
 refine R2 d_eql rfl rfl ?_
 refine R1 d_move rfl ?_
 refine RGon (decide_eq_true (by omega)) rfl (d_load (0) ti26 rfl rfl) rfl ⟨rfl, trivial⟩ ⟨rfl, trivial⟩ trivial ?_
 refine RGon (decide_eq_true (by omega)) rfl (d_load (0) ti26 rfl rfl) rfl ⟨rfl, trivial⟩ ⟨rfl, trivial⟩ trivial ?_
 refine RGon (decide_eq_true (by omega)) rfl (d_call (c_sameFE _ _ (by rw [qa])) fi19 rfl) rfl ⟨rfl, rfl, trivial⟩ trivial trivial ?_
 refine R2 (d_pickT (decide_eq_true (by omega))) rfl rfl ?_
 refine R1 d_move rfl ?_
 refine RGon rfl rfl d_move rfl ⟨rfl, trivial⟩ trivial trivial ?_
 refine RGon rfl rfl d_move rfl ⟨rfl, trivial⟩ trivial trivial ?_
 refine RGon rfl rfl (d_call (c_sameSE _ _ (wkd_add (a := (min a b)) (c := ((min a b) + z % ((max a b) - (min a b) + 1))) (b := (max a b)) hB (by omega) (by omega) (by omega) (by omega))) fi33 rfl) rfl ⟨rfl, rfl, trivial⟩ trivial trivial ?_
 refine R2 (d_pickT rfl) rfl rfl ?_
 refine R1 d_assign rfl ?_
 refine R_nil (by kernel_rfl) ?_
 refine K_then ?_
 refine C_ret ?_
 exact E_ret1 Plain.mk' rfl rfl Le.refl
end An.S
