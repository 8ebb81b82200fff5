/- Part 6 of a proof: Svc2, S14, S15, O8. -/
import Derived.Test.YtibnifedegepgaaGreatChecked
import Derived.Test.YtibnifedegepgaaGreatE5
/- Layer 8: the service of records of quarters. -/
namespace An.S
open Go
theorem qcase {q : Int} (h0 : 0 ≤ q) (h4 : q ≤ 4) : q = 0 ∨ q = 1 ∨ q = 2 ∨ q = 3 ∨ q = 4 := by omega
theorem qv_facts {q : Int} (h0 : 0 ≤ q) (h4 : q ≤ 4) : (qv q).valid = true ∧ sOk ⟨0, 1, qv q⟩ = true ∧ ((qv q).f.n.l.length = 0 ↔ q = 0) ∧ qsum (qv q) 4 = q ∧ qcnt (qv q) 4 = (if q = 0 then 0 else 1) := by
  rcases qcase h0 h4 with rfl | rfl | rfl | rfl | rfl <;> decide +kernel
theorem qv_rat {q : Int} : (qv q).f.rat = Rat.divInt q 4 := by
  show (fr (kfr q 4)).rat = _
  rw [rat_fr, kfr_big (by decide)]
/-- A record of quarters. -/
def isB (l : List Tst) : Prop := tRight l = true ∧ ∀ s ∈ l, ∃ q : Int, 0 ≤ q ∧ q ≤ 4 ∧ s.v = qv q
theorem isB.dig {l : List Tst} (h : isB l) : ∀ s ∈ l, s.v.f.dig := fun s hs => by
  obtain ⟨q, _, _, e⟩ := h.2 s hs
  rw [e]; exact dig_fr _
theorem isB.right {l : List Tst} (h : isB l) : sRight l = true := by
  rw [sRight, h.1, Bool.true_and]
  refine List.all_eq_true.2 fun s hs => ?_
  obtain ⟨q, h0, h4, e⟩ := h.2 s hs
  have := (qv_facts h0 h4).2.1
  simp only [sOk] at *
  rw [e]; exact this
theorem isB.bd {l : List Tst} (h : isB l) : ∀ s ∈ l, 0 ≤ s.lo ∧ s.lo < s.hi ∧ s.hi ≤ 65536 := fun s hs => by
  obtain ⟨i, hi, rfl⟩ := exists_getD hs
  have := tRight_at h.1 hi
  exact ⟨this.1, this.2.1, this.2.2.1⟩
theorem isB.pst1 {l : List Tst} {s : Tst} {q : Int} (h : isB l) (h0 : 0 ≤ s.lo) (h1 : s.hi ≤ 65536) (q0 : 0 ≤ q) (q4 : q ≤ 4) (hv : s.v = qv q) (hl : 0 < l.length → (l.getD (l.length - 1) tst0).hi ≤ s.lo) : isB (pst1 l s) := by
  refine ⟨pst1_right h.1 h0 h1 (by rw [hv]; exact (qv_facts q0 q4).1) fun hp => ⟨hl hp, ?_⟩, ?_⟩
  · obtain ⟨p, _, _, e⟩ := h.2 _ (mem_getD (l := l) (i := l.length - 1) (by omega))
    rw [e, hv]; rfl
  · intro x hx
    rw [An.pst1] at hx
    split at hx
    · exact h.2 x hx
    · split at hx
      · rcases List.mem_or_eq_of_mem_set hx with h' | h'
        · exact h.2 x h'
        · subst h'; exact h.2 (l.getD (l.length - 1) tst0) (mem_getD (by omega))
      · rcases List.mem_append.1 hx with h' | h'
        · exact h.2 x h'
        · rw [List.mem_singleton.1 h']; exact ⟨q, q0, q4, hv⟩
theorem isB_nil : isB [] := ⟨rfl, fun s hs => by cases hs⟩
theorem bRun_isB {m : List Nat} : ∀ (f k : Nat) (out : List Tst) (t : Int), isB out → 0 ≤ t → (0 < out.length → (out.getD (out.length - 1) tst0).hi ≤ t) → isB (bRun m f k out t) ∧ (bRun m f k out t).length ≤ out.length + f
  | 0, _, out, _, h, _, _ => ⟨h, Nat.le_refl _⟩
  | f + 1, k, out, t, h, ht, hl => by
    rw [bRun]
    split
    · split
      · exact ⟨h, by omega⟩
      · rename_i he
        have hF : t ≤ bFrom m k t := by simp only [bFrom]; omega
        have hE : bFrom m k t < bEnd m k t := by simp only [bEnd]; omega
        have h1 : isB (An.pst1 out (bSt m k t)) := h.pst1 (q := bQ m k) (by show 0 ≤ bFrom m k t; omega) (by show bEnd m k t ≤ 65536; omega) (by simp only [bQ]; omega) (by simp only [bQ]; omega) rfl fun hp => by have := hl hp; show _ ≤ bFrom m k t; omega
        have h2 := pst1_last (l := out) (bSt_lt (m := m) (k := k) (t := t))
        have h3 := bRun_isB (m := m) f (k + 1) _ (bEnd m k t) h1 (by omega) fun _ => by rw [h2.2.1]; exact Int.le_refl _
        have h4 := pst1_len out (bSt m k t)
        exact ⟨h3.1, by omega⟩
    · exact ⟨h, by omega⟩
theorem builtB (m : List Nat) : isB (builtT m) ∧ (builtT m).length ≤ 41 := by
  have := bRun_isB (m := m) 41 0 [] 0 isB_nil (Int.le_refl _) fun h => by cases h
  exact ⟨this.1, by have := this.2; simp at this; exact this⟩
/-! Sums of weights and days. -/
def wsum (w : Va → Int) (xs : List Tst) : Int := (xs.map fun s => w s.v * (s.hi - s.lo)).sum
theorem wsum_snoc {w : Va → Int} {xs : List Tst} {s : Tst} : wsum w (xs ++ [s]) = wsum w xs + w s.v * (s.hi - s.lo) := by simp [wsum]
theorem splitT {l : List Tst} (h : 0 < l.length) : l = l.take (l.length - 1) ++ [l.getD (l.length - 1) tst0] := by
  have e : l.take (l.length - 1 + 1) = l.take (l.length - 1) ++ [l[l.length - 1]] := List.take_succ_eq_append_getElem (by omega)
  rw [show l.length - 1 + 1 = l.length by omega, List.take_length] at e
  rw [List.getD_eq_getElem?_getD, List.getElem?_eq_getElem (by omega)]; exact e
theorem setT {l : List Tst} {x : Tst} (h : 0 < l.length) : l.set (l.length - 1) x = l.take (l.length - 1) ++ [x] := by
  have e := List.set_eq_take_append_cons_drop (l := l) (i := l.length - 1) (a := x)
  rw [if_pos (by omega), show l.length - 1 + 1 = l.length by omega, List.drop_length] at e
  exact e
theorem wsum_pst1 {w : Va → Int} {acc : List Tst} {s : Tst} : wsum w (pst1 acc s) = wsum w acc + if s.hi ≤ s.lo then 0 else w s.v * (s.hi - s.lo) := by
  rw [pst1]
  split
  · omega
  · split
    · rename_i hm
      have h1 : wsum w acc = wsum w (acc.take (acc.length - 1)) + w (acc.getD (acc.length - 1) tst0).v * ((acc.getD (acc.length - 1) tst0).hi - (acc.getD (acc.length - 1) tst0).lo) := by rw [← wsum_snoc, ← splitT hm.1]
      rw [setT hm.1, wsum_snoc, h1, ← hm.2.2, hm.2.1]
      simp only [Int.mul_sub]; omega
    · rw [wsum_snoc]
theorem wsum_pst {w : Va → Int} : ∀ (ps acc : List Tst), wsum w (pst acc ps) = wsum w acc + (ps.map fun s => if s.hi ≤ s.lo then 0 else w s.v * (s.hi - s.lo)).sum
  | [], acc => by simp [pst]
  | s :: r, acc => by
    have ih := wsum_pst (w := w) r (pst1 acc s)
    rw [wsum_pst1] at ih
    simp only [pst, List.foldl_cons, List.map_cons, List.sum_cons] at *
    omega
theorem wsum_cut {l : List Tst} {a b : Int} : wsum (fun v => qsum v 4) (cutT l a b) = quS l a b := by
  rw [cutT, wsum_pst]
  simp only [wsum, List.map_nil, List.sum_nil, Int.zero_add, List.map_map, quS]
  congr 1
  refine List.map_congr_left fun s _ => ?_
  have e1 : (clip a b s).hi = min s.hi b := rfl
  have e2 : (clip a b s).lo = max s.lo a := rfl
  show (if (clip a b s).hi ≤ (clip a b s).lo then (0 : Int) else qsum s.v 4 * ((clip a b s).hi - (clip a b s).lo)) = quS1 a b s
  by_cases h : (clip a b s).hi ≤ (clip a b s).lo
  · rw [if_pos h, quS1, if_pos (by simp only [dys]; omega)]
  · rw [if_neg h, quS1, if_neg (by simp only [dys]; omega)]; rfl
/-! Fractions. -/
theorem short_divInt {n d : Int} (hd : 0 < d) (h1 : -9223372036854775808 ≤ n) (h2 : n ≤ 9223372036854775807) (h3 : d ≤ 9223372036854775807) : short (Rat.divInt n d) := by
  have e := lowest_eq (n := n) hd
  have e1 : (wh (Rat.divInt n d).num).l.length = (wh (n / (Int.gcd n d : Int))).l.length := congrArg (fun f : Fr => f.n.l.length) e
  have e2 : (wh ((Rat.divInt n d).den : Int)).l.length = (wh (d / (Int.gcd n d : Int))).l.length := congrArg (fun f : Fr => f.d.l.length) e
  refine ⟨?_, ?_⟩
  · show (wh (Rat.divInt n d).num).l.length ≤ 256
    rw [e1]; exact len16_div (len16_small h1 h2)
  · show (wh ((Rat.divInt n d).den : Int)).l.length ≤ 256
    rw [e2]; exact len16_div (len16_small (by omega) h3)
theorem add4 (a b : Int) : Rat.divInt a 4 + Rat.divInt b 4 = Rat.divInt (a + b) 4 := by
  rw [Rat.divInt_add_divInt a b (by decide) (by decide)]
  exact (Rat.divInt_eq_divInt_iff (by decide) (by decide)).2 (by omega)
theorem mul4 (a n : Int) : Rat.divInt a 4 * (n : Rat) = Rat.divInt (a * n) 4 := by
  have e : (n : Rat) = Rat.divInt n 1 := by
    have := Rat.num_divInt_den (n : Rat)
    rw [Rat.num_intCast, Rat.den_intCast] at this; exact this.symm
  rw [e, Rat.divInt_mul_divInt]; rfl
theorem mulq4 (n : Int) : Rat.divInt n 4 * q4 = Rat.divInt n 1461 := by
  rw [show q4 = Rat.divInt 4 1461 by decide +kernel, Rat.divInt_mul_divInt]
  exact (Rat.divInt_eq_divInt_iff (by decide) (by decide)).2 (by omega)
theorem sum_take {l : List Tst} (h : ∀ s ∈ l, 0 ≤ s.lo ∧ s.lo < s.hi ∧ s.hi ≤ 65536) (hq : ∀ s ∈ l, ∃ q : Int, 0 ≤ q ∧ q ≤ 4 ∧ s.v = qv q) (hl : l.length ≤ 1000000) : ∀ i, i ≤ l.length → sumT (l.take i) = some (Rat.divInt (wsum (fun v => qsum v 4) (l.take i)) 4) ∧ 0 ≤ wsum (fun v => qsum v 4) (l.take i) ∧ wsum (fun v => qsum v 4) (l.take i) ≤ 262144 * i
  | 0, _ => ⟨by rw [List.take_zero]; decide +kernel, by simp [wsum], by simp [wsum]⟩
  | i + 1, hi => by
    obtain ⟨ih, i1, i2⟩ := sum_take h hq hl i (by omega)
    obtain ⟨h1, h2, h3⟩ := h _ (mem_getD (l := l) (i := i) (by omega))
    obtain ⟨q, q0, q4', e⟩ := hq _ (mem_getD (l := l) (i := i) (by omega))
    have hw : wsum (fun v => qsum v 4) (l.take (i + 1)) = wsum (fun v => qsum v 4) (l.take i) + q * ((l.getD i tst0).hi - (l.getD i tst0).lo) := by
      show ((l.take (i + 1)).map fun s => qsum s.v 4 * (s.hi - s.lo)).sum = _
      rw [sum_nextT (by omega), e, (qv_facts q0 q4').2.2.2.1]; rfl
    have hm0 := Int.mul_nonneg q0 (show 0 ≤ (l.getD i tst0).hi - (l.getD i tst0).lo by omega)
    have hm1 := Int.mul_le_mul q4' (show (l.getD i tst0).hi - (l.getD i tst0).lo ≤ 65536 by omega) (by omega) (by decide)
    rw [hw]
    refine ⟨?_, by omega, by omega⟩
    rw [sum_next (by omega), ih, sumStep, e, qv_rat, mul4, add4, if_pos ⟨short_divInt (by decide) (by omega) (by omega) (by decide), short_divInt (by decide) (by omega) (by omega) (by decide)⟩]
theorem cut_B {l : List Tst} {a b : Int} (h : isB l) : (∀ s ∈ cutT l a b, 0 ≤ s.lo ∧ s.lo < s.hi ∧ s.hi ≤ 65536) ∧ ∀ s ∈ cutT l a b, ∃ q : Int, 0 ≤ q ∧ q ≤ 4 ∧ s.v = qv q := by
  have key : ∀ s ∈ cutT l a b, (0 ≤ s.lo ∧ s.lo < s.hi ∧ s.hi ≤ 65536) ∧ ∃ q : Int, 0 ≤ q ∧ q ≤ 4 ∧ s.v = qv q := by
    refine pst_all (P := fun s => (0 ≤ s.lo ∧ s.lo < s.hi ∧ s.hi ≤ 65536) ∧ ∃ q : Int, 0 ≤ q ∧ q ≤ 4 ∧ s.v = qv q) (fun x s hx hs e => ⟨⟨hx.1.1, by have := hx.1.2.1; have := hs.1.2.1; dsimp only; omega, hs.1.2.2⟩, hx.2⟩) _ _ (fun s hs => by cases hs) fun s hs hlt => ?_
    obtain ⟨x, hx, rfl⟩ := List.mem_map.1 hs
    have h1 := h.bd x hx
    refine ⟨?_, h.2 x hx⟩
    simp only [clip] at *
    omega
  exact ⟨fun s hs => (key s hs).1, fun s hs => (key s hs).2⟩
theorem quS_zero {l : List Tst} {a b : Int} (h : b ≤ a) : quS l a b = 0 := by
  rw [quS]
  induction l with
  | nil => rfl
  | cons s r ih => rw [List.map_cons, List.sum_cons, ih, quS1, if_pos (by simp only [dys]; omega)]; rfl
/-- Years of service. -/
theorem yq_B {l : List Tst} {a b : Int} (h : isB l) (hl : l.length ≤ 500000) : yq l a b = some (kfr (quS l a b) 1461) := by
  rw [yq, kfr_big (by decide)]
  split
  · rename_i hba
    rw [quS_zero hba]; decide +kernel
  · obtain ⟨h1, h2⟩ := cut_B (a := a) (b := b) h
    have hlen : (cutT l a b).length ≤ l.length := by have := pst_len (l.map (clip a b)) []; simp at this; exact this
    have := sum_take h1 h2 (by omega) _ (Nat.le_refl _)
    rw [List.take_length, wsum_cut] at this
    rw [this.1, Option.bind_some, mulO, mulq4, if_pos (short_divInt (by decide) (by omega) (by omega) (by decide))]
/-! Days worked. -/
/-! Bounds. -/
theorem dys_sum {a b : Int} : ∀ (l : List Tst) (c : Int), (∀ s ∈ l, s.lo < s.hi ∧ c ≤ s.lo) → l.Pairwise (fun s t => s.hi ≤ t.lo) → (l.map fun s => max 0 (dys a b s)).sum ≤ max 0 (b - max a c)
  | [], c, _, _ => by simp; omega
  | s :: r, c, hl, hp => by
    have h1 := hl s (List.mem_cons_self ..)
    have hp := List.pairwise_cons.1 hp
    have ih := dys_sum (a := a) (b := b) r s.hi (fun t ht => ⟨(hl t (List.mem_cons_of_mem _ ht)).1, hp.1 t ht⟩) hp.2
    rw [List.map_cons, List.sum_cons]
    simp only [dys] at *
    omega
theorem quS_bd {l : List Tst} {a b : Int} (h : isB l) : 0 ≤ quS l a b ∧ quS l a b ≤ 4 * max 0 (b - a) := by
  have h1 := dys_sum (a := a) (b := b) l 0 (fun s hs => ⟨(h.bd s hs).2.1, (h.bd s hs).1⟩) (tRight_pair h.1)
  have key : ∀ r : List Tst, (∀ s ∈ r, s ∈ l) → 0 ≤ quS r a b ∧ quS r a b ≤ 4 * (r.map fun s => max 0 (dys a b s)).sum := by
    intro r
    induction r with
    | nil => intro _; simp [quS]
    | cons s r ih =>
      intro hr
      have ih := ih fun x hx => hr x (List.mem_cons_of_mem _ hx)
      obtain ⟨q, q0, q4', e⟩ := h.2 s (hr s (List.mem_cons_self ..))
      have e1 : quS (s :: r) a b = quS1 a b s + quS r a b := rfl
      have e2 : quS1 a b s = if dys a b s ≤ 0 then 0 else q * dys a b s := by rw [quS1, e, (qv_facts q0 q4').2.2.2.1]
      rw [List.map_cons, List.sum_cons, e1, e2]
      split
      · omega
      · have := Int.mul_nonneg q0 (show 0 ≤ dys a b s by omega)
        have := Int.mul_le_mul_of_nonneg_right q4' (show 0 ≤ dys a b s by omega)
        omega
  have h2 := key l fun s hs => hs
  have h3 : max 0 (b - max a 0) ≤ max 0 (b - a) := by omega
  omega
theorem le_div {x y d e : Int} (hd : 0 < d) (he : 0 < e) : Rat.divInt x d ≤ Rat.divInt y e ↔ x * e ≤ y * d := by
  rw [Rat.le_iff_sub_nonneg, Rat.divInt_sub_divInt _ _ (by omega) (by omega), Rat.divInt_nonneg_iff_of_pos_right (Int.mul_pos he hd)]; omega
/-- Comparing fractions with one denominator, and with two. -/
theorem cmpQ_div {x y d e : Int} (hd : 0 < d) (he : 0 < e) : cmpQ (kfr x d) (kfr y e) = cmpZ (x * e) (y * d) := by
  rw [kfr_big (by omega), kfr_big (by omega)]
  have h1 := le_div (x := x) (y := y) hd he
  have h2 := le_div (x := y) (y := x) he hd
  have h3 : Rat.divInt x d < Rat.divInt y e ↔ x * e < y * d := by
    rw [← Rat.not_le, h2]; omega
  simp only [cmpQ, cmpZ]
  by_cases hlt : x * e < y * d
  · rw [if_pos (h3.2 hlt), if_pos hlt]
  · rw [if_neg (fun h => hlt (h3.1 h)), if_neg hlt]
    by_cases heq : x * e = y * d
    · rw [if_pos heq, if_pos (Rat.le_antisymm (h1.2 (by omega)) (h2.2 (by omega)))]
    · rw [if_neg heq, if_neg (fun h => heq (by have a1 := h1.1 (by rw [h]; exact Rat.le_refl); have a2 := h2.1 (by rw [h]; exact Rat.le_refl); omega))]
end An.S

/- Law 8: ServiceCounts. -/
namespace An.S
open Go Go.Proofs An
set_option maxHeartbeats 2000000
theorem fi12 : FnI Tryz.prog 12 := ⟨_, Tryz.func12, by kernel_rfl, rfl⟩
theorem fi13 : FnI Tryz.prog 13 := ⟨_, Tryz.func13, by kernel_rfl, rfl⟩
theorem fi14 : FnI Tryz.prog 14 := ⟨_, Tryz.func14, by kernel_rfl, rfl⟩
theorem isB.ask {l : List Tst} {a b : Int} (h : isB l) (ha : 0 ≤ a ∧ a ≤ 65536) (hb : 0 ≤ b ∧ b ≤ 65536) : askB l a b = true := askB_iff.2 ⟨h.right, ha.1, ha.2, hb.1, hb.2⟩
theorem c_YearsB (l : List Tst) (a b : Int) (h : isB l) (hl : l.length ≤ 41) (ha : 0 ≤ a ∧ a ≤ 65536) (hb : 0 ≤ b ∧ b ≤ 65536) : Ct Tryz.prog 15 [tL 8 true tTs l, tI a, tI b] (tT [tFr (fr (kfr (quS l a b) 1461)), tI 0]) :=
  c_YearsV l a b _ (by omega) h.dig (h.ask ha hb) (yq_B h (by omega))
end An.S

/- Law 8: ServiceBounds, ServiceCaps. -/
namespace An.S
open Go Go.Proofs An
set_option maxHeartbeats 2000000
theorem cmpZ_neg {x y : Int} : cmpZ x y < 0 ↔ x < y := by
  simp only [cmpZ]; split
  · omega
  · split <;> omega
theorem short_kfr {x d : Int} (hd : 0 < d) (h1 : -9223372036854775808 ≤ x) (h2 : x ≤ 9223372036854775807) (h3 : d ≤ 9223372036854775807) : short (kfr x d) := by
  rw [kfr_big (by omega)]; exact short_divInt hd h1 h2 h3
theorem c_CmpK (x d y e : Int) (hd : 0 < d) (he : 0 < e) (h1 : -9223372036854775808 ≤ x) (h2 : x ≤ 9223372036854775807) (h3 : d ≤ 9223372036854775807) (h4 : -9223372036854775808 ≤ y) (h5 : y ≤ 9223372036854775807) (h6 : e ≤ 9223372036854775807) : Ct Tryz.prog 20 [tFr (fr (kfr x d)), tFr (fr (kfr y e))] (tI (cmpZ (x * e) (y * d))) := by
  have h := c_FCmp (kfr x d) (kfr y e) (short_kfr hd h1 h2 h3) (short_kfr he h4 h5 h6)
  rw [cmpQ_div hd he] at h; exact h
theorem c_sameFE (f g : Fr) (e : f = g) : Ct Tryz.prog 19 [tFr f, tFr g] (tB true) := by
  subst e; exact c_sameF f
theorem floor_div {n d : Int} (hd : 0 < d) : (Rat.divInt n d).floor = n / d := by
  have key : ∀ k : Int, k ≤ (Rat.divInt n d).floor ↔ k ≤ n / d := fun k => by
    have e : (k : Rat) = Rat.divInt k 1 := by
      have := Rat.num_divInt_den (k : Rat)
      rw [Rat.num_intCast, Rat.den_intCast] at this; exact this.symm
    rw [Rat.le_floor_iff, e, le_div (by decide) hd, Int.le_ediv_iff_mul_le hd]; omega
  exact Int.le_antisymm ((key _).1 (Int.le_refl _)) ((key _).2 (Int.le_refl _))
theorem neg_kfr {x d : Int} (hd : 0 < d) (hx : 0 ≤ x) : (fr (kfr x d)).n.neg = false := by
  have h : 0 ≤ kfr x d := by rw [kfr_big (by omega)]; exact (Rat.divInt_nonneg_iff_of_pos_right hd).2 hx
  have h2 := Rat.num_nonneg.2 h
  exact decide_eq_false (by omega)
theorem c_CapK (l : List Tst) (a b n d : Int) (h : isB l) (hl : l.length ≤ 41) (ha : 0 ≤ a ∧ a ≤ 65536) (hb : 0 ≤ b ∧ b ≤ 65536) (hd : 0 < d) (h0 : 0 ≤ n) (h2 : n ≤ 9223372036854775807) (h3 : d ≤ 9223372036854775807) : Ct Tryz.prog 21 [tL 8 true tTs l, tI a, tI b, tFr (fr (kfr n d))] (tT [tFr (fr (if quS l a b * d ≤ n * 1461 then kfr (quS l a b) 1461 else kfr n d)), tI 0]) := by
  refine c_CappedV l a b _ _ (by omega) h.dig (dig_fr _) ⟨⟨valid_fr (short_kfr hd (by omega) h2 h3), neg_kfr hd h0⟩, h.ask ha hb⟩ ?_
  rw [capO, yq_B h (by omega), Option.map_some, rat_fr]
  congr 1
  have e : kfr (quS l a b) 1461 ≤ kfr n d ↔ quS l a b * d ≤ n * 1461 := by rw [kfr_big (by decide), kfr_big (by omega), le_div (by decide) hd]
  by_cases hc : quS l a b * d ≤ n * 1461
  · rw [if_pos hc, if_pos (e.2 hc)]
  · rw [if_neg hc, if_neg (fun h => hc (e.1 h))]
theorem c_MonK (x : Int) (h0 : 0 ≤ x) (h1 : x ≤ 1000000) : Ct Tryz.prog 22 [tFr (fr (kfr x 1461))] (tT [tI (x * 12 / 1461), tI 0]) := by
  have e : m12 (fr (kfr x 1461)) = Rat.divInt (x * 12) 1461 := by
    have e2 : ((12 : Int) : Rat) = Rat.divInt 12 1 := by decide +kernel
    rw [m12, rat_fr, kfr_big (by decide), e2, Rat.divInt_mul_divInt]; rfl
  refine c_MonthsV _ _ (dig_fr _) ⟨⟨valid_fr (short_kfr (by decide) (by omega) (by omega) (by decide)), neg_kfr (by decide) h0⟩, ?_, ?_⟩ ?_
  · rw [e]; exact short_divInt (by decide) (by omega) (by omega) (by decide)
  · rw [e, floor_div (by decide)]; omega
  · rw [e, floor_div (by decide)]
theorem c_SvCaps (m : List Nat) (hm : ∀ i, m.getD i 0 < 65536) (x y : Int) (n d : Nat) (hn : n < 65536) (hd : d < 65536) :
  Ct Tryz.prog 5 [tLm m, tI x, tI y, tE (.int .u16 (n : Int)), tE (.int .u16 (d : Int))] (tB true) := by
 obtain ⟨hB, hl⟩ := builtB m
 have hbt := c_Built m hm
 generalize builtT m = l at *
 have hdx := c_day x
 have ha : 0 ≤ x % 65537 ∧ x % 65537 ≤ 65536 := by omega
 generalize x % 65537 = a at *
 have hdy := c_day y
 have hb : 0 ≤ y % 65537 ∧ y % 65537 ≤ 65536 := by omega
 generalize y % 65537 = b at *
 have hqb := quS_bd (a := a) (b := b) hB
 refine Ct.intro Tryz.func5 rfl Tryz.ntmps5 rfl ?_
 intro w F
 refine C_seq ?_
 refine C_reg ?_
 refine R1 d_assign rfl ?_
 refine R_nil (by kernel_rfl) ?_
 refine K_then ?_
 refine C_seq ?_
 refine C_seq ?_
 refine C_reg ?_
 refine R0 (d_call c_awake fi12 rfl)  ?_
 refine R1 d_not rfl ?_
 refine R_nil (by kernel_rfl) ?_
 refine K_then ?_
 refine C_bF rfl rfl ?_
 refine C_skip ?_
 refine K_then ?_
 refine C_seq ?_
 refine C_reg ?_
 refine R1 d_move rfl ?_
 refine R1 (d_call hbt fi13 rfl) rfl ?_
 refine R1 d_assign rfl ?_
 refine R_nil (by kernel_rfl) ?_
 refine K_then ?_
 refine C_seq ?_
 refine C_reg ?_
 refine R1 d_move rfl ?_
 refine R1 (d_call hdx fi14 rfl) rfl ?_
 refine R1 d_move rfl ?_
 refine R1 (d_call hdy fi14 rfl) rfl ?_
 refine R1 d_assign rfl ?_
 refine R1 d_assign rfl ?_
 refine R_nil (by kernel_rfl) ?_
 refine K_then ?_
 refine C_seq ?_
 refine C_reg ?_
 refine R1 d_move rfl ?_
 refine R1 (d_convert Tryz.underlying3 (isS Tryz.underlying47) (wr64 (by omega) (by omega))) rfl ?_
 refine R1 d_move rfl ?_
 refine R1 (d_convert Tryz.underlying3 (isS Tryz.underlying47) (wr64 (by omega) (by omega))) rfl ?_
 refine R2 (d_remP (by omega) (by omega)) rfl rfl ?_
 refine R2 (d_add (wr64 (by omega) (by omega))) rfl rfl ?_
 refine R2 (d_call (c_KFrac n (1 + (d : Int) % 9) (by omega) (by omega) (by omega) (by omega)) fi18 rfl) rfl rfl ?_
 refine RE (d_alloc (k := 12) (n := 4) (agg := true) zr26.1 zr26.2 rfl) trivial trivial ⟨rfl, trivial⟩ ?_
 refine RE (d_store (es := 4) (agg := true) (0) ti26 rfl rfl rfl) ⟨rfl, rfl, trivial⟩ ⟨rfl, trivial⟩ trivial ?_
 refine R_nil (by kernel_rfl) ?_
 refine K_then ?_
 refine C_seq ?_
 refine C_reg ?_
 refine R1 d_move rfl ?_
 refine R1 d_move rfl ?_
 refine R1 d_move rfl ?_
 refine R3 (d_call (c_YearsB l a b hB hl ha hb) fi15 rfl) rfl rfl rfl ?_
 refine R1 d_move rfl ?_
 refine R1 (d_extract rfl) rfl ?_
 refine R1 (d_extract rfl) rfl ?_
 refine RE (d_alloc (k := 13) (n := 4) (agg := true) zr26.1 zr26.2 rfl) trivial trivial ⟨rfl, trivial⟩ ?_
 refine RE (d_store (es := 4) (agg := true) (0) ti26 rfl rfl rfl) ⟨rfl, rfl, trivial⟩ ⟨rfl, trivial⟩ trivial ?_
 refine R1 d_assign rfl ?_
 refine R_nil (by kernel_rfl) ?_
 refine K_then ?_
 refine C_seq ?_
 refine C_reg ?_
 refine R1 d_move rfl ?_
 refine R1 d_move rfl ?_
 refine R1 d_move rfl ?_
 refine RE (d_load (0) ti26 rfl rfl) ⟨rfl, trivial⟩ ⟨rfl, trivial⟩ trivial ?_
 refine RE (d_call (c_CapK l a b n (1 + (d : Int) % 9) hB hl ha hb (by omega) (by omega) (by omega) (by omega)) fi21 rfl) ⟨rfl, rfl, rfl, rfl, trivial⟩ trivial trivial ?_
 refine R1 d_move rfl ?_
 refine R1 (d_extract rfl) rfl ?_
 refine R1 (d_extract rfl) rfl ?_
 refine RE (d_alloc (k := 15) (n := 4) (agg := true) zr26.1 zr26.2 rfl) trivial trivial ⟨rfl, trivial⟩ ?_
 refine RE (d_store (es := 4) (agg := true) (0) ti26 rfl rfl rfl) ⟨rfl, rfl, trivial⟩ ⟨rfl, trivial⟩ trivial ?_
 refine R1 d_assign rfl ?_
 refine R_nil (by kernel_rfl) ?_
 refine K_then ?_
 refine C_seq ?_
 refine C_reg ?_
 refine RE (d_load (0) ti26 rfl rfl) ⟨rfl, trivial⟩ ⟨rfl, trivial⟩ trivial ?_
 refine R1 (d_call (c_MonK (quS l a b) (by omega) (by omega)) fi22 rfl) rfl ?_
 refine R1 d_move rfl ?_
 refine R1 (d_extract rfl) rfl ?_
 refine R1 (d_extract rfl) rfl ?_
 refine R1 d_assign rfl ?_
 refine R1 d_assign rfl ?_
 refine R_nil (by kernel_rfl) ?_
 refine K_then ?_
 refine C_seq ?_
 refine C_seq ?_
 refine C_reg ?_
 refine R1 d_move rfl ?_
 refine R1 d_move rfl ?_
 refine R2 (d_add (wr64 (by omega) (by omega))) rfl rfl ?_
 refine R1 d_move rfl ?_
 refine R2 (d_add (wr64 (by omega) (by omega))) rfl rfl ?_
 refine R2 d_neq rfl rfl ?_
 refine R1 d_move rfl ?_
 refine RGon (decide_eq_false (by omega)) rfl d_move rfl ⟨rfl, trivial⟩ trivial trivial ?_
 refine RGon (decide_eq_false (by omega)) rfl d_lss rfl ⟨rfl, rfl, trivial⟩ trivial trivial ?_
 refine R2 (d_pickF (decide_eq_false (by omega))) rfl rfl ?_
 refine R_nil (by kernel_rfl) ?_
 refine K_then ?_
 refine C_bF rfl (decide_eq_false (by omega)) ?_
 refine C_skip ?_
 refine K_then ?_
 refine C_seq ?_
 refine C_reg ?_
 refine RE (d_load (0) ti26 rfl rfl) ⟨rfl, trivial⟩ ⟨rfl, trivial⟩ trivial ?_
 refine RE (d_alloc (k := 19) (n := 4) (agg := true) zr26.1 zr26.2 rfl) trivial trivial ⟨rfl, trivial⟩ ?_
 refine RE (d_store (es := 4) (agg := true) (0) ti26 rfl rfl rfl) ⟨rfl, rfl, trivial⟩ ⟨rfl, trivial⟩ trivial ?_
 refine R_nil (by kernel_rfl) ?_
 refine K_then ?_
 refine C_seq ?_
 refine C_seq ?_
 refine C_reg ?_
 refine RE (d_load (0) ti26 rfl rfl) ⟨rfl, trivial⟩ ⟨rfl, trivial⟩ trivial ?_
 refine RE (d_load (0) ti26 rfl rfl) ⟨rfl, trivial⟩ ⟨rfl, trivial⟩ trivial ?_
 refine R2 (d_call (c_CmpK n (1 + (d : Int) % 9) (quS l a b) 1461 (by omega) (by omega) (by omega) (by omega) (by omega) (by omega) (by omega) (by omega)) fi20 rfl) rfl rfl ?_
 refine R2 d_lss rfl rfl ?_
 refine R_nil (by kernel_rfl) ?_
 refine K_then ?_
 refine C_if rfl (fun h149 => ?_) (fun h149 => ?_)
 ·
  refine C_reg ?_
  refine RE (d_load (0) ti26 rfl rfl) ⟨rfl, trivial⟩ ⟨rfl, trivial⟩ trivial ?_
  refine RE (d_store (es := 4) (agg := true) (0) ti26 rfl rfl rfl) ⟨rfl, rfl, trivial⟩ ⟨rfl, trivial⟩ trivial ?_
  refine R_nil (by kernel_rfl) ?_
  refine K_then ?_
  refine C_seq ?_
  refine C_reg ?_
  refine R1 d_move rfl ?_
  refine R2 (d_call (c_KFrac ((quS l a b) * 12 / 1461) 12 (by omega) (by omega) (by omega) (by omega)) fi18 rfl) rfl rfl ?_
  refine R1 d_move rfl ?_
  refine R2 (d_add (wr64 (by omega) (by omega))) rfl rfl ?_
  refine R2 (d_call (c_KFrac (((quS l a b) * 12 / 1461) + 1) 12 (by omega) (by omega) (by omega) (by omega)) fi18 rfl) rfl rfl ?_
  refine RE (d_alloc (k := 20) (n := 4) (agg := true) zr26.1 zr26.2 rfl) trivial trivial ⟨rfl, trivial⟩ ?_
  refine RE (d_alloc (k := 21) (n := 4) (agg := true) zr26.1 zr26.2 rfl) trivial trivial ⟨rfl, trivial⟩ ?_
  refine RE (d_store (es := 4) (agg := true) (0) ti26 rfl rfl rfl) ⟨rfl, rfl, trivial⟩ ⟨rfl, trivial⟩ trivial ?_
  refine RE (d_store (es := 4) (agg := true) (0) ti26 rfl rfl rfl) ⟨rfl, rfl, trivial⟩ ⟨rfl, trivial⟩ trivial ?_
  refine R_nil (by kernel_rfl) ?_
  refine K_then ?_
  refine C_seq ?_
  refine C_reg ?_
  refine RE (d_load (0) ti26 rfl rfl) ⟨rfl, trivial⟩ ⟨rfl, trivial⟩ trivial ?_
  refine RE (d_load (0) ti26 rfl rfl) ⟨rfl, trivial⟩ ⟨rfl, trivial⟩ trivial ?_
  refine R2 (d_call (c_sameFE (fr (if (quS l a b) * (1 + (d : Int) % 9) ≤ (n : Int) * 1461 then kfr (quS l a b) 1461 else kfr n (1 + (d : Int) % 9))) _ (by rw [if_neg (fun h => by have := cmpZ_neg.1 h149; omega)])) fi19 rfl) rfl rfl ?_
  refine R1 d_move rfl ?_
  refine RGon rfl rfl (d_load (0) ti26 rfl rfl) rfl ⟨rfl, trivial⟩ ⟨rfl, trivial⟩ trivial ?_
  refine RGon rfl rfl (d_load (0) ti26 rfl rfl) rfl ⟨rfl, trivial⟩ ⟨rfl, trivial⟩ trivial ?_
  refine RGon rfl rfl (d_call (c_CmpK ((quS l a b) * 12 / 1461) 12 (quS l a b) 1461 (by omega) (by omega) (by omega) (by omega) (by omega) (by omega) (by omega) (by omega)) fi20 rfl) rfl ⟨rfl, rfl, trivial⟩ trivial trivial ?_
  refine RGon rfl rfl d_leq rfl ⟨rfl, rfl, trivial⟩ trivial trivial ?_
  refine R2 (d_pickT rfl) rfl rfl ?_
  refine R1 d_move rfl ?_
  refine RGon (decide_eq_true (by exact Int.not_lt.1 fun h => by have := cmpZ_pos.1 h; omega)) rfl (d_load (0) ti26 rfl rfl) rfl ⟨rfl, trivial⟩ ⟨rfl, trivial⟩ trivial ?_
  refine RGon (decide_eq_true (by exact Int.not_lt.1 fun h => by have := cmpZ_pos.1 h; omega)) rfl (d_load (0) ti26 rfl rfl) rfl ⟨rfl, trivial⟩ ⟨rfl, trivial⟩ trivial ?_
  refine RGon (decide_eq_true (by exact Int.not_lt.1 fun h => by have := cmpZ_pos.1 h; omega)) rfl (d_call (c_CmpK (((quS l a b) * 12 / 1461) + 1) 12 (quS l a b) 1461 (by omega) (by omega) (by omega) (by omega) (by omega) (by omega) (by omega) (by omega)) fi20 rfl) rfl ⟨rfl, rfl, trivial⟩ trivial trivial ?_
  refine RGon (decide_eq_true (by exact Int.not_lt.1 fun h => by have := cmpZ_pos.1 h; omega)) rfl d_gtr rfl ⟨rfl, rfl, trivial⟩ trivial trivial ?_
  refine R2 (d_pickT (decide_eq_true (by exact Int.not_lt.1 fun h => by have := cmpZ_pos.1 h; omega))) rfl rfl ?_
  refine R1 d_assign rfl ?_
  refine R_nil (by kernel_rfl) ?_
  refine K_then ?_
  refine C_ret ?_
  exact E_ret1 Plain.mk' rfl rfl (Le.bool (decide_eq_true (cmpZ_pos.2 (by omega))))
 ·
  refine C_skip ?_
  refine K_then ?_
  refine C_seq ?_
  refine C_reg ?_
  refine R1 d_move rfl ?_
  refine R2 (d_call (c_KFrac ((quS l a b) * 12 / 1461) 12 (by omega) (by omega) (by omega) (by omega)) fi18 rfl) rfl rfl ?_
  refine R1 d_move rfl ?_
  refine R2 (d_add (wr64 (by omega) (by omega))) rfl rfl ?_
  refine R2 (d_call (c_KFrac (((quS l a b) * 12 / 1461) + 1) 12 (by omega) (by omega) (by omega) (by omega)) fi18 rfl) rfl rfl ?_
  refine RE (d_alloc (k := 20) (n := 4) (agg := true) zr26.1 zr26.2 rfl) trivial trivial ⟨rfl, trivial⟩ ?_
  refine RE (d_alloc (k := 21) (n := 4) (agg := true) zr26.1 zr26.2 rfl) trivial trivial ⟨rfl, trivial⟩ ?_
  refine RE (d_store (es := 4) (agg := true) (0) ti26 rfl rfl rfl) ⟨rfl, rfl, trivial⟩ ⟨rfl, trivial⟩ trivial ?_
  refine RE (d_store (es := 4) (agg := true) (0) ti26 rfl rfl rfl) ⟨rfl, rfl, trivial⟩ ⟨rfl, trivial⟩ trivial ?_
  refine R_nil (by kernel_rfl) ?_
  refine K_then ?_
  refine C_seq ?_
  refine C_reg ?_
  refine RE (d_load (0) ti26 rfl rfl) ⟨rfl, trivial⟩ ⟨rfl, trivial⟩ trivial ?_
  refine RE (d_load (0) ti26 rfl rfl) ⟨rfl, trivial⟩ ⟨rfl, trivial⟩ trivial ?_
  refine R2 (d_call (c_sameFE (fr (if (quS l a b) * (1 + (d : Int) % 9) ≤ (n : Int) * 1461 then kfr (quS l a b) 1461 else kfr n (1 + (d : Int) % 9))) _ (by rw [if_pos (Decidable.byContradiction fun h => h149 (cmpZ_neg.2 (by omega)))])) fi19 rfl) rfl rfl ?_
  refine R1 d_move rfl ?_
  refine RGon rfl rfl (d_load (0) ti26 rfl rfl) rfl ⟨rfl, trivial⟩ ⟨rfl, trivial⟩ trivial ?_
  refine RGon rfl rfl (d_load (0) ti26 rfl rfl) rfl ⟨rfl, trivial⟩ ⟨rfl, trivial⟩ trivial ?_
  refine RGon rfl rfl (d_call (c_CmpK ((quS l a b) * 12 / 1461) 12 (quS l a b) 1461 (by omega) (by omega) (by omega) (by omega) (by omega) (by omega) (by omega) (by omega)) fi20 rfl) rfl ⟨rfl, rfl, trivial⟩ trivial trivial ?_
  refine RGon rfl rfl d_leq rfl ⟨rfl, rfl, trivial⟩ trivial trivial ?_
  refine R2 (d_pickT rfl) rfl rfl ?_
  refine R1 d_move rfl ?_
  refine RGon (decide_eq_true (by exact Int.not_lt.1 fun h => by have := cmpZ_pos.1 h; omega)) rfl (d_load (0) ti26 rfl rfl) rfl ⟨rfl, trivial⟩ ⟨rfl, trivial⟩ trivial ?_
  refine RGon (decide_eq_true (by exact Int.not_lt.1 fun h => by have := cmpZ_pos.1 h; omega)) rfl (d_load (0) ti26 rfl rfl) rfl ⟨rfl, trivial⟩ ⟨rfl, trivial⟩ trivial ?_
  refine RGon (decide_eq_true (by exact Int.not_lt.1 fun h => by have := cmpZ_pos.1 h; omega)) rfl (d_call (c_CmpK (((quS l a b) * 12 / 1461) + 1) 12 (quS l a b) 1461 (by omega) (by omega) (by omega) (by omega) (by omega) (by omega) (by omega) (by omega)) fi20 rfl) rfl ⟨rfl, rfl, trivial⟩ trivial trivial ?_
  refine RGon (decide_eq_true (by exact Int.not_lt.1 fun h => by have := cmpZ_pos.1 h; omega)) rfl d_gtr rfl ⟨rfl, rfl, trivial⟩ trivial trivial ?_
  refine R2 (d_pickT (decide_eq_true (by exact Int.not_lt.1 fun h => by have := cmpZ_pos.1 h; omega))) rfl rfl ?_
  refine R1 d_assign rfl ?_
  refine R_nil (by kernel_rfl) ?_
  refine K_then ?_
  refine C_ret ?_
  exact E_ret1 Plain.mk' rfl rfl (Le.bool (decide_eq_true (cmpZ_pos.2 (by omega))))
end An.S

/- What the readers of law 8 read: lists of numbers, numbers. -/
namespace An.S
open Go Go.Proofs An
open Go.ChangeShapes Go.WideShapes Go.ChangeAt Go.RowKit
set_option maxRecDepth 100000
theorem own : ownKnob Tryz.prog.godebug = none := by kernel_rfl
theorem laidOut : laidOutB Tryz.prog = true := by kernel_rfl
theorem oInt : Opn Tryz.prog 3 1 false (fun n : Int => tI n) (fun n => IntKind.i64.min ≤ n ∧ n ≤ IntKind.i64.max) := Opn.int Tryz.underlying3 (by kernel_rfl)
theorem oU16 : Opn Tryz.prog 47 1 false (fun n : Nat => tE (.int .u16 n)) (fun n => n < 65536) := Opn.nat Tryz.underlying47 (by kernel_rfl) rfl rfl
theorem oLm : Opn Tryz.prog 22 1 false (fun l : List Nat => tLm l) (fun l => Dig 65536 l) := (Opn.slice Tryz.underlying22 (by kernel_rfl) oU16).as id (fun _ => rfl) (fun _ h => h)
/-- What a contract says, as the frame of a statement wants it. -/
theorem walked {f : FuncId} {ts : List Ty} (h : Ct Tryz.prog f ts (tB true)) {vs : List Value} {W : World} (ha : Tup.all (Old W) W ts vs) : Calls Tryz.prog f vs.toArray W fun e W' => e = .returned (.bool true) ∧ Ext W W' :=
  (h (Old W) W vs ha).mono fun e W' ⟨v, h1, h2, h3⟩ => by
    have h3 : v = .bool true := h3
    subst h3; exact ⟨h1, h2⟩
end An.S
