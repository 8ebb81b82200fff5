/- Part 6 of a proof: Svc2, S14, S15, O8, Chg, S17, Chg2, S18, Svc3, S19, Svc4, S20. -/
import Derived.Test.YtibnifedegepgaaGreatChecked
import Derived.Test.YtibnifedegepgaaGreatH5
/- Layer 8: the service of records of quarters. -/
namespace An.S
open Go
theorem qcase {q : Int} (h0 : 0 ≤ q) (h4 : q ≤ 4) : q = 0 ∨ q = 1 ∨ q = 2 ∨ q = 3 ∨ q = 4 := by omega
theorem qv_facts {q : Int} (h0 : 0 ≤ q) (h4 : q ≤ 4) : (qv q).valid = true ∧ sOk ⟨0, 1, qv q⟩ = true ∧ ((qv q).f.n.l.length = 0 ↔ q = 0) ∧ qsum (qv q) 4 = q ∧ qcnt (qv q) 4 = (if q = 0 then 0 else 1) := by
  rcases qcase h0 h4 with rfl | rfl | rfl | rfl | rfl <;> decide +kernel
/-- A record of quarters. -/
def isB (l : List Tst) : Prop := tRight l = true ∧ ∀ s ∈ l, ∃ q : Int, 0 ≤ q ∧ q ≤ 4 ∧ s.v = qv q
theorem isB.dig {l : List Tst} (h : isB l) : ∀ s ∈ l, s.v.f.dig := fun s hs => by
  obtain ⟨q, _, _, e⟩ := h.2 s hs
  rw [e]; exact dig_fr _
theorem isB.right {l : List Tst} (h : isB l) : sRight l = true := by
  rw [sRight, h.1, Bool.true_and]
  refine List.all_eq_true.2 fun s hs => ?_
  obtain ⟨q, h0, h4, e⟩ := h.2 s hs
  have := (qv_facts h0 h4).2.1
  simp only [sOk] at *
  rw [e]; exact this
theorem isB.bd {l : List Tst} (h : isB l) : ∀ s ∈ l, 0 ≤ s.lo ∧ s.lo < s.hi ∧ s.hi ≤ 65536 := fun s hs => by
  obtain ⟨i, hi, rfl⟩ := exists_getD hs
  have := tRight_at h.1 hi
  exact ⟨this.1, this.2.1, this.2.2.1⟩
theorem isB.pst1 {l : List Tst} {s : Tst} {q : Int} (h : isB l) (h0 : 0 ≤ s.lo) (h1 : s.hi ≤ 65536) (q0 : 0 ≤ q) (q4 : q ≤ 4) (hv : s.v = qv q) (hl : 0 < l.length → (l.getD (l.length - 1) tst0).hi ≤ s.lo) : isB (pst1 l s) := by
  refine ⟨pst1_right h.1 h0 h1 (by rw [hv]; exact (qv_facts q0 q4).1) fun hp => ⟨hl hp, ?_⟩, ?_⟩
  · obtain ⟨p, _, _, e⟩ := h.2 _ (mem_getD (l := l) (i := l.length - 1) (by omega))
    rw [e, hv]; rfl
  · intro x hx
    rw [An.pst1] at hx
    split at hx
    · exact h.2 x hx
    · split at hx
      · rcases List.mem_or_eq_of_mem_set hx with h' | h'
        · exact h.2 x h'
        · subst h'; exact h.2 (l.getD (l.length - 1) tst0) (mem_getD (by omega))
      · rcases List.mem_append.1 hx with h' | h'
        · exact h.2 x h'
        · rw [List.mem_singleton.1 h']; exact ⟨q, q0, q4, hv⟩
theorem isB_nil : isB [] := ⟨rfl, fun s hs => by cases hs⟩
theorem bRun_isB {m : List Nat} : ∀ (f k : Nat) (out : List Tst) (t : Int), isB out → 0 ≤ t → (0 < out.length → (out.getD (out.length - 1) tst0).hi ≤ t) → isB (bRun m f k out t) ∧ (bRun m f k out t).length ≤ out.length + f
  | 0, _, out, _, h, _, _ => ⟨h, Nat.le_refl _⟩
  | f + 1, k, out, t, h, ht, hl => by
    rw [bRun]
    split
    · split
      · exact ⟨h, by omega⟩
      · rename_i he
        have hF : t ≤ bFrom m k t := by simp only [bFrom]; omega
        have hE : bFrom m k t < bEnd m k t := by simp only [bEnd]; omega
        have h1 : isB (An.pst1 out (bSt m k t)) := h.pst1 (q := bQ m k) (by show 0 ≤ bFrom m k t; omega) (by show bEnd m k t ≤ 65536; omega) (by simp only [bQ]; omega) (by simp only [bQ]; omega) rfl fun hp => by have := hl hp; show _ ≤ bFrom m k t; omega
        have h2 := pst1_last (l := out) (bSt_lt (m := m) (k := k) (t := t))
        have h3 := bRun_isB (m := m) f (k + 1) _ (bEnd m k t) h1 (by omega) fun _ => by rw [h2.2.1]; exact Int.le_refl _
        have h4 := pst1_len out (bSt m k t)
        exact ⟨h3.1, by omega⟩
    · exact ⟨h, by omega⟩
theorem builtB (m : List Nat) : isB (builtT m) ∧ (builtT m).length ≤ 41 := by
  have := bRun_isB (m := m) 41 0 [] 0 isB_nil (Int.le_refl _) fun h => by cases h
  exact ⟨this.1, by have := this.2; simp at this; exact this⟩
/-! Sums of weights and days. -/
def wsum (w : Va → Int) (xs : List Tst) : Int := (xs.map fun s => w s.v * (s.hi - s.lo)).sum
/-! Fractions. -/
/-! Days worked. -/
theorem quW_B {l : List Tst} {a b : Int} (h : isB l) (hab : a < b) : dayS (wkS l a b) = quW l a b := by
  have key : ∀ r : List Tst, (∀ s ∈ r, s ∈ l) → dayS (wkS r a b) = quW r a b := by
    intro r
    induction r with
    | nil => intro _; rfl
    | cons s r ih =>
      intro hr
      have ih := ih fun x hx => hr x (List.mem_cons_of_mem _ hx)
      have hs := hr s (List.mem_cons_self ..)
      obtain ⟨h1, h2, h3⟩ := h.bd s hs
      obtain ⟨q, q0, q4', e⟩ := h.2 s hs
      obtain ⟨_, _, f1, _, f2⟩ := qv_facts q0 q4'
      have e1 : quW (s :: r) a b = quW1 a b s + quW r a b := rfl
      rw [e1, ← ih]
      by_cases hi : idle a b s = true
      · have e2 : wkS (s :: r) a b = wkS r a b := by rw [wkS, List.filter_cons]; simp [hi, wkS]
        rw [e2, quW1]
        split
        · omega
        · rename_i hd
          have hi' := idle_iff.1 hi
          rw [e] at hi' ⊢
          rw [f2]
          simp only [dys] at hd
          have : q = 0 := f1.1 (by omega)
          rw [if_pos this]; omega
      · have e2 : wkS (s :: r) a b = clipS a b s :: wkS r a b := by rw [wkS, List.filter_cons]; simp [hi, wkS]
        have hi' : ¬ _ := fun h' => hi (idle_iff.2 h')
        have e3 : dayS (clipS a b s :: wkS r a b) = dys a b s + dayS (wkS r a b) := by simp [dayS, clipS, dys]
        rw [e2, e3, quW1, if_neg (by simp only [dys]; omega), e, f2, if_neg (fun hq => by rw [e] at hi'; have := f1.2 hq; omega)]
        omega
  exact key l fun s hs => hs
theorem bef_all {l : List Sn} (h : sVal l = true) : bef l 65536 = dayS l := by
  rw [bef, dayS]
  congr 1
  refine List.map_congr_left fun s hs => ?_
  obtain ⟨i, hi, e⟩ := List.getElem_of_mem hs
  have h1 := sVal_at h hi
  rw [List.getD_eq_getElem?_getD, List.getElem?_eq_getElem hi] at h1
  have h1 : 0 ≤ s.lo ∧ s.lo < s.hi ∧ s.hi ≤ 65536 := by rw [← e]; exact h1
  simp only [befS]; rw [if_pos (by omega)]; omega
theorem quW_zero {l : List Tst} {a b : Int} (h : b ≤ a) : quW l a b = 0 := by
  rw [quW]
  induction l with
  | nil => rfl
  | cons s r ih => rw [List.map_cons, List.sum_cons, ih, quW1, if_pos (by simp only [dys]; omega)]; rfl
theorem days_B {l : List Tst} {a b : Int} (h : isB l) (h0 : 0 ≤ a) (h1 : b ≤ 65536) : sVal (wkd l a b) = true ∧ bef (wkd l a b) 65536 = quW l a b := by
  obtain ⟨e1, e2⟩ := wkd_set h.1 h0 h1
  refine ⟨e1, ?_⟩
  rw [bef_all e1, e2]
  split
  · rename_i hab; rw [quW_zero hab]
  · exact quW_B h (by omega)
/-! Bounds. -/
end An.S

/- Law 8: ServiceCounts. -/
namespace An.S
open Go Go.Proofs An
set_option maxHeartbeats 2000000
theorem fi12 : FnI Tryz.prog 12 := ⟨_, Tryz.func12, by kernel_rfl, rfl⟩
theorem fi13 : FnI Tryz.prog 13 := ⟨_, Tryz.func13, by kernel_rfl, rfl⟩
theorem fi14 : FnI Tryz.prog 14 := ⟨_, Tryz.func14, by kernel_rfl, rfl⟩
theorem isB.ask {l : List Tst} {a b : Int} (h : isB l) (ha : 0 ≤ a ∧ a ≤ 65536) (hb : 0 ≤ b ∧ b ≤ 65536) : askB l a b = true := askB_iff.2 ⟨h.right, ha.1, ha.2, hb.1, hb.2⟩
theorem c_WorkedB (l : List Tst) (a b : Int) (h : isB l) (hl : l.length ≤ 41) (ha : 0 ≤ a ∧ a ≤ 65536) (hb : 0 ≤ b ∧ b ≤ 65536) : Ct Tryz.prog 24 [tL 8 true tTs l, tI a, tI b] (tT [tL 2 true tSn (wkd l a b), tI 0]) :=
  c_WorkedV l a b _ (by omega) h.dig (h.ask ha hb) rfl
end An.S

/- Law 8: ServiceBounds, ServiceCaps. -/
namespace An.S
open Go Go.Proofs An
set_option maxHeartbeats 2000000
end An.S

/- What the readers of law 8 read: lists of numbers, numbers. -/
namespace An.S
open Go Go.Proofs An
open Go.ChangeShapes Go.WideShapes Go.ChangeAt Go.RowKit
set_option maxRecDepth 100000
theorem own : ownKnob Tryz.prog.godebug = none := by kernel_rfl
theorem laidOut : laidOutB Tryz.prog = true := by kernel_rfl
theorem oInt : Opn Tryz.prog 3 1 false (fun n : Int => tI n) (fun n => IntKind.i64.min ≤ n ∧ n ≤ IntKind.i64.max) := Opn.int Tryz.underlying3 (by kernel_rfl)
theorem oU16 : Opn Tryz.prog 47 1 false (fun n : Nat => tE (.int .u16 n)) (fun n => n < 65536) := Opn.nat Tryz.underlying47 (by kernel_rfl) rfl rfl
theorem oLm : Opn Tryz.prog 22 1 false (fun l : List Nat => tLm l) (fun l => Dig 65536 l) := (Opn.slice Tryz.underlying22 (by kernel_rfl) oU16).as id (fun _ => rfl) (fun _ h => h)
/-- What a contract says, as the frame of a statement wants it. -/
theorem walked {f : FuncId} {ts : List Ty} (h : Ct Tryz.prog f ts (tB true)) {vs : List Value} {W : World} (ha : Tup.all (Old W) W ts vs) : Calls Tryz.prog f vs.toArray W fun e W' => e = .returned (.bool true) ∧ Ext W W' :=
  (h (Old W) W vs ha).mono fun e W' ⟨v, h1, h2, h3⟩ => by
    have h3 : v = .bool true := h3
    subst h3; exact ⟨h1, h2⟩
end An.S

/- Layer 4: sets are swept day by day. Plain data. -/
namespace An.S
open Go
/-- The i-th border of a set. -/
def bd (l : List Sn) (i : Nat) : Int := if i % 2 = 0 then (l.getD (i / 2) sn0).lo else (l.getD (i / 2) sn0).hi
/-- The next day at which something changes, if the borders i and j come next. -/
def cday1 (a : List Sn) (i : Nat) : Int := if i < 2 * a.length then min 65536 (bd a i) else 65536
def cday (a b : List Sn) (i j : Nat) : Int := if j < 2 * b.length then min (cday1 a i) (bd b j) else cday1 a i
def cnxt (a : List Sn) (i : Nat) (d : Int) : Nat := if i < 2 * a.length ∧ bd a i = d then i + 1 else i
abbrev Ch := Int × Nat × Nat
def ch0 : Ch := (0, 0, 0)
def chL (a b : List Sn) : Nat → Nat → Nat → List Ch
  | 0, _, _ => []
  | f + 1, i, j => if i < 2 * a.length ∨ j < 2 * b.length then (cday a b i j, cnxt a i (cday a b i j), cnxt b j (cday a b i j)) :: chL a b f (cnxt a i (cday a b i j)) (cnxt b j (cday a b i j)) else []
def chAll (a b : List Sn) : List Ch := chL a b (2 * a.length + 2 * b.length) 0 0
theorem bd_le {l : List Sn} {i : Nat} (h : sVal l = true) (hi : i < 2 * l.length) : 0 ≤ bd l i ∧ bd l i ≤ 65536 := by
  have := sVal_at h (i := i / 2) (by omega)
  rw [bd]; split <;> omega
theorem bd_succ {l : List Sn} {i : Nat} (h : sVal l = true) (hi : i + 1 < 2 * l.length) : bd l i < bd l (i + 1) := by
  rcases Nat.mod_two_eq_zero_or_one i with h0 | h0
  · have := sVal_at h (i := i / 2) (by omega)
    rw [bd, bd, if_pos h0, if_neg (by omega), show (i + 1) / 2 = i / 2 by omega]; exact this.2.1
  · have := (sOkA_iff.1 (sVal_iff.1 h ((i + 1) / 2) (by omega))).2.2.resolve_left (by omega)
    rw [bd, bd, if_neg (by omega), if_pos (by omega)]
    rw [show (i + 1) / 2 - 1 = i / 2 by omega] at this; exact this
theorem bd_lt {l : List Sn} (h : sVal l = true) : ∀ {j i : Nat}, i < j → j < 2 * l.length → bd l i < bd l j
  | j + 1, i, hij, hj => by
    have h1 := bd_succ h hj
    rcases Nat.lt_or_ge i j with h2 | h2
    · have := bd_lt h h2 (by omega); omega
    · have : i = j := by omega
      subst this; exact h1
/-- One of two borders is reached. -/
theorem cday_is {a b : List Sn} {i j : Nat} (ha : sVal a = true) (hb : sVal b = true) (h : i < 2 * a.length ∨ j < 2 * b.length) : (i < 2 * a.length → cday a b i j ≤ bd a i) ∧ (j < 2 * b.length → cday a b i j ≤ bd b j) ∧ (i < 2 * a.length ∧ cday a b i j = bd a i ∨ j < 2 * b.length ∧ cday a b i j = bd b j) := by
  have h1 := fun hi => bd_le (i := i) ha hi
  have h2 := fun hj => bd_le (i := j) hb hj
  simp only [cday, cday1]
  by_cases hi : i < 2 * a.length
  · have h1 := h1 hi
    by_cases hj : j < 2 * b.length
    · have h2 := h2 hj
      rw [if_pos hj, if_pos hi]; omega
    · rw [if_neg hj, if_pos hi]; omega
  · have hj : j < 2 * b.length := h.resolve_left hi
    have h2 := h2 hj
    rw [if_pos hj, if_neg hi]; omega
theorem cnxt_adv {a b : List Sn} {i j : Nat} (ha : sVal a = true) (hb : sVal b = true) (h : i < 2 * a.length ∨ j < 2 * b.length) : i ≤ cnxt a i (cday a b i j) ∧ cnxt a i (cday a b i j) ≤ i + 1 ∧ j ≤ cnxt b j (cday a b i j) ∧ cnxt b j (cday a b i j) ≤ j + 1 ∧ i + j < cnxt a i (cday a b i j) + cnxt b j (cday a b i j) := by
  have := (cday_is ha hb h).2.2
  generalize cday a b i j = d at *
  simp only [cnxt]
  rcases this with h1 | h1
  · rw [if_pos ⟨h1.1, h1.2.symm⟩]; split <;> omega
  · rw [if_pos (c := j < 2 * b.length ∧ bd b j = d) ⟨h1.1, h1.2.symm⟩]; split <;> omega
theorem cnxt_le {a : List Sn} {i : Nat} {d : Int} (h : i ≤ 2 * a.length) : cnxt a i d ≤ 2 * a.length := by rw [cnxt]; split <;> omega
theorem drop_cons {α : Type} {l r : List α} {x : α} {k : Nat} (h : l.drop k = x :: r) : k < l.length ∧ l[k]? = some x ∧ l.drop (k + 1) = r := by
  have hk : k < l.length := by
    rcases Nat.lt_or_ge k l.length with h1 | h1
    · exact h1
    · rw [List.drop_eq_nil_of_le h1] at h; cases h
  rw [List.drop_eq_getElem_cons hk, List.cons.injEq] at h
  exact ⟨hk, by rw [List.getElem?_eq_getElem hk, h.1], h.2⟩
/-- The round k, with the borders i and j next. -/
def CI (a b : List Sn) (k i j : Nat) : Prop := i ≤ 2 * a.length ∧ j ≤ 2 * b.length ∧ k ≤ (chAll a b).length ∧ ∃ f, chL a b f i j = (chAll a b).drop k ∧ 2 * a.length + 2 * b.length ≤ f + (i + j)
theorem CI.next {a b : List Sn} {k i j : Nat} (ha : sVal a = true) (hb : sVal b = true) (h : CI a b k i j) (hij : i < 2 * a.length ∨ j < 2 * b.length) : k < (chAll a b).length ∧ (chAll a b).getD k ch0 = (cday a b i j, cnxt a i (cday a b i j), cnxt b j (cday a b i j)) ∧ CI a b (k + 1) (cnxt a i (cday a b i j)) (cnxt b j (cday a b i j)) ∧ i + j < cnxt a i (cday a b i j) + cnxt b j (cday a b i j) := by
  obtain ⟨h1, h2, h3, f, h4, h5⟩ := h
  have hadv := cnxt_adv ha hb hij
  cases f with
  | zero => omega
  | succ f =>
    rw [chL, if_pos hij] at h4
    obtain ⟨e1, e2, e3⟩ := drop_cons h4.symm
    refine ⟨e1, by rw [List.getD_eq_getElem?_getD, e2]; rfl, ⟨cnxt_le h1, cnxt_le h2, e1, f, e3.symm, by omega⟩, hadv.2.2.2.2⟩
theorem CI.stop {a b : List Sn} {k i j : Nat} (h : CI a b k i j) (hij : ¬ (i < 2 * a.length ∨ j < 2 * b.length)) : (chAll a b).length ≤ k := by
  obtain ⟨_, _, _, f, h4, _⟩ := h
  have : chL a b f i j = [] := by cases f with
    | zero => rfl
    | succ f => rw [chL, if_neg hij]
  rw [this] at h4
  have := congrArg List.length h4
  simp at this; omega
theorem CI.zero {a b : List Sn} : CI a b 0 0 0 := ⟨Nat.zero_le _, Nat.zero_le _, Nat.zero_le _, _, rfl, by omega⟩
theorem chAll_len {a b : List Sn} : (chAll a b).length ≤ 2 * a.length + 2 * b.length := by
  have key : ∀ f i j, (chL a b f i j).length ≤ f := by
    intro f
    induction f with
    | zero => intro i j; exact Nat.le_refl _
    | succ f ih => intro i j; rw [chL]; split
                   · have := ih (cnxt a i (cday a b i j)) (cnxt b j (cday a b i j)); simp only [List.length_cons]; omega
                   · simp
  exact key _ _ _
/-- What is chosen. -/
structure Ck where
  xs : List Sn
  lo : Int
  ins : Bool
def ck1 (kp : Bool → Bool → Bool) (s : Ck) (c : Ch) : Ck :=
  ⟨if s.ins && !kp (c.2.1 % 2 == 1) (c.2.2 % 2 == 1) then s.xs ++ [⟨if kp (c.2.1 % 2 == 1) (c.2.2 % 2 == 1) && !s.ins then c.1 else s.lo, c.1⟩] else s.xs, if kp (c.2.1 % 2 == 1) (c.2.2 % 2 == 1) && !s.ins then c.1 else s.lo, kp (c.2.1 % 2 == 1) (c.2.2 % 2 == 1)⟩
def ckRun (kp : Bool → Bool → Bool) (a b : List Sn) : Ck := (chAll a b).foldl (ck1 kp) ⟨[], 0, false⟩
theorem ck_next {α β : Type} {f : β → α → β} {l : List α} {k : Nat} {s R : β} {d : α} (hk : k < l.length) (h : (l.drop k).foldl f s = R) : (l.drop (k + 1)).foldl f (f s (l.getD k d)) = R := by
  rw [List.drop_eq_getElem_cons hk, List.foldl_cons] at h
  rw [List.getD_eq_getElem?_getD, List.getElem?_eq_getElem hk]; exact h
end An.S

/- Layer 4: unions, meets. -/
namespace An.S
open Go Go.Proofs An
set_option maxHeartbeats 2000000
theorem ti54 : TyI Tryz.prog 54 1 false := ⟨by kernel_rfl, by kernel_rfl⟩
theorem ti100 : TyI Tryz.prog 100 2 true := ⟨by kernel_rfl, by kernel_rfl⟩
theorem ti101 : TyI Tryz.prog 101 1 false := ⟨by kernel_rfl, by kernel_rfl⟩
theorem fo100_0 : fieldO Tryz.prog 100 0 = some 0 := by kernel_rfl
theorem fo100_1 : fieldO Tryz.prog 100 1 = some 1 := by kernel_rfl
theorem fi66 : FnI Tryz.prog 66 := ⟨_, Tryz.func66, by kernel_rfl, rfl⟩
theorem fi67 : FnI Tryz.prog 67 := ⟨_, Tryz.func67, by kernel_rfl, rfl⟩
theorem fi68 : FnI Tryz.prog 68 := ⟨_, Tryz.func68, by kernel_rfl, rfl⟩
theorem fi98 : FnI Tryz.prog 98 := ⟨_, Tryz.func98, by kernel_rfl, rfl⟩
theorem fi124 : FnI Tryz.prog 124 := ⟨_, Tryz.func124, by kernel_rfl, rfl⟩
theorem fi125 : FnI Tryz.prog 125 := ⟨_, Tryz.func125, by kernel_rfl, rfl⟩
theorem zr3 : (Tryz.prog.info? 3).bind (·.zero) = some (.int .i64 0) ∧ ∀ F w, (tE (.int .i64 0)).p F w (.int .i64 0) := ⟨by kernel_rfl, fun _ _ => rfl⟩
theorem zr4 : (Tryz.prog.info? 4).bind (·.zero) = some (.bool false) ∧ ∀ F w, (tE (.bool false)).p F w (.bool false) := ⟨by kernel_rfl, fun _ _ => rfl⟩
theorem zr54 : (Tryz.prog.info? 54).bind (·.zero) = some (.slice none 0 0) ∧ ∀ F w, (tE (.slice none 0 0)).p F w (.slice none 0 0) := ⟨by kernel_rfl, fun _ _ => rfl⟩
theorem zr100 : (Tryz.prog.info? 100).bind (·.zero) = some (.agg #[.bool false, .bool false]) ∧ ∀ F w, (tS [⟨1, false, (tE (.bool false))⟩, ⟨1, false, (tE (.bool false))⟩]).p F w (.agg #[.bool false, .bool false]) := ⟨by kernel_rfl, fun _ _ => ⟨_, rfl, rfl, ⟨fun _ => rfl, rfl⟩, ⟨fun _ => rfl, rfl⟩, trivial⟩⟩
theorem bu100 : BuI Tryz.prog 100 (fun i => [(0, 1), (1, 1)][i]?) (.agg #[.bool false, .bool false]) := BuI.struct Tryz.underlying100 (by kernel_rfl) (by kernel_rfl)
theorem c_border (l : List Sn) (i : Nat) (hi : i < 2 * l.length) (hl : l.length ≤ 1000000) :
  Ct Tryz.prog 125 [tL 2 true tSn l, tI i] (tI (bd l i)) := by
 refine Ct.intro Tryz.func125 rfl Tryz.ntmps125 rfl ?_
 intro w F
 refine C_seq ?_
 refine C_reg ?_
 refine R1 d_assign rfl ?_
 refine R_nil (by kernel_rfl) ?_
 refine K_then ?_
 refine C_seq ?_
 refine C_seq ?_
 refine C_reg ?_
 refine R1 d_move rfl ?_
 refine R2 (d_remP (by omega) (by omega)) rfl rfl ?_
 refine R2 d_eql rfl rfl ?_
 refine R_nil (by kernel_rfl) ?_
 refine K_then ?_
 refine C_if rfl (fun h53 => ?_) (fun h53 => ?_)
 ·
  refine C_seq ?_
  refine C_reg ?_
  refine R1 d_move rfl ?_
  refine R1 d_move rfl ?_
  refine R2 (d_quoP (by omega) (by omega) (wr64 (by omega) (by omega))) rfl rfl ?_
  refine R2 (d_indexP sl54 (i / 2) (by omega) (gD (l := l) (n := i / 2) (d := sn0) (by omega))) rfl rfl ?_
  refine R1 (d_fieldP fo69_0 (At.f 0 rfl rfl) rfl) rfl ?_
  refine R1 (d_loadP ti3) rfl ?_
  refine R1 d_assign rfl ?_
  refine R_nil (by kernel_rfl) ?_
  refine K_then ?_
  refine C_ret ?_
  refine K_retT ?_
  exact E_ret1 Plain.mk' rfl rfl (Le.int (by rw [bd, if_pos (by omega)]))
 ·
  refine C_skip ?_
  refine K_then ?_
  refine C_seq ?_
  refine C_reg ?_
  refine R1 d_move rfl ?_
  refine R1 d_move rfl ?_
  refine R2 (d_quoP (by omega) (by omega) (wr64 (by omega) (by omega))) rfl rfl ?_
  refine R2 (d_indexP sl54 (i / 2) (by omega) (gD (l := l) (n := i / 2) (d := sn0) (by omega))) rfl rfl ?_
  refine R1 (d_fieldP fo69_1 (At.f 1 rfl rfl) rfl) rfl ?_
  refine R1 (d_loadP ti3) rfl ?_
  refine R1 d_assign rfl ?_
  refine R_nil (by kernel_rfl) ?_
  refine K_then ?_
  refine C_ret ?_
  exact E_ret1 Plain.mk' rfl rfl (Le.int (by rw [bd, if_neg (by omega)]))
theorem c_changes (a b : List Sn) :
  CtG Tryz.prog 98 [] [.val (tL 2 true tSn a), .val (tL 2 true tSn b)] (.own (.fn 124 [.ptr 2 0, .ptr 3 0])) [(2, ⟨54, 1, false, [.val (tL 2 true tSn a)]⟩), (3, ⟨54, 1, false, [.val (tL 2 true tSn b)]⟩)] [2, 3] := by
 refine CtG.intro [] Tryz.func98 rfl Tryz.ntmps98 rfl rfl trivial ?_
 intro w F η
 refine C_seq ?_
 refine C_reg ?_
 refine RE (d_box (k := 2) ti54 rfl) ⟨rfl, trivial⟩ trivial ⟨rfl, trivial⟩ ?_
 refine RE (d_box (k := 3) ti54 rfl) ⟨rfl, trivial⟩ trivial ⟨rfl, trivial⟩ ?_
 refine R1 d_assign rfl ?_
 refine R_nil (by kernel_rfl) ?_
 refine K_then ?_
 refine C_seq ?_
 refine C_reg ?_
 refine R2 (d_makeFunc (ps := [.ptr 2 0, .ptr 3 0]) rfl) rfl rfl ?_
 refine R1 d_assign rfl ?_
 refine R_nil (by kernel_rfl) ?_
 refine K_then ?_
 refine C_ret ?_
 exact E_retG1 LentC.mk' rfl rfl Imp.refl ⟨rfl, rfl, trivial⟩ rfl ⟨⟨rfl, (SupX.lit rfl)⟩, ⟨rfl, (SupX.lit rfl)⟩, trivial⟩ rfl
abbrev tMem (x y : Bool) : Ty := tS [⟨1, false, tB x⟩, ⟨1, false, tB y⟩]
def chY (a b : List Sn) (k : Nat) : List Ty := [tI ((chAll a b).getD k ch0).1, tMem (((chAll a b).getD k ch0).2.1 % 2 == 1) (((chAll a b).getD k ch0).2.2 % 2 == 1)]
theorem mod_eq {n : Nat} : decide ((n : Int) % 2 = 1) = (n % 2 == 1) := by
  rw [Bool.eq_iff_iff]; simp; omega
theorem ch_le {a b : List Sn} {k : Nat} {c : Ch} (h : (chAll a b).getD k ch0 = c) : LeL [tI c.1, tMem (decide ((c.2.1 : Int) % 2 = 1)) (decide ((c.2.2 : Int) % 2 = 1))] (chY a b k) := by
  rw [chY, h, mod_eq, mod_eq]; exact ⟨Le.refl, Le.refl, trivial⟩
theorem i_changes (a b : List Sn) (ha : sVal a = true) (hb : sVal b = true) (hla : a.length ≤ 1000000) (hlb : b.length ≤ 1000000) :
  ItC Tryz.prog 124 [(1, ⟨54, 1, false, [.val (tL 2 true tSn a)]⟩), (2, ⟨54, 1, false, [.val (tL 2 true tSn b)]⟩)] [.ptr 1 0, .ptr 2 0] ((chAll a b).length) (chY a b) := by
 refine ItC.intro (K := 99) [1, 2] Tryz.func124 rfl Tryz.ntmps124 rfl rfl ⟨⟨rfl, (SupX.lit rfl)⟩, ⟨rfl, (SupX.lit rfl)⟩, trivial⟩ rfl ?_
 intro w F η l V J Jc hB
 refine C_seq ?_
 refine C_reg ?_
 refine R1 d_assign rfl ?_
 refine R1 d_assign rfl ?_
 refine R_nil (by kernel_rfl) ?_
 refine K_then ?_
 refine C_block ?_
 refine C_loop (fun (fm : (Nat) × (Nat) × (Nat)) => (fun (k : Nat) (i : Nat) (j : Nat) => CI a b k i j) fm.1 fm.2.1 fm.2.2) (fun (fm : (Nat) × (Nat) × (Nat)) => (fun (k : Nat) (i : Nat) (j : Nat) => upd (upd (upd (upd (upd (fun _ => none) 0 (some (.val (tE (.func (.yield l) #[] #[]))))) 1 (some (.own (.ptr 1 0)))) 2 (some (.own (.ptr 2 0)))) 4 (some (.val (tI i)))) 5 (some (.val (tI j)))) fm.1 fm.2.1 fm.2.2) (fun (fm : (Nat) × (Nat) × (Nat)) => (fun (k : Nat) (i : Nat) (j : Nat) => upd (upd (upd (fun _ => none) 1 (some (⟨54, 1, false, [.val (tL 2 true tSn a)]⟩))) 2 (some (⟨54, 1, false, [.val (tL 2 true tSn b)]⟩))) 99 (some (⟨2 * k, 1, false, []⟩))) fm.1 fm.2.1 fm.2.2) (nm [1, 2, 99]) (fun (fm : (Nat) × (Nat) × (Nat)) => (fun (k : Nat) (i : Nat) (j : Nat) => 2 * a.length + 2 * b.length - (i + j)) fm.1 fm.2.1 fm.2.2) ((0, 0, 0)) (by dsimp only; exact CI.zero) (Sub.int rfl (by first | omega | rfl | (dsimp only; omega)) (Sub.int rfl (by first | omega | rfl | (dsimp only; omega)) (Sub.cons rfl (Sub.cons rfl (Sub.cons rfl Sub.nil))))) ((SubK.consI rfl ImpK.refl) ((SubK.consI rfl ImpK.refl) ((SubK.consI rfl ImpK.refl) SubK.nil))) (SupG.val (SupG.val (SupG.own rfl (SupG.own rfl (SupG.val SupG.nil))))) (SupH.cons rfl (supJL rfl) (SupH.cons rfl (supJL rfl) (SupH.cons rfl (supJL rfl) SupH.nil))) (lkOk rfl) ?_
 intro fm hI
 obtain ⟨k, i, j⟩ := fm
 replace hI : CI a b k i j := hI
 show wc _ _ _ _ (upd (upd (upd (upd (upd (fun _ => none) 0 (some (.val (tE (.func (.yield l) #[] #[]))))) 1 (some (.own (.ptr 1 0)))) 2 (some (.own (.ptr 2 0)))) 4 (some (.val (tI i)))) 5 (some (.val (tI j)))) (upd (upd (upd (fun _ => none) 1 (some (⟨54, 1, false, [.val (tL 2 true tSn a)]⟩))) 2 (some (⟨54, 1, false, [.val (tL 2 true tSn b)]⟩))) 99 (some (⟨2 * k, 1, false, []⟩))) _
 have hCI := hI
 have hi2 := hI.1
 have hj2 := hI.2.1
 refine C_seq ?_
 refine C_seq ?_
 refine C_reg ?_
 refine R1 d_move rfl ?_
 refine RE (d_load (0) ti54 rfl rfl) ⟨rfl, trivial⟩ ⟨rfl, trivial⟩ trivial ?_
 refine R1 (d_len Tryz.underlying54) rfl ?_
 refine R2 (d_mul (wr64 (by omega) (by omega))) rfl rfl ?_
 refine R2 d_lss rfl rfl ?_
 refine R1 d_move rfl ?_
 refine RGcaseD (t := 12) rfl (fun h66 => ?_) (fun h66 => ?_)
 ·
  refine RGoff (decide_eq_true h66) rfl rfl ?_
  refine RGoff (decide_eq_true h66) rfl rfl ?_
  refine RGoff (decide_eq_true h66) rfl rfl ?_
  refine RGoff (decide_eq_true h66) rfl rfl ?_
  refine RGoff (decide_eq_true h66) rfl rfl ?_
  refine R2 (d_pickT (decide_eq_true h66)) rfl rfl ?_
  refine R_nil (by kernel_rfl) ?_
  refine K_then ?_
  refine C_bT rfl rfl ?_
  refine C_skip ?_
  refine K_then ?_
  refine C_block ?_
  refine C_seq ?_
  have hij : i < 2 * a.length ∨ j < 2 * b.length := by omega
  refine C_reg ?_
  refine R1 d_assign rfl ?_
  refine R_nil (by kernel_rfl) ?_
  refine K_then ?_
  refine C_join (fun (d1 : Int) => d1 = cday1 a i) (fun (d1 : Int) => upd (upd (upd (upd (upd (upd (fun _ => none) 0 (some (.val (tE (.func (.yield l) #[] #[]))))) 1 (some (.own (.ptr 1 0)))) 2 (some (.own (.ptr 2 0)))) 4 (some (.val (tI i)))) 5 (some (.val (tI j)))) 6 (some (.val (tI d1)))) (fun (d1 : Int) => upd (upd (upd (fun _ => none) 1 (some (⟨54, 1, false, [.val (tL 2 true tSn a)]⟩))) 2 (some (⟨54, 1, false, [.val (tL 2 true tSn b)]⟩))) 99 (some (⟨2 * k, 1, false, []⟩))) (nm [1, 2, 99]) ?_ ?_
  ·
   refine C_seq ?_
   refine C_reg ?_
   refine R1 d_move rfl ?_
   refine RE (d_load (0) ti54 rfl rfl) ⟨rfl, trivial⟩ ⟨rfl, trivial⟩ trivial ?_
   refine R1 (d_len Tryz.underlying54) rfl ?_
   refine R2 (d_mul (wr64 (by omega) (by omega))) rfl rfl ?_
   refine R2 d_lss rfl rfl ?_
   refine R_nil (by kernel_rfl) ?_
   refine K_then ?_
   refine C_if rfl (fun h68 => ?_) (fun h68 => ?_)
   ·
    refine C_reg ?_
    refine R1 d_move rfl ?_
    refine RE (d_load (0) ti54 rfl rfl) ⟨rfl, trivial⟩ ⟨rfl, trivial⟩ trivial ?_
    refine R1 d_move rfl ?_
    refine R2 (d_call (c_border a i (by omega) (by omega)) fi125 rfl) rfl rfl ?_
    refine R2 d_min2 rfl rfl ?_
    refine R1 d_assign rfl ?_
    refine R_nil (by kernel_rfl) ?_
    exact K_fam (min 65536 (bd a i)) (by rw [cday1, if_pos (by omega)]) (Sub.int rfl (by first | omega | rfl | (dsimp only; omega)) (Sub.int rfl (by first | omega | rfl | (dsimp only; omega)) (Sub.int rfl (by first | omega | rfl | (dsimp only; omega)) (Sub.cons rfl (Sub.cons rfl (Sub.cons rfl Sub.nil)))))) ((SubK.consI rfl ImpK.refl) ((SubK.consI rfl ImpK.refl) ((SubK.consI rfl ImpK.refl) SubK.nil))) (SupG.val (SupG.val (SupG.val (SupG.own rfl (SupG.own rfl (SupG.val SupG.nil)))))) (SupH.cons rfl (supJL rfl) (SupH.cons rfl (supJL rfl) (SupH.cons rfl (supJL rfl) SupH.nil))) (lkOk rfl)
   ·
    refine C_skip ?_
    exact K_fam (65536) (by rw [cday1, if_neg (by omega)]) (Sub.int rfl (by first | omega | rfl | (dsimp only; omega)) (Sub.int rfl (by first | omega | rfl | (dsimp only; omega)) (Sub.int rfl (by first | omega | rfl | (dsimp only; omega)) (Sub.cons rfl (Sub.cons rfl (Sub.cons rfl Sub.nil)))))) ((SubK.consI rfl ImpK.refl) ((SubK.consI rfl ImpK.refl) ((SubK.consI rfl ImpK.refl) SubK.nil))) (SupG.val (SupG.val (SupG.val (SupG.own rfl (SupG.own rfl (SupG.val SupG.nil)))))) (SupH.cons rfl (supJL rfl) (SupH.cons rfl (supJL rfl) (SupH.cons rfl (supJL rfl) SupH.nil))) (lkOk rfl)
  ·
   intro d1 hj68
   refine C_join (fun (d2 : Int) => d2 = (cday a b i j)) (fun (d2 : Int) => upd (upd (upd (upd (upd (upd (fun _ => none) 0 (some (.val (tE (.func (.yield l) #[] #[]))))) 1 (some (.own (.ptr 1 0)))) 2 (some (.own (.ptr 2 0)))) 4 (some (.val (tI i)))) 5 (some (.val (tI j)))) 6 (some (.val (tI d2)))) (fun (d2 : Int) => upd (upd (upd (fun _ => none) 1 (some (⟨54, 1, false, [.val (tL 2 true tSn a)]⟩))) 2 (some (⟨54, 1, false, [.val (tL 2 true tSn b)]⟩))) 99 (some (⟨2 * k, 1, false, []⟩))) (nm [1, 2, 99]) ?_ ?_
   ·
    refine C_seq ?_
    refine C_reg ?_
    refine R1 d_move rfl ?_
    refine RE (d_load (0) ti54 rfl rfl) ⟨rfl, trivial⟩ ⟨rfl, trivial⟩ trivial ?_
    refine R1 (d_len Tryz.underlying54) rfl ?_
    refine R2 (d_mul (wr64 (by omega) (by omega))) rfl rfl ?_
    refine R2 d_lss rfl rfl ?_
    refine R_nil (by kernel_rfl) ?_
    refine K_then ?_
    refine C_if rfl (fun h71 => ?_) (fun h71 => ?_)
    ·
     refine C_reg ?_
     refine R1 d_move rfl ?_
     refine RE (d_load (0) ti54 rfl rfl) ⟨rfl, trivial⟩ ⟨rfl, trivial⟩ trivial ?_
     refine R1 d_move rfl ?_
     refine R2 (d_call (c_border b j (by omega) (by omega)) fi125 rfl) rfl rfl ?_
     refine R2 d_min2 rfl rfl ?_
     refine R1 d_assign rfl ?_
     refine R_nil (by kernel_rfl) ?_
     exact K_fam (min d1 (bd b j)) (by rw [cday, if_pos (by omega), ← hj68]) (Sub.int rfl (by first | omega | rfl | (dsimp only; omega)) (Sub.int rfl (by first | omega | rfl | (dsimp only; omega)) (Sub.int rfl (by first | omega | rfl | (dsimp only; omega)) (Sub.cons rfl (Sub.cons rfl (Sub.cons rfl Sub.nil)))))) ((SubK.consI rfl ImpK.refl) ((SubK.consI rfl ImpK.refl) ((SubK.consI rfl ImpK.refl) SubK.nil))) (SupG.val (SupG.val (SupG.val (SupG.own rfl (SupG.own rfl (SupG.val SupG.nil)))))) (SupH.cons rfl (supJL rfl) (SupH.cons rfl (supJL rfl) (SupH.cons rfl (supJL rfl) SupH.nil))) (lkOk rfl)
    ·
     refine C_skip ?_
     exact K_fam (d1) (by rw [cday, if_neg (by omega), ← hj68]) (Sub.int rfl (by first | omega | rfl | (dsimp only; omega)) (Sub.int rfl (by first | omega | rfl | (dsimp only; omega)) (Sub.int rfl (by first | omega | rfl | (dsimp only; omega)) (Sub.cons rfl (Sub.cons rfl (Sub.cons rfl Sub.nil)))))) ((SubK.consI rfl ImpK.refl) ((SubK.consI rfl ImpK.refl) ((SubK.consI rfl ImpK.refl) SubK.nil))) (SupG.val (SupG.val (SupG.val (SupG.own rfl (SupG.own rfl (SupG.val SupG.nil)))))) (SupH.cons rfl (supJL rfl) (SupH.cons rfl (supJL rfl) (SupH.cons rfl (supJL rfl) SupH.nil))) (lkOk rfl)
   ·
    intro d2 hj71
    subst hj71
    refine C_join (fun (i2 : Nat) => i2 = cnxt a i (cday a b i j)) (fun (i2 : Nat) => upd (upd (upd (upd (upd (upd (fun _ => none) 0 (some (.val (tE (.func (.yield l) #[] #[]))))) 1 (some (.own (.ptr 1 0)))) 2 (some (.own (.ptr 2 0)))) 4 (some (.val (tI i2)))) 5 (some (.val (tI j)))) 6 (some (.val (tI (cday a b i j))))) (fun (i2 : Nat) => upd (upd (upd (fun _ => none) 1 (some (⟨54, 1, false, [.val (tL 2 true tSn a)]⟩))) 2 (some (⟨54, 1, false, [.val (tL 2 true tSn b)]⟩))) 99 (some (⟨2 * k, 1, false, []⟩))) (nm [1, 2, 99]) ?_ ?_
    ·
     refine C_seq ?_
     refine C_reg ?_
     refine R1 d_move rfl ?_
     refine RE (d_load (0) ti54 rfl rfl) ⟨rfl, trivial⟩ ⟨rfl, trivial⟩ trivial ?_
     refine R1 (d_len Tryz.underlying54) rfl ?_
     refine R2 (d_mul (wr64 (by omega) (by omega))) rfl rfl ?_
     refine R2 d_lss rfl rfl ?_
     refine R1 d_move rfl ?_
     refine RGcaseD (t := 44) rfl (fun h74 => ?_) (fun h74 => ?_)
     ·
      refine RGon (decide_eq_true h74) rfl (d_load (0) ti54 rfl rfl) rfl ⟨rfl, trivial⟩ ⟨rfl, trivial⟩ trivial ?_
      refine RGon (decide_eq_true h74) rfl d_move rfl ⟨rfl, trivial⟩ trivial trivial ?_
      refine RGon (decide_eq_true h74) rfl (d_call (c_border a i (by omega) (by omega)) fi125 rfl) rfl ⟨rfl, rfl, trivial⟩ trivial trivial ?_
      refine RGon (decide_eq_true h74) rfl d_move rfl ⟨rfl, trivial⟩ trivial trivial ?_
      refine RGon (decide_eq_true h74) rfl d_eql rfl ⟨rfl, rfl, trivial⟩ trivial trivial ?_
      refine R2 (d_pickT (decide_eq_true h74)) rfl rfl ?_
      refine R_nil (by kernel_rfl) ?_
      refine K_then ?_
      refine C_if rfl (fun h74_2 => ?_) (fun h74_2 => ?_)
      ·
       refine C_reg ?_
       refine R1 d_move rfl ?_
       refine R2 (d_add (wr64 (by omega) (by omega))) rfl rfl ?_
       refine R1 d_assign rfl ?_
       refine R_nil (by kernel_rfl) ?_
       exact K_fam (i + 1) (by rw [cnxt, if_pos ⟨by omega, h74_2⟩]) (Sub.int rfl (by first | omega | rfl | (dsimp only; omega)) (Sub.int rfl (by first | omega | rfl | (dsimp only; omega)) (Sub.int rfl (by first | omega | rfl | (dsimp only; omega)) (Sub.cons rfl (Sub.cons rfl (Sub.cons rfl Sub.nil)))))) ((SubK.consI rfl ImpK.refl) ((SubK.consI rfl ImpK.refl) ((SubK.consI rfl ImpK.refl) SubK.nil))) (SupG.val (SupG.val (SupG.val (SupG.own rfl (SupG.own rfl (SupG.val SupG.nil)))))) (SupH.cons rfl (supJL rfl) (SupH.cons rfl (supJL rfl) (SupH.cons rfl (supJL rfl) SupH.nil))) (lkOk rfl)
      ·
       refine C_skip ?_
       exact K_fam (i) (by rw [cnxt, if_neg (fun h => h74_2 h.2)]) (Sub.int rfl (by first | omega | rfl | (dsimp only; omega)) (Sub.int rfl (by first | omega | rfl | (dsimp only; omega)) (Sub.int rfl (by first | omega | rfl | (dsimp only; omega)) (Sub.cons rfl (Sub.cons rfl (Sub.cons rfl Sub.nil)))))) ((SubK.consI rfl ImpK.refl) ((SubK.consI rfl ImpK.refl) ((SubK.consI rfl ImpK.refl) SubK.nil))) (SupG.val (SupG.val (SupG.val (SupG.own rfl (SupG.own rfl (SupG.val SupG.nil)))))) (SupH.cons rfl (supJL rfl) (SupH.cons rfl (supJL rfl) (SupH.cons rfl (supJL rfl) SupH.nil))) (lkOk rfl)
     ·
      refine RGoff (decide_eq_false h74) rfl rfl ?_
      refine RGoff (decide_eq_false h74) rfl rfl ?_
      refine RGoff (decide_eq_false h74) rfl rfl ?_
      refine RGoff (decide_eq_false h74) rfl rfl ?_
      refine RGoff (decide_eq_false h74) rfl rfl ?_
      refine R2 (d_pickF (decide_eq_false h74)) rfl rfl ?_
      refine R_nil (by kernel_rfl) ?_
      refine K_then ?_
      refine C_bF rfl rfl ?_
      refine C_skip ?_
      exact K_fam (i) (by rw [cnxt, if_neg (fun h => by have := h.1; omega)]) (Sub.int rfl (by first | omega | rfl | (dsimp only; omega)) (Sub.int rfl (by first | omega | rfl | (dsimp only; omega)) (Sub.int rfl (by first | omega | rfl | (dsimp only; omega)) (Sub.cons rfl (Sub.cons rfl (Sub.cons rfl Sub.nil)))))) ((SubK.consI rfl ImpK.refl) ((SubK.consI rfl ImpK.refl) ((SubK.consI rfl ImpK.refl) SubK.nil))) (SupG.val (SupG.val (SupG.val (SupG.own rfl (SupG.own rfl (SupG.val SupG.nil)))))) (SupH.cons rfl (supJL rfl) (SupH.cons rfl (supJL rfl) (SupH.cons rfl (supJL rfl) SupH.nil))) (lkOk rfl)
    ·
     intro i2 hj74
     subst hj74
     refine C_join (fun (j2 : Nat) => j2 = cnxt b j (cday a b i j)) (fun (j2 : Nat) => upd (upd (upd (upd (upd (upd (fun _ => none) 0 (some (.val (tE (.func (.yield l) #[] #[]))))) 1 (some (.own (.ptr 1 0)))) 2 (some (.own (.ptr 2 0)))) 4 (some (.val (tI (cnxt a i (cday a b i j) : Nat))))) 5 (some (.val (tI j2)))) 6 (some (.val (tI (cday a b i j))))) (fun (j2 : Nat) => upd (upd (upd (fun _ => none) 1 (some (⟨54, 1, false, [.val (tL 2 true tSn a)]⟩))) 2 (some (⟨54, 1, false, [.val (tL 2 true tSn b)]⟩))) 99 (some (⟨2 * k, 1, false, []⟩))) (nm [1, 2, 99]) ?_ ?_
     ·
      refine C_seq ?_
      refine C_reg ?_
      refine R1 d_move rfl ?_
      refine RE (d_load (0) ti54 rfl rfl) ⟨rfl, trivial⟩ ⟨rfl, trivial⟩ trivial ?_
      refine R1 (d_len Tryz.underlying54) rfl ?_
      refine R2 (d_mul (wr64 (by omega) (by omega))) rfl rfl ?_
      refine R2 d_lss rfl rfl ?_
      refine R1 d_move rfl ?_
      refine RGcaseD (t := 58) rfl (fun h77 => ?_) (fun h77 => ?_)
      ·
       refine RGon (decide_eq_true h77) rfl (d_load (0) ti54 rfl rfl) rfl ⟨rfl, trivial⟩ ⟨rfl, trivial⟩ trivial ?_
       refine RGon (decide_eq_true h77) rfl d_move rfl ⟨rfl, trivial⟩ trivial trivial ?_
       refine RGon (decide_eq_true h77) rfl (d_call (c_border b j (by omega) (by omega)) fi125 rfl) rfl ⟨rfl, rfl, trivial⟩ trivial trivial ?_
       refine RGon (decide_eq_true h77) rfl d_move rfl ⟨rfl, trivial⟩ trivial trivial ?_
       refine RGon (decide_eq_true h77) rfl d_eql rfl ⟨rfl, rfl, trivial⟩ trivial trivial ?_
       refine R2 (d_pickT (decide_eq_true h77)) rfl rfl ?_
       refine R_nil (by kernel_rfl) ?_
       refine K_then ?_
       refine C_if rfl (fun h77_2 => ?_) (fun h77_2 => ?_)
       ·
        refine C_reg ?_
        refine R1 d_move rfl ?_
        refine R2 (d_add (wr64 (by omega) (by omega))) rfl rfl ?_
        refine R1 d_assign rfl ?_
        refine R_nil (by kernel_rfl) ?_
        exact K_fam (j + 1) (by rw [cnxt, if_pos ⟨by omega, h77_2⟩]) (Sub.int rfl (by first | omega | rfl | (dsimp only; omega)) (Sub.int rfl (by first | omega | rfl | (dsimp only; omega)) (Sub.int rfl (by first | omega | rfl | (dsimp only; omega)) (Sub.cons rfl (Sub.cons rfl (Sub.cons rfl Sub.nil)))))) ((SubK.consI rfl ImpK.refl) ((SubK.consI rfl ImpK.refl) ((SubK.consI rfl ImpK.refl) SubK.nil))) (SupG.val (SupG.val (SupG.val (SupG.own rfl (SupG.own rfl (SupG.val SupG.nil)))))) (SupH.cons rfl (supJL rfl) (SupH.cons rfl (supJL rfl) (SupH.cons rfl (supJL rfl) SupH.nil))) (lkOk rfl)
       ·
        refine C_skip ?_
        exact K_fam (j) (by rw [cnxt, if_neg (fun h => h77_2 h.2)]) (Sub.int rfl (by first | omega | rfl | (dsimp only; omega)) (Sub.int rfl (by first | omega | rfl | (dsimp only; omega)) (Sub.int rfl (by first | omega | rfl | (dsimp only; omega)) (Sub.cons rfl (Sub.cons rfl (Sub.cons rfl Sub.nil)))))) ((SubK.consI rfl ImpK.refl) ((SubK.consI rfl ImpK.refl) ((SubK.consI rfl ImpK.refl) SubK.nil))) (SupG.val (SupG.val (SupG.val (SupG.own rfl (SupG.own rfl (SupG.val SupG.nil)))))) (SupH.cons rfl (supJL rfl) (SupH.cons rfl (supJL rfl) (SupH.cons rfl (supJL rfl) SupH.nil))) (lkOk rfl)
      ·
       refine RGoff (decide_eq_false h77) rfl rfl ?_
       refine RGoff (decide_eq_false h77) rfl rfl ?_
       refine RGoff (decide_eq_false h77) rfl rfl ?_
       refine RGoff (decide_eq_false h77) rfl rfl ?_
       refine RGoff (decide_eq_false h77) rfl rfl ?_
       refine R2 (d_pickF (decide_eq_false h77)) rfl rfl ?_
       refine R_nil (by kernel_rfl) ?_
       refine K_then ?_
       refine C_bF rfl rfl ?_
       refine C_skip ?_
       exact K_fam (j) (by rw [cnxt, if_neg (fun h => by have := h.1; omega)]) (Sub.int rfl (by first | omega | rfl | (dsimp only; omega)) (Sub.int rfl (by first | omega | rfl | (dsimp only; omega)) (Sub.int rfl (by first | omega | rfl | (dsimp only; omega)) (Sub.cons rfl (Sub.cons rfl (Sub.cons rfl Sub.nil)))))) ((SubK.consI rfl ImpK.refl) ((SubK.consI rfl ImpK.refl) ((SubK.consI rfl ImpK.refl) SubK.nil))) (SupG.val (SupG.val (SupG.val (SupG.own rfl (SupG.own rfl (SupG.val SupG.nil)))))) (SupH.cons rfl (supJL rfl) (SupH.cons rfl (supJL rfl) (SupH.cons rfl (supJL rfl) SupH.nil))) (lkOk rfl)
     ·
      intro j2 hj77
      subst hj77
      refine C_seq ?_
      refine C_regY ?_
      refine wl_op d_move ⟨rfl, trivial⟩ trivial trivial rfl ?_
      refine wl_op d_move ⟨rfl, trivial⟩ trivial trivial rfl ?_
      refine wl_op d_move ⟨rfl, trivial⟩ trivial trivial rfl ?_
      refine wl_op (d_remP (by omega) (by omega)) ⟨rfl, rfl, trivial⟩ trivial trivial rfl ?_
      refine wl_op d_eql ⟨rfl, rfl, trivial⟩ trivial trivial rfl ?_
      refine wl_op d_move ⟨rfl, trivial⟩ trivial trivial rfl ?_
      refine wl_op (d_remP (by omega) (by omega)) ⟨rfl, rfl, trivial⟩ trivial trivial rfl ?_
      refine wl_op d_eql ⟨rfl, rfl, trivial⟩ trivial trivial rfl ?_
      refine wl_op (d_build (r := tS [⟨1, false, tB (decide ((cnxt a i (cday a b i j) : Nat) % 2 = (1 : Int)))⟩, ⟨1, false, tB (decide ((cnxt b j (cday a b i j) : Nat) % 2 = (1 : Int)))⟩]) (ts := [(0, tB (decide ((cnxt a i (cday a b i j) : Nat) % 2 = (1 : Int)))), (1, tB (decide ((cnxt b j (cday a b i j) : Nat) % 2 = (1 : Int))))]) bu100 zr100.2 ⟨_, rfl⟩ rfl ⟨_, _, _, _, rfl, Up.f (fs := [⟨1, false, (tE (.bool false))⟩, ⟨1, false, (tE (.bool false))⟩]) (f := ⟨1, false, (tE (.bool false))⟩) (fs' := [⟨1, false, tB (decide ((cnxt a i (cday a b i j) : Nat) % 2 = (1 : Int)))⟩, ⟨1, false, (tE (.bool false))⟩]) 0 rfl rfl rfl, inferInstance, ⟨_, _, _, _, rfl, Up.f (fs := [⟨1, false, tB (decide ((cnxt a i (cday a b i j) : Nat) % 2 = (1 : Int)))⟩, ⟨1, false, (tE (.bool false))⟩]) (f := ⟨1, false, (tE (.bool false))⟩) (fs' := [⟨1, false, tB (decide ((cnxt a i (cday a b i j) : Nat) % 2 = (1 : Int)))⟩, ⟨1, false, tB (decide ((cnxt b j (cday a b i j) : Nat) % 2 = (1 : Int)))⟩]) 1 rfl rfl rfl, inferInstance, Le.refl⟩⟩) ⟨rfl, rfl, trivial⟩ trivial trivial rfl ?_
      obtain ⟨hkN, hkc, hnx, hadv⟩ := hCI.next ha hb hij
      refine wl_yield (ts := [tI (cday a b i j), tMem (decide ((cnxt a i (cday a b i j) : Nat) % 2 = (1 : Int))) (decide ((cnxt b j (cday a b i j) : Nat) % 2 = (1 : Int)))]) hB (wanted_none rfl) rfl rfl ⟨rfl, rfl, trivial⟩ rfl rfl hkN (ch_le hkc) ?_ ?_
      ·
       refine wl_op d_not ⟨rfl, trivial⟩ trivial trivial rfl ?_
       refine wl_nil ?_
       refine K_then ?_
       refine C_bF rfl rfl ?_
       refine C_skip ?_
       refine K_norB ?_
       exact K_fam ((k + 1, cnxt a i (cday a b i j), cnxt b j (cday a b i j))) ⟨(by dsimp only; exact hnx), (by dsimp only; have := hnx.1; have := hnx.2.1; omega)⟩ (Sub.int rfl (by first | omega | rfl | (dsimp only; omega)) (Sub.int rfl (by first | omega | rfl | (dsimp only; omega)) (Sub.cons rfl (Sub.cons rfl (Sub.cons rfl Sub.nil))))) ((SubK.consI rfl ImpK.refl) ((SubK.consI rfl ImpK.refl) ((SubK.consI rfl ImpK.refl) SubK.nil))) (SupG.val (SupG.val (SupG.own rfl (SupG.own rfl (SupG.val SupG.nil))))) (SupH.cons rfl (supJL rfl) (SupH.cons rfl (supJL rfl) (SupH.cons rfl (supJL rfl) SupH.nil))) (lkOk rfl)
      ·
       refine wl_op d_not ⟨rfl, trivial⟩ trivial trivial rfl ?_
       refine wl_nil ?_
       refine K_then ?_
       refine C_bT rfl rfl ?_
       refine C_ret ?_
       refine K_retB ?_
       refine K_retT ?_
       refine K_retB ?_
       exact E_it hB rfl trivial rfl (.inl rfl) rfl (.inr ⟨k, hkN, rfl⟩)
 ·
  refine RGon (decide_eq_false h66) rfl d_move rfl ⟨rfl, trivial⟩ trivial trivial ?_
  refine RGon (decide_eq_false h66) rfl (d_load (0) ti54 rfl rfl) rfl ⟨rfl, trivial⟩ ⟨rfl, trivial⟩ trivial ?_
  refine RGon (decide_eq_false h66) rfl (d_len Tryz.underlying54) rfl ⟨rfl, trivial⟩ trivial trivial ?_
  refine RGon (decide_eq_false h66) rfl (d_mul (wr64 (by omega) (by omega))) rfl ⟨rfl, rfl, trivial⟩ trivial trivial ?_
  refine RGon (decide_eq_false h66) rfl d_lss rfl ⟨rfl, rfl, trivial⟩ trivial trivial ?_
  refine R2 (d_pickF (decide_eq_false h66)) rfl rfl ?_
  refine R_nil (by kernel_rfl) ?_
  refine K_then ?_
  refine C_if rfl (fun h66_2 => ?_) (fun h66_2 => ?_)
  ·
   refine C_skip ?_
   refine K_then ?_
   refine C_block ?_
   refine C_seq ?_
   have hij : i < 2 * a.length ∨ j < 2 * b.length := by omega
   refine C_reg ?_
   refine R1 d_assign rfl ?_
   refine R_nil (by kernel_rfl) ?_
   refine K_then ?_
   refine C_join (fun (d1 : Int) => d1 = cday1 a i) (fun (d1 : Int) => upd (upd (upd (upd (upd (upd (fun _ => none) 0 (some (.val (tE (.func (.yield l) #[] #[]))))) 1 (some (.own (.ptr 1 0)))) 2 (some (.own (.ptr 2 0)))) 4 (some (.val (tI i)))) 5 (some (.val (tI j)))) 6 (some (.val (tI d1)))) (fun (d1 : Int) => upd (upd (upd (fun _ => none) 1 (some (⟨54, 1, false, [.val (tL 2 true tSn a)]⟩))) 2 (some (⟨54, 1, false, [.val (tL 2 true tSn b)]⟩))) 99 (some (⟨2 * k, 1, false, []⟩))) (nm [1, 2, 99]) ?_ ?_
   ·
    refine C_seq ?_
    refine C_reg ?_
    refine R1 d_move rfl ?_
    refine RE (d_load (0) ti54 rfl rfl) ⟨rfl, trivial⟩ ⟨rfl, trivial⟩ trivial ?_
    refine R1 (d_len Tryz.underlying54) rfl ?_
    refine R2 (d_mul (wr64 (by omega) (by omega))) rfl rfl ?_
    refine R2 d_lss rfl rfl ?_
    refine R_nil (by kernel_rfl) ?_
    refine K_then ?_
    refine C_if rfl (fun h68 => ?_) (fun h68 => ?_)
    ·
     refine C_reg ?_
     refine R1 d_move rfl ?_
     refine RE (d_load (0) ti54 rfl rfl) ⟨rfl, trivial⟩ ⟨rfl, trivial⟩ trivial ?_
     refine R1 d_move rfl ?_
     refine R2 (d_call (c_border a i (by omega) (by omega)) fi125 rfl) rfl rfl ?_
     refine R2 d_min2 rfl rfl ?_
     refine R1 d_assign rfl ?_
     refine R_nil (by kernel_rfl) ?_
     exact K_fam (min 65536 (bd a i)) (by rw [cday1, if_pos (by omega)]) (Sub.int rfl (by first | omega | rfl | (dsimp only; omega)) (Sub.int rfl (by first | omega | rfl | (dsimp only; omega)) (Sub.int rfl (by first | omega | rfl | (dsimp only; omega)) (Sub.cons rfl (Sub.cons rfl (Sub.cons rfl Sub.nil)))))) ((SubK.consI rfl ImpK.refl) ((SubK.consI rfl ImpK.refl) ((SubK.consI rfl ImpK.refl) SubK.nil))) (SupG.val (SupG.val (SupG.val (SupG.own rfl (SupG.own rfl (SupG.val SupG.nil)))))) (SupH.cons rfl (supJL rfl) (SupH.cons rfl (supJL rfl) (SupH.cons rfl (supJL rfl) SupH.nil))) (lkOk rfl)
    ·
     refine C_skip ?_
     exact K_fam (65536) (by rw [cday1, if_neg (by omega)]) (Sub.int rfl (by first | omega | rfl | (dsimp only; omega)) (Sub.int rfl (by first | omega | rfl | (dsimp only; omega)) (Sub.int rfl (by first | omega | rfl | (dsimp only; omega)) (Sub.cons rfl (Sub.cons rfl (Sub.cons rfl Sub.nil)))))) ((SubK.consI rfl ImpK.refl) ((SubK.consI rfl ImpK.refl) ((SubK.consI rfl ImpK.refl) SubK.nil))) (SupG.val (SupG.val (SupG.val (SupG.own rfl (SupG.own rfl (SupG.val SupG.nil)))))) (SupH.cons rfl (supJL rfl) (SupH.cons rfl (supJL rfl) (SupH.cons rfl (supJL rfl) SupH.nil))) (lkOk rfl)
   ·
    intro d1 hj68
    refine C_join (fun (d2 : Int) => d2 = (cday a b i j)) (fun (d2 : Int) => upd (upd (upd (upd (upd (upd (fun _ => none) 0 (some (.val (tE (.func (.yield l) #[] #[]))))) 1 (some (.own (.ptr 1 0)))) 2 (some (.own (.ptr 2 0)))) 4 (some (.val (tI i)))) 5 (some (.val (tI j)))) 6 (some (.val (tI d2)))) (fun (d2 : Int) => upd (upd (upd (fun _ => none) 1 (some (⟨54, 1, false, [.val (tL 2 true tSn a)]⟩))) 2 (some (⟨54, 1, false, [.val (tL 2 true tSn b)]⟩))) 99 (some (⟨2 * k, 1, false, []⟩))) (nm [1, 2, 99]) ?_ ?_
    ·
     refine C_seq ?_
     refine C_reg ?_
     refine R1 d_move rfl ?_
     refine RE (d_load (0) ti54 rfl rfl) ⟨rfl, trivial⟩ ⟨rfl, trivial⟩ trivial ?_
     refine R1 (d_len Tryz.underlying54) rfl ?_
     refine R2 (d_mul (wr64 (by omega) (by omega))) rfl rfl ?_
     refine R2 d_lss rfl rfl ?_
     refine R_nil (by kernel_rfl) ?_
     refine K_then ?_
     refine C_if rfl (fun h71 => ?_) (fun h71 => ?_)
     ·
      refine C_reg ?_
      refine R1 d_move rfl ?_
      refine RE (d_load (0) ti54 rfl rfl) ⟨rfl, trivial⟩ ⟨rfl, trivial⟩ trivial ?_
      refine R1 d_move rfl ?_
      refine R2 (d_call (c_border b j (by omega) (by omega)) fi125 rfl) rfl rfl ?_
      refine R2 d_min2 rfl rfl ?_
      refine R1 d_assign rfl ?_
      refine R_nil (by kernel_rfl) ?_
      exact K_fam (min d1 (bd b j)) (by rw [cday, if_pos (by omega), ← hj68]) (Sub.int rfl (by first | omega | rfl | (dsimp only; omega)) (Sub.int rfl (by first | omega | rfl | (dsimp only; omega)) (Sub.int rfl (by first | omega | rfl | (dsimp only; omega)) (Sub.cons rfl (Sub.cons rfl (Sub.cons rfl Sub.nil)))))) ((SubK.consI rfl ImpK.refl) ((SubK.consI rfl ImpK.refl) ((SubK.consI rfl ImpK.refl) SubK.nil))) (SupG.val (SupG.val (SupG.val (SupG.own rfl (SupG.own rfl (SupG.val SupG.nil)))))) (SupH.cons rfl (supJL rfl) (SupH.cons rfl (supJL rfl) (SupH.cons rfl (supJL rfl) SupH.nil))) (lkOk rfl)
     ·
      refine C_skip ?_
      exact K_fam (d1) (by rw [cday, if_neg (by omega), ← hj68]) (Sub.int rfl (by first | omega | rfl | (dsimp only; omega)) (Sub.int rfl (by first | omega | rfl | (dsimp only; omega)) (Sub.int rfl (by first | omega | rfl | (dsimp only; omega)) (Sub.cons rfl (Sub.cons rfl (Sub.cons rfl Sub.nil)))))) ((SubK.consI rfl ImpK.refl) ((SubK.consI rfl ImpK.refl) ((SubK.consI rfl ImpK.refl) SubK.nil))) (SupG.val (SupG.val (SupG.val (SupG.own rfl (SupG.own rfl (SupG.val SupG.nil)))))) (SupH.cons rfl (supJL rfl) (SupH.cons rfl (supJL rfl) (SupH.cons rfl (supJL rfl) SupH.nil))) (lkOk rfl)
    ·
     intro d2 hj71
     subst hj71
     refine C_join (fun (i2 : Nat) => i2 = cnxt a i (cday a b i j)) (fun (i2 : Nat) => upd (upd (upd (upd (upd (upd (fun _ => none) 0 (some (.val (tE (.func (.yield l) #[] #[]))))) 1 (some (.own (.ptr 1 0)))) 2 (some (.own (.ptr 2 0)))) 4 (some (.val (tI i2)))) 5 (some (.val (tI j)))) 6 (some (.val (tI (cday a b i j))))) (fun (i2 : Nat) => upd (upd (upd (fun _ => none) 1 (some (⟨54, 1, false, [.val (tL 2 true tSn a)]⟩))) 2 (some (⟨54, 1, false, [.val (tL 2 true tSn b)]⟩))) 99 (some (⟨2 * k, 1, false, []⟩))) (nm [1, 2, 99]) ?_ ?_
     ·
      refine C_seq ?_
      refine C_reg ?_
      refine R1 d_move rfl ?_
      refine RE (d_load (0) ti54 rfl rfl) ⟨rfl, trivial⟩ ⟨rfl, trivial⟩ trivial ?_
      refine R1 (d_len Tryz.underlying54) rfl ?_
      refine R2 (d_mul (wr64 (by omega) (by omega))) rfl rfl ?_
      refine R2 d_lss rfl rfl ?_
      refine R1 d_move rfl ?_
      refine RGcaseD (t := 44) rfl (fun h74 => ?_) (fun h74 => ?_)
      ·
       refine RGon (decide_eq_true h74) rfl (d_load (0) ti54 rfl rfl) rfl ⟨rfl, trivial⟩ ⟨rfl, trivial⟩ trivial ?_
       refine RGon (decide_eq_true h74) rfl d_move rfl ⟨rfl, trivial⟩ trivial trivial ?_
       refine RGon (decide_eq_true h74) rfl (d_call (c_border a i (by omega) (by omega)) fi125 rfl) rfl ⟨rfl, rfl, trivial⟩ trivial trivial ?_
       refine RGon (decide_eq_true h74) rfl d_move rfl ⟨rfl, trivial⟩ trivial trivial ?_
       refine RGon (decide_eq_true h74) rfl d_eql rfl ⟨rfl, rfl, trivial⟩ trivial trivial ?_
       refine R2 (d_pickT (decide_eq_true h74)) rfl rfl ?_
       refine R_nil (by kernel_rfl) ?_
       refine K_then ?_
       refine C_if rfl (fun h74_2 => ?_) (fun h74_2 => ?_)
       ·
        refine C_reg ?_
        refine R1 d_move rfl ?_
        refine R2 (d_add (wr64 (by omega) (by omega))) rfl rfl ?_
        refine R1 d_assign rfl ?_
        refine R_nil (by kernel_rfl) ?_
        exact K_fam (i + 1) (by rw [cnxt, if_pos ⟨by omega, h74_2⟩]) (Sub.int rfl (by first | omega | rfl | (dsimp only; omega)) (Sub.int rfl (by first | omega | rfl | (dsimp only; omega)) (Sub.int rfl (by first | omega | rfl | (dsimp only; omega)) (Sub.cons rfl (Sub.cons rfl (Sub.cons rfl Sub.nil)))))) ((SubK.consI rfl ImpK.refl) ((SubK.consI rfl ImpK.refl) ((SubK.consI rfl ImpK.refl) SubK.nil))) (SupG.val (SupG.val (SupG.val (SupG.own rfl (SupG.own rfl (SupG.val SupG.nil)))))) (SupH.cons rfl (supJL rfl) (SupH.cons rfl (supJL rfl) (SupH.cons rfl (supJL rfl) SupH.nil))) (lkOk rfl)
       ·
        refine C_skip ?_
        exact K_fam (i) (by rw [cnxt, if_neg (fun h => h74_2 h.2)]) (Sub.int rfl (by first | omega | rfl | (dsimp only; omega)) (Sub.int rfl (by first | omega | rfl | (dsimp only; omega)) (Sub.int rfl (by first | omega | rfl | (dsimp only; omega)) (Sub.cons rfl (Sub.cons rfl (Sub.cons rfl Sub.nil)))))) ((SubK.consI rfl ImpK.refl) ((SubK.consI rfl ImpK.refl) ((SubK.consI rfl ImpK.refl) SubK.nil))) (SupG.val (SupG.val (SupG.val (SupG.own rfl (SupG.own rfl (SupG.val SupG.nil)))))) (SupH.cons rfl (supJL rfl) (SupH.cons rfl (supJL rfl) (SupH.cons rfl (supJL rfl) SupH.nil))) (lkOk rfl)
      ·
       refine RGoff (decide_eq_false h74) rfl rfl ?_
       refine RGoff (decide_eq_false h74) rfl rfl ?_
       refine RGoff (decide_eq_false h74) rfl rfl ?_
       refine RGoff (decide_eq_false h74) rfl rfl ?_
       refine RGoff (decide_eq_false h74) rfl rfl ?_
       refine R2 (d_pickF (decide_eq_false h74)) rfl rfl ?_
       refine R_nil (by kernel_rfl) ?_
       refine K_then ?_
       refine C_bF rfl rfl ?_
       refine C_skip ?_
       exact K_fam (i) (by rw [cnxt, if_neg (fun h => by have := h.1; omega)]) (Sub.int rfl (by first | omega | rfl | (dsimp only; omega)) (Sub.int rfl (by first | omega | rfl | (dsimp only; omega)) (Sub.int rfl (by first | omega | rfl | (dsimp only; omega)) (Sub.cons rfl (Sub.cons rfl (Sub.cons rfl Sub.nil)))))) ((SubK.consI rfl ImpK.refl) ((SubK.consI rfl ImpK.refl) ((SubK.consI rfl ImpK.refl) SubK.nil))) (SupG.val (SupG.val (SupG.val (SupG.own rfl (SupG.own rfl (SupG.val SupG.nil)))))) (SupH.cons rfl (supJL rfl) (SupH.cons rfl (supJL rfl) (SupH.cons rfl (supJL rfl) SupH.nil))) (lkOk rfl)
     ·
      intro i2 hj74
      subst hj74
      refine C_join (fun (j2 : Nat) => j2 = cnxt b j (cday a b i j)) (fun (j2 : Nat) => upd (upd (upd (upd (upd (upd (fun _ => none) 0 (some (.val (tE (.func (.yield l) #[] #[]))))) 1 (some (.own (.ptr 1 0)))) 2 (some (.own (.ptr 2 0)))) 4 (some (.val (tI (cnxt a i (cday a b i j) : Nat))))) 5 (some (.val (tI j2)))) 6 (some (.val (tI (cday a b i j))))) (fun (j2 : Nat) => upd (upd (upd (fun _ => none) 1 (some (⟨54, 1, false, [.val (tL 2 true tSn a)]⟩))) 2 (some (⟨54, 1, false, [.val (tL 2 true tSn b)]⟩))) 99 (some (⟨2 * k, 1, false, []⟩))) (nm [1, 2, 99]) ?_ ?_
      ·
       refine C_seq ?_
       refine C_reg ?_
       refine R1 d_move rfl ?_
       refine RE (d_load (0) ti54 rfl rfl) ⟨rfl, trivial⟩ ⟨rfl, trivial⟩ trivial ?_
       refine R1 (d_len Tryz.underlying54) rfl ?_
       refine R2 (d_mul (wr64 (by omega) (by omega))) rfl rfl ?_
       refine R2 d_lss rfl rfl ?_
       refine R1 d_move rfl ?_
       refine RGcaseD (t := 58) rfl (fun h77 => ?_) (fun h77 => ?_)
       ·
        refine RGon (decide_eq_true h77) rfl (d_load (0) ti54 rfl rfl) rfl ⟨rfl, trivial⟩ ⟨rfl, trivial⟩ trivial ?_
        refine RGon (decide_eq_true h77) rfl d_move rfl ⟨rfl, trivial⟩ trivial trivial ?_
        refine RGon (decide_eq_true h77) rfl (d_call (c_border b j (by omega) (by omega)) fi125 rfl) rfl ⟨rfl, rfl, trivial⟩ trivial trivial ?_
        refine RGon (decide_eq_true h77) rfl d_move rfl ⟨rfl, trivial⟩ trivial trivial ?_
        refine RGon (decide_eq_true h77) rfl d_eql rfl ⟨rfl, rfl, trivial⟩ trivial trivial ?_
        refine R2 (d_pickT (decide_eq_true h77)) rfl rfl ?_
        refine R_nil (by kernel_rfl) ?_
        refine K_then ?_
        refine C_if rfl (fun h77_2 => ?_) (fun h77_2 => ?_)
        ·
         refine C_reg ?_
         refine R1 d_move rfl ?_
         refine R2 (d_add (wr64 (by omega) (by omega))) rfl rfl ?_
         refine R1 d_assign rfl ?_
         refine R_nil (by kernel_rfl) ?_
         exact K_fam (j + 1) (by rw [cnxt, if_pos ⟨by omega, h77_2⟩]) (Sub.int rfl (by first | omega | rfl | (dsimp only; omega)) (Sub.int rfl (by first | omega | rfl | (dsimp only; omega)) (Sub.int rfl (by first | omega | rfl | (dsimp only; omega)) (Sub.cons rfl (Sub.cons rfl (Sub.cons rfl Sub.nil)))))) ((SubK.consI rfl ImpK.refl) ((SubK.consI rfl ImpK.refl) ((SubK.consI rfl ImpK.refl) SubK.nil))) (SupG.val (SupG.val (SupG.val (SupG.own rfl (SupG.own rfl (SupG.val SupG.nil)))))) (SupH.cons rfl (supJL rfl) (SupH.cons rfl (supJL rfl) (SupH.cons rfl (supJL rfl) SupH.nil))) (lkOk rfl)
        ·
         refine C_skip ?_
         exact K_fam (j) (by rw [cnxt, if_neg (fun h => h77_2 h.2)]) (Sub.int rfl (by first | omega | rfl | (dsimp only; omega)) (Sub.int rfl (by first | omega | rfl | (dsimp only; omega)) (Sub.int rfl (by first | omega | rfl | (dsimp only; omega)) (Sub.cons rfl (Sub.cons rfl (Sub.cons rfl Sub.nil)))))) ((SubK.consI rfl ImpK.refl) ((SubK.consI rfl ImpK.refl) ((SubK.consI rfl ImpK.refl) SubK.nil))) (SupG.val (SupG.val (SupG.val (SupG.own rfl (SupG.own rfl (SupG.val SupG.nil)))))) (SupH.cons rfl (supJL rfl) (SupH.cons rfl (supJL rfl) (SupH.cons rfl (supJL rfl) SupH.nil))) (lkOk rfl)
       ·
        refine RGoff (decide_eq_false h77) rfl rfl ?_
        refine RGoff (decide_eq_false h77) rfl rfl ?_
        refine RGoff (decide_eq_false h77) rfl rfl ?_
        refine RGoff (decide_eq_false h77) rfl rfl ?_
        refine RGoff (decide_eq_false h77) rfl rfl ?_
        refine R2 (d_pickF (decide_eq_false h77)) rfl rfl ?_
        refine R_nil (by kernel_rfl) ?_
        refine K_then ?_
        refine C_bF rfl rfl ?_
        refine C_skip ?_
        exact K_fam (j) (by rw [cnxt, if_neg (fun h => by have := h.1; omega)]) (Sub.int rfl (by first | omega | rfl | (dsimp only; omega)) (Sub.int rfl (by first | omega | rfl | (dsimp only; omega)) (Sub.int rfl (by first | omega | rfl | (dsimp only; omega)) (Sub.cons rfl (Sub.cons rfl (Sub.cons rfl Sub.nil)))))) ((SubK.consI rfl ImpK.refl) ((SubK.consI rfl ImpK.refl) ((SubK.consI rfl ImpK.refl) SubK.nil))) (SupG.val (SupG.val (SupG.val (SupG.own rfl (SupG.own rfl (SupG.val SupG.nil)))))) (SupH.cons rfl (supJL rfl) (SupH.cons rfl (supJL rfl) (SupH.cons rfl (supJL rfl) SupH.nil))) (lkOk rfl)
      ·
       intro j2 hj77
       subst hj77
       refine C_seq ?_
       refine C_regY ?_
       refine wl_op d_move ⟨rfl, trivial⟩ trivial trivial rfl ?_
       refine wl_op d_move ⟨rfl, trivial⟩ trivial trivial rfl ?_
       refine wl_op d_move ⟨rfl, trivial⟩ trivial trivial rfl ?_
       refine wl_op (d_remP (by omega) (by omega)) ⟨rfl, rfl, trivial⟩ trivial trivial rfl ?_
       refine wl_op d_eql ⟨rfl, rfl, trivial⟩ trivial trivial rfl ?_
       refine wl_op d_move ⟨rfl, trivial⟩ trivial trivial rfl ?_
       refine wl_op (d_remP (by omega) (by omega)) ⟨rfl, rfl, trivial⟩ trivial trivial rfl ?_
       refine wl_op d_eql ⟨rfl, rfl, trivial⟩ trivial trivial rfl ?_
       refine wl_op (d_build (r := tS [⟨1, false, tB (decide ((cnxt a i (cday a b i j) : Nat) % 2 = (1 : Int)))⟩, ⟨1, false, tB (decide ((cnxt b j (cday a b i j) : Nat) % 2 = (1 : Int)))⟩]) (ts := [(0, tB (decide ((cnxt a i (cday a b i j) : Nat) % 2 = (1 : Int)))), (1, tB (decide ((cnxt b j (cday a b i j) : Nat) % 2 = (1 : Int))))]) bu100 zr100.2 ⟨_, rfl⟩ rfl ⟨_, _, _, _, rfl, Up.f (fs := [⟨1, false, (tE (.bool false))⟩, ⟨1, false, (tE (.bool false))⟩]) (f := ⟨1, false, (tE (.bool false))⟩) (fs' := [⟨1, false, tB (decide ((cnxt a i (cday a b i j) : Nat) % 2 = (1 : Int)))⟩, ⟨1, false, (tE (.bool false))⟩]) 0 rfl rfl rfl, inferInstance, ⟨_, _, _, _, rfl, Up.f (fs := [⟨1, false, tB (decide ((cnxt a i (cday a b i j) : Nat) % 2 = (1 : Int)))⟩, ⟨1, false, (tE (.bool false))⟩]) (f := ⟨1, false, (tE (.bool false))⟩) (fs' := [⟨1, false, tB (decide ((cnxt a i (cday a b i j) : Nat) % 2 = (1 : Int)))⟩, ⟨1, false, tB (decide ((cnxt b j (cday a b i j) : Nat) % 2 = (1 : Int)))⟩]) 1 rfl rfl rfl, inferInstance, Le.refl⟩⟩) ⟨rfl, rfl, trivial⟩ trivial trivial rfl ?_
       obtain ⟨hkN, hkc, hnx, hadv⟩ := hCI.next ha hb hij
       refine wl_yield (ts := [tI (cday a b i j), tMem (decide ((cnxt a i (cday a b i j) : Nat) % 2 = (1 : Int))) (decide ((cnxt b j (cday a b i j) : Nat) % 2 = (1 : Int)))]) hB (wanted_none rfl) rfl rfl ⟨rfl, rfl, trivial⟩ rfl rfl hkN (ch_le hkc) ?_ ?_
       ·
        refine wl_op d_not ⟨rfl, trivial⟩ trivial trivial rfl ?_
        refine wl_nil ?_
        refine K_then ?_
        refine C_bF rfl rfl ?_
        refine C_skip ?_
        refine K_norB ?_
        exact K_fam ((k + 1, cnxt a i (cday a b i j), cnxt b j (cday a b i j))) ⟨(by dsimp only; exact hnx), (by dsimp only; have := hnx.1; have := hnx.2.1; omega)⟩ (Sub.int rfl (by first | omega | rfl | (dsimp only; omega)) (Sub.int rfl (by first | omega | rfl | (dsimp only; omega)) (Sub.cons rfl (Sub.cons rfl (Sub.cons rfl Sub.nil))))) ((SubK.consI rfl ImpK.refl) ((SubK.consI rfl ImpK.refl) ((SubK.consI rfl ImpK.refl) SubK.nil))) (SupG.val (SupG.val (SupG.own rfl (SupG.own rfl (SupG.val SupG.nil))))) (SupH.cons rfl (supJL rfl) (SupH.cons rfl (supJL rfl) (SupH.cons rfl (supJL rfl) SupH.nil))) (lkOk rfl)
       ·
        refine wl_op d_not ⟨rfl, trivial⟩ trivial trivial rfl ?_
        refine wl_nil ?_
        refine K_then ?_
        refine C_bT rfl rfl ?_
        refine C_ret ?_
        refine K_retB ?_
        refine K_retT ?_
        refine K_retB ?_
        exact E_it hB rfl trivial rfl (.inl rfl) rfl (.inr ⟨k, hkN, rfl⟩)
  ·
   refine C_exit ?_
   refine K_exT ?_
   refine K_exT ?_
   refine K_exB ?_
   exact E_it hB rfl trivial rfl (.inr rfl) rfl (.inl (by have := hCI.stop (by omega); have h2 := hCI.2.2.1; rw [show k = (chAll a b).length by omega]))
theorem c_choose (a b : List Sn) (fk : Nat) (kp : Bool → Bool → Bool) (hfk : FnI Tryz.prog fk) (hkp : ∀ x y, Ct Tryz.prog fk [tMem x y] (tB (kp x y))) (hla : a.length ≤ 100000) (hlb : b.length ≤ 100000) :
  Ct Tryz.prog 66 [tL 2 true tSn a, tL 2 true tSn b, tE (.func (.func fk) #[] #[])] (tT [tL 2 true tSn (if sVal a = true ∧ sVal b = true then (ckRun kp a b).xs else []), tI (if sVal a = true ∧ sVal b = true then 0 else 2)]) := by
 refine Ct.intro Tryz.func66 rfl Tryz.ntmps66 rfl ?_
 intro w F
 refine C_seq ?_
 refine C_reg ?_
 refine RE (d_box (k := 5) ti101 rfl) ⟨rfl, trivial⟩ trivial ⟨rfl, trivial⟩ ?_
 refine R1 d_assign rfl ?_
 refine R1 d_assign rfl ?_
 refine R_nil (by kernel_rfl) ?_
 refine K_then ?_
 refine C_seq ?_
 refine C_seq ?_
 refine C_reg ?_
 refine R1 d_move rfl ?_
 refine R1 (d_call (c_SValid a) fi28 rfl) rfl ?_
 refine R1 d_not rfl ?_
 refine R1 d_move rfl ?_
 refine RGcase (t := 17) rfl (fun h89 => ?_) (fun h89 => ?_)
 ·
  refine RGoff h89 rfl rfl ?_
  refine RGoff h89 rfl rfl ?_
  refine RGoff h89 rfl rfl ?_
  refine R2 (d_pickT h89) rfl rfl ?_
  refine R_nil (by kernel_rfl) ?_
  refine K_then ?_
  refine C_bT rfl rfl ?_
  refine C_seq ?_
  refine C_reg ?_
  refine R1 d_assign rfl ?_
  refine R1 d_assign rfl ?_
  refine R_nil (by kernel_rfl) ?_
  refine K_then ?_
  refine C_ret ?_
  refine K_retT ?_
  exact E_ret2 Plain.mk' rfl rfl rfl (leNil (by rw [if_neg (fun h => by rw [h.1] at h89; cases h89)])) (Le.int (by rw [if_neg (fun h => by rw [h.1] at h89; cases h89)]))
 ·
  refine RGon h89 rfl d_move rfl ⟨rfl, trivial⟩ trivial trivial ?_
  refine RGon h89 rfl (d_call (c_SValid b) fi28 rfl) rfl ⟨rfl, trivial⟩ trivial trivial ?_
  refine RGon h89 rfl d_not rfl ⟨rfl, trivial⟩ trivial trivial ?_
  refine R2 (d_pickF h89) rfl rfl ?_
  refine R_nil (by kernel_rfl) ?_
  refine K_then ?_
  refine C_cond rfl (fun h89_2 => ?_) (fun h89_2 => ?_)
  ·
   refine C_seq ?_
   refine C_reg ?_
   refine R1 d_assign rfl ?_
   refine R1 d_assign rfl ?_
   refine R_nil (by kernel_rfl) ?_
   refine K_then ?_
   refine C_ret ?_
   refine K_retT ?_
   exact E_ret2 Plain.mk' rfl rfl rfl (leNil (by rw [if_neg (fun h => by rw [h.2] at h89_2; cases h89_2)])) (Le.int (by rw [if_neg (fun h => by rw [h.2] at h89_2; cases h89_2)]))
  ·
   refine C_skip ?_
   refine K_then ?_
   refine C_seq ?_
   refine C_reg ?_
   refine RE (d_alloc (k := 8) (n := 1) (agg := false) zr54.1 zr54.2 rfl) trivial trivial ⟨rfl, trivial⟩ ?_
   refine R_nil (by kernel_rfl) ?_
   refine K_then ?_
   refine C_seq ?_
   refine C_reg ?_
   refine RE (d_alloc (k := 9) (n := 1) (agg := false) zr3.1 zr3.2 rfl) trivial trivial ⟨rfl, trivial⟩ ?_
   refine RE (d_alloc (k := 10) (n := 1) (agg := false) zr4.1 zr4.2 rfl) trivial trivial ⟨rfl, trivial⟩ ?_
   refine RE (d_store (es := 1) (agg := false) (0) ti3 rfl rfl rfl) ⟨rfl, rfl, trivial⟩ ⟨rfl, trivial⟩ trivial ?_
   refine RE (d_store (es := 1) (agg := false) (0) ti4 rfl rfl rfl) ⟨rfl, rfl, trivial⟩ ⟨rfl, trivial⟩ trivial ?_
   refine R_nil (by kernel_rfl) ?_
   refine K_then ?_
   refine C_seq ?_
   refine C_seq ?_
   have hok : sVal a = true ∧ sVal b = true := ⟨by simpa using h89, by simpa using h89_2⟩
   refine C_nilC (q := 8) 60 69 2 true 0 rfl rfl rfl rfl (fun h => by cases h) rfl rfl ?_
   refine C_reg ?_
   refine R1 d_move rfl ?_
   refine R1 d_move rfl ?_
   refine RE (d_callGX (fun j => cond (Nat.beq j 2) 24 (1024)) (c_changes a b) fi98 rfl (krN (ρ := fun j => cond (Nat.beq j 2) 24 (1024))) (krC (ρ := fun j => cond (Nat.beq j 2) 24 (1024)) (k := 2) rfl (krC (ρ := fun j => cond (Nat.beq j 2) 24 (1024)) (k := 3) rfl (krN (ρ := fun j => cond (Nat.beq j 2) 24 (1024))))) ⟨⟨rfl, (SupX.lit rfl)⟩, ⟨rfl, (SupX.lit rfl)⟩, trivial⟩ rfl) ⟨rfl, rfl, trivial⟩ trivial ⟨rfl, rfl, trivial⟩ ?_
   refine R_nil (by kernel_rfl) ?_
   refine K_then ?_
   refine C_block ?_
   refine C_range (caps := [.ptr 1 0, .ptr 2 0]) (κ := Empty) (fun j => cond (Nat.beq j 2) 1024 (cond (Nat.beq j 1) 24 (j))) rfl (fun _ h => h) trivial (i_changes a b hok.1 hok.2 (by omega) (by omega)) fi124 rfl ⟨rfl, rfl, trivial⟩ rfl rfl (fun _ _ => rfl) (upd (upd (upd (upd (fun _ => none) 5 (some (.own (.ptr 5 0)))) 8 (some (.own (.ptr 8 0)))) 9 (some (.own (.ptr 9 0)))) 10 (some (.own (.ptr 10 0)))) [5, 8, 9, 10, 60] [5, 8, 9, 10] (Sub.cons rfl (Sub.cons rfl (Sub.cons rfl (Sub.cons rfl Sub.nil)))) (SupG.own rfl (SupG.own rfl (SupG.own rfl (SupG.own rfl SupG.nil)))) rfl (lkOk rfl) (fun (k : Nat) (s : Ck) => ((chAll a b).drop k).foldl (ck1 kp) s = (ckRun kp a b) ∧ s.xs.length ≤ k) (fun (k : Nat) (s : Ck) => upd (upd (upd (upd (upd (fun _ => none) 5 (some (⟨101, 1, false, [.val (tE (.func (.func fk) #[] #[]))]⟩))) 8 (some (⟨54, 1, false, [.own (.sl 60 2 0 s.xs.length)]⟩))) 9 (some (⟨3, 1, false, [.val (tI s.lo)]⟩))) 10 (some (⟨4, 1, false, [.val (tB s.ins)]⟩))) 60 (some (⟨69, 2, true, rV tSn s.xs⟩))) (fun k x => (SupH.cons rfl (supJ sup_rV) (SupH.cons rfl (supJL rfl) (SupH.cons rfl (supJL rfl) (SupH.cons rfl (supJL rfl) (SupH.cons rfl (supJL rfl) SupH.nil)))))) (fun k x y hy => by simp only [List.mem_cons, List.not_mem_nil, or_false] at hy; rcases hy with rfl | rfl <;> rfl) (fun _ _ => False) (fun i => i.elim) (fun _ _ h => h.elim) (⟨[], 0, false⟩) ⟨rfl, Nat.le_refl _⟩ ((SubK.consI rfl ImpK.refl) ((SubK.consI rfl ImpK.refl) ((SubK.consI rfl ImpK.refl) ((SubK.consI rfl ImpK.refl) ((SubK.consI rfl ImpK.refl) SubK.nil))))) ?_ ?_ ?_
   ·
    intro D lp o1 o2 O W lη lb V0 k s hk hI
    obtain ⟨hrun, hxl⟩ := hI
    have hN := chAll_len (a := a) (b := b)
    apply rnd_mk
    ·
     refine C_seq ?_
     refine C_reg ?_
     refine R1 d_assign rfl ?_
     refine R_nil (by kernel_rfl) ?_
     refine K_then ?_
     refine C_reg ?_
     refine RE (d_alloc (k := 12) (n := 2) (agg := true) zr100.1 zr100.2 rfl) trivial trivial ⟨rfl, trivial⟩ ?_
     refine RE (d_store (es := 2) (agg := true) (0) ti100 rfl rfl rfl) ⟨rfl, rfl, trivial⟩ ⟨rfl, trivial⟩ trivial ?_
     refine R_nil (by kernel_rfl) ?_
     exact K_thenF fun _ _ h => h
    ·
     refine C_block ?_
     refine C_seq ?_
     refine C_reg ?_
     refine RE (d_load (0) ti101 rfl rfl) ⟨rfl, trivial⟩ ⟨rfl, trivial⟩ trivial ?_
     refine RE (d_load (0) ti100 rfl rfl) ⟨rfl, trivial⟩ ⟨rfl, trivial⟩ trivial ?_
     refine R2 (d_callF (hkp _ _) hfk rfl) rfl rfl ?_
     refine R1 d_assign rfl ?_
     refine R_nil (by kernel_rfl) ?_
     refine K_then ?_
     refine C_join (fun (f1 : Int) => f1 = (if (kp (((chAll a b).getD k ch0).2.1 % 2 == 1) (((chAll a b).getD k ch0).2.2 % 2 == 1)) && !s.ins then ((chAll a b).getD k ch0).1 else s.lo)) (fun (f1 : Int) => upd (upd (upd (upd (upd (upd (fun _ => none) 5 (some (.own (.ptr 5 0)))) 8 (some (.own (.ptr 8 0)))) 9 (some (.own (.ptr 9 0)))) 10 (some (.own (.ptr 10 0)))) 11 (some (.val (tI ((chAll a b).getD k ch0).1)))) 13 (some (.val (tB (kp (((chAll a b).getD k ch0).2.1 % 2 == 1) (((chAll a b).getD k ch0).2.2 % 2 == 1)))))) (fun (f1 : Int) => upd (upd (upd (upd (upd (fun _ => none) 5 (some (⟨101, 1, false, [.val (tE (.func (.func fk) #[] #[]))]⟩))) 8 (some (⟨54, 1, false, [.own (.sl 60 2 0 s.xs.length)]⟩))) 9 (some (⟨3, 1, false, [.val (tI f1)]⟩))) 10 (some (⟨4, 1, false, [.val (tB s.ins)]⟩))) 60 (some (⟨69, 2, true, rV tSn s.xs⟩))) (nm [5, 8, 9, 10, 60]) ?_ ?_
     ·
      refine C_seq ?_
      refine C_reg ?_
      refine R1 d_move rfl ?_
      refine R1 d_move rfl ?_
      refine RGcase (t := 31) rfl (fun h96 => ?_) (fun h96 => ?_)
      ·
       refine RGon h96 rfl (d_load (0) ti4 rfl rfl) rfl ⟨rfl, trivial⟩ ⟨rfl, trivial⟩ trivial ?_
       refine RGon h96 rfl d_not rfl ⟨rfl, trivial⟩ trivial trivial ?_
       refine R2 (d_pickT h96) rfl rfl ?_
       refine R_nil (by kernel_rfl) ?_
       refine K_then ?_
       refine C_cond rfl (fun h96_2 => ?_) (fun h96_2 => ?_)
       ·
        refine C_reg ?_
        refine R1 d_move rfl ?_
        refine RE (d_store (es := 1) (agg := false) (0) ti3 rfl rfl rfl) ⟨rfl, rfl, trivial⟩ ⟨rfl, trivial⟩ trivial ?_
        refine R_nil (by kernel_rfl) ?_
        exact K_fam (((chAll a b).getD k ch0).1) (by rw [h96, show s.ins = false by simpa using h96_2]; rfl) (Sub.cons rfl (Sub.int rfl (by first | omega | rfl | (dsimp only; omega)) (Sub.cons rfl (Sub.cons rfl (Sub.cons rfl (Sub.cons rfl Sub.nil)))))) ((SubK.consI rfl ImpK.refl) ((SubK.consI rfl ImpK.refl) ((SubK.consI rfl ImpK.refl) ((SubK.consI rfl ImpK.refl) ((SubK.consI rfl ImpK.refl) SubK.nil))))) (SupG.val (SupG.val (SupG.own rfl (SupG.own rfl (SupG.own rfl (SupG.own rfl SupG.nil)))))) (SupH.cons rfl (supJ sup_rV) (SupH.cons rfl (supJL rfl) (SupH.cons rfl (supJL rfl) (SupH.cons rfl (supJL rfl) (SupH.cons rfl (supJL rfl) SupH.nil))))) (lkOk rfl)
       ·
        refine C_skip ?_
        exact K_fam (s.lo) (by rw [h96, show s.ins = true by simpa using h96_2]; rfl) (Sub.cons rfl (Sub.int rfl (by first | omega | rfl | (dsimp only; omega)) (Sub.cons rfl (Sub.cons rfl (Sub.cons rfl (Sub.cons rfl Sub.nil)))))) ((SubK.consI rfl ImpK.refl) ((SubK.consI rfl ImpK.refl) ((SubK.consI rfl ImpK.refl) ((SubK.consI rfl ImpK.refl) ((SubK.consI rfl ImpK.refl) SubK.nil))))) (SupG.val (SupG.val (SupG.own rfl (SupG.own rfl (SupG.own rfl (SupG.own rfl SupG.nil)))))) (SupH.cons rfl (supJ sup_rV) (SupH.cons rfl (supJL rfl) (SupH.cons rfl (supJL rfl) (SupH.cons rfl (supJL rfl) (SupH.cons rfl (supJL rfl) SupH.nil))))) (lkOk rfl)
      ·
       refine RGoff h96 rfl rfl ?_
       refine RGoff h96 rfl rfl ?_
       refine R2 (d_pickF h96) rfl rfl ?_
       refine R_nil (by kernel_rfl) ?_
       refine K_then ?_
       refine C_bF rfl rfl ?_
       refine C_skip ?_
       exact K_fam (s.lo) (by rw [h96]; rfl) (Sub.cons rfl (Sub.int rfl (by first | omega | rfl | (dsimp only; omega)) (Sub.cons rfl (Sub.cons rfl (Sub.cons rfl (Sub.cons rfl Sub.nil)))))) ((SubK.consI rfl ImpK.refl) ((SubK.consI rfl ImpK.refl) ((SubK.consI rfl ImpK.refl) ((SubK.consI rfl ImpK.refl) ((SubK.consI rfl ImpK.refl) SubK.nil))))) (SupG.val (SupG.val (SupG.own rfl (SupG.own rfl (SupG.own rfl (SupG.own rfl SupG.nil)))))) (SupH.cons rfl (supJ sup_rV) (SupH.cons rfl (supJL rfl) (SupH.cons rfl (supJL rfl) (SupH.cons rfl (supJL rfl) (SupH.cons rfl (supJL rfl) SupH.nil))))) (lkOk rfl)
     ·
      intro f1 hf1
      refine C_seq ?_
      refine C_seq ?_
      refine C_reg ?_
      refine RE (d_load (0) ti4 rfl rfl) ⟨rfl, trivial⟩ ⟨rfl, trivial⟩ trivial ?_
      refine R1 d_move rfl ?_
      refine RGcase (t := 37) rfl (fun h99 => ?_) (fun h99 => ?_)
      ·
       refine RGon h99 rfl d_move rfl ⟨rfl, trivial⟩ trivial trivial ?_
       refine RGon h99 rfl d_not rfl ⟨rfl, trivial⟩ trivial trivial ?_
       refine R2 (d_pickT h99) rfl rfl ?_
       refine R_nil (by kernel_rfl) ?_
       refine K_then ?_
       refine C_cond rfl (fun h99_2 => ?_) (fun h99_2 => ?_)
       ·
        refine C_reg ?_
        refine RE (d_load (ts := [.own (.sl 60 2 0 s.xs.length)]) (0) ti54 rfl rfl) ⟨rfl, trivial⟩ ⟨rfl, trivial⟩ trivial ?_
        refine RE (d_load (0) ti3 rfl rfl) ⟨rfl, trivial⟩ ⟨rfl, trivial⟩ trivial ?_
        refine R1 d_move rfl ?_
        refine R2 (d_build (r := tS [⟨1, false, tI f1⟩, ⟨1, false, tI ((chAll a b).getD k ch0).1⟩]) (ts := [(0, tI f1), (1, tI ((chAll a b).getD k ch0).1)]) bu69 zr69.2 ⟨_, rfl⟩ rfl ⟨_, _, _, _, rfl, Up.f (fs := [⟨1, false, (tE (.int .i64 0))⟩, ⟨1, false, (tE (.int .i64 0))⟩]) (f := ⟨1, false, (tE (.int .i64 0))⟩) (fs' := [⟨1, false, tI f1⟩, ⟨1, false, (tE (.int .i64 0))⟩]) 0 rfl rfl rfl, inferInstance, ⟨_, _, _, _, rfl, Up.f (fs := [⟨1, false, tI f1⟩, ⟨1, false, (tE (.int .i64 0))⟩]) (f := ⟨1, false, (tE (.int .i64 0))⟩) (fs' := [⟨1, false, tI f1⟩, ⟨1, false, tI ((chAll a b).getD k ch0).1⟩]) 1 rfl rfl rfl, inferInstance, Le.refl⟩⟩) rfl rfl ?_
        refine R1 (d_vals (n := 1) (f := tSn) [(⟨f1, ((chAll a b).getD k ch0).1⟩ : Sn)] Tryz.underlying54 el69 zf69 rfl (fun _ => inferInstance) rfl rfl rfl) rfl ?_
        refine RE (d_appendO (k := 60) (k' := 46) (f := tSn) (ys := [(⟨f1, ((chAll a b).getD k ch0).1⟩ : Sn)]) (ts' := rV tSn (s.xs ++ [⟨f1, ((chAll a b).getD k ch0).1⟩])) Tryz.underlying54 el69 zf69 rfl rfl (fun _ => inferInstance) rV_len (by simp; omega) (by simp; omega) (by simp [rV]) (n' := s.xs.length + 1) rfl) ⟨rfl, rfl, trivial⟩ ⟨rfl, trivial⟩ ⟨rfl, trivial⟩ ?_
        refine RE (d_store (es := 1) (agg := false) (0) ti54 rfl rfl rfl) ⟨rfl, rfl, trivial⟩ ⟨rfl, trivial⟩ trivial ?_
        refine R_nil (by kernel_rfl) ?_
        refine K_then ?_
        refine C_reg ?_
        refine R1 d_move rfl ?_
        refine RE (d_store (es := 1) (agg := false) (0) ti4 rfl rfl rfl) ⟨rfl, rfl, trivial⟩ ⟨rfl, trivial⟩ trivial ?_
        refine R_nil (by kernel_rfl) ?_
        refine K_norB ?_
        have hn : (ck1 kp s ((chAll a b).getD k ch0)) = ⟨s.xs ++ [⟨(if (kp (((chAll a b).getD k ch0).2.1 % 2 == 1) (((chAll a b).getD k ch0).2.2 % 2 == 1)) && !s.ins then ((chAll a b).getD k ch0).1 else s.lo), ((chAll a b).getD k ch0).1⟩], (if (kp (((chAll a b).getD k ch0).2.1 % 2 == 1) (((chAll a b).getD k ch0).2.2 % 2 == 1)) && !s.ins then ((chAll a b).getD k ch0).1 else s.lo), (kp (((chAll a b).getD k ch0).2.1 % 2 == 1) (((chAll a b).getD k ch0).2.2 % 2 == 1))⟩ := by rw [ck1, h99, h99_2]; rfl
        exact K_ren (g' := fun _ => none) [5, 8, 9, 10, 60] (fun j => cond (Nat.beq j 60) 46 (j)) SubR.nil ((SubKR.consI rfl (ImpK.of (by rw [← hf1]; exact ren_rV.symm))) ((SubKR.consI rfl ImpK.refl) ((SubKR.consI rfl (ImpK.of (by rw [hf1]; rfl))) ((SubKR.consI rfl (ImpK.of (by dsimp only; rw [List.length_append]; rfl))) ((SubKR.consI rfl ImpK.refl) SubKR.nil))))) SupG.nil (SupH.cons rfl (supJ sup_rV) (SupH.cons rfl (supJL rfl) (SupH.cons rfl (supJL rfl) (SupH.cons rfl (supJL rfl) (SupH.cons rfl (supJL rfl) SupH.nil))))) (lkOk rfl) rfl rfl (fun _ h => by cases h) (K_rnd (⟨s.xs ++ [⟨(if (kp (((chAll a b).getD k ch0).2.1 % 2 == 1) (((chAll a b).getD k ch0).2.2 % 2 == 1)) && !s.ins then ((chAll a b).getD k ch0).1 else s.lo), ((chAll a b).getD k ch0).1⟩], (if (kp (((chAll a b).getD k ch0).2.1 % 2 == 1) (((chAll a b).getD k ch0).2.2 % 2 == 1)) && !s.ins then ((chAll a b).getD k ch0).1 else s.lo), (kp (((chAll a b).getD k ch0).2.1 % 2 == 1) (((chAll a b).getD k ch0).2.2 % 2 == 1))⟩) ⟨by rw [← hn]; exact ck_next hk hrun, by rw [List.length_append]; simp; omega⟩ SubK.refl (SupH.cons rfl (supJ sup_rV) (SupH.cons rfl (supJL rfl) (SupH.cons rfl (supJL rfl) (SupH.cons rfl (supJL rfl) (SupH.cons rfl (supJL rfl) SupH.nil))))) (lkOk rfl))
       ·
        refine C_skip ?_
        refine K_then ?_
        refine C_reg ?_
        refine R1 d_move rfl ?_
        refine RE (d_store (es := 1) (agg := false) (0) ti4 rfl rfl rfl) ⟨rfl, rfl, trivial⟩ ⟨rfl, trivial⟩ trivial ?_
        refine R_nil (by kernel_rfl) ?_
        refine K_norB ?_
        have hn : (ck1 kp s ((chAll a b).getD k ch0)) = ⟨s.xs, (if (kp (((chAll a b).getD k ch0).2.1 % 2 == 1) (((chAll a b).getD k ch0).2.2 % 2 == 1)) && !s.ins then ((chAll a b).getD k ch0).1 else s.lo), (kp (((chAll a b).getD k ch0).2.1 % 2 == 1) (((chAll a b).getD k ch0).2.2 % 2 == 1))⟩ := by rw [ck1, h99, h99_2]; rfl
        exact K_rnd (⟨s.xs, (if (kp (((chAll a b).getD k ch0).2.1 % 2 == 1) (((chAll a b).getD k ch0).2.2 % 2 == 1)) && !s.ins then ((chAll a b).getD k ch0).1 else s.lo), (kp (((chAll a b).getD k ch0).2.1 % 2 == 1) (((chAll a b).getD k ch0).2.2 % 2 == 1))⟩) ⟨by rw [← hn]; exact ck_next hk hrun, by show s.xs.length ≤ k + 1; omega⟩ ((SubK.consI rfl ImpK.refl) ((SubK.consI rfl ImpK.refl) ((SubK.consI rfl (ImpK.of (by rw [hf1]))) ((SubK.consI rfl ImpK.refl) ((SubK.consI rfl ImpK.refl) SubK.nil))))) (SupH.cons rfl (supJ sup_rV) (SupH.cons rfl (supJL rfl) (SupH.cons rfl (supJL rfl) (SupH.cons rfl (supJL rfl) (SupH.cons rfl (supJL rfl) SupH.nil))))) (lkOk rfl)
      ·
       refine RGoff h99 rfl rfl ?_
       refine RGoff h99 rfl rfl ?_
       refine R2 (d_pickF h99) rfl rfl ?_
       refine R_nil (by kernel_rfl) ?_
       refine K_then ?_
       refine C_bF rfl rfl ?_
       refine C_skip ?_
       refine K_then ?_
       refine C_reg ?_
       refine R1 d_move rfl ?_
       refine RE (d_store (es := 1) (agg := false) (0) ti4 rfl rfl rfl) ⟨rfl, rfl, trivial⟩ ⟨rfl, trivial⟩ trivial ?_
       refine R_nil (by kernel_rfl) ?_
       refine K_norB ?_
       have hn : (ck1 kp s ((chAll a b).getD k ch0)) = ⟨s.xs, (if (kp (((chAll a b).getD k ch0).2.1 % 2 == 1) (((chAll a b).getD k ch0).2.2 % 2 == 1)) && !s.ins then ((chAll a b).getD k ch0).1 else s.lo), (kp (((chAll a b).getD k ch0).2.1 % 2 == 1) (((chAll a b).getD k ch0).2.2 % 2 == 1))⟩ := by rw [ck1, h99]; rfl
       exact K_rnd (⟨s.xs, (if (kp (((chAll a b).getD k ch0).2.1 % 2 == 1) (((chAll a b).getD k ch0).2.2 % 2 == 1)) && !s.ins then ((chAll a b).getD k ch0).1 else s.lo), (kp (((chAll a b).getD k ch0).2.1 % 2 == 1) (((chAll a b).getD k ch0).2.2 % 2 == 1))⟩) ⟨by rw [← hn]; exact ck_next hk hrun, by show s.xs.length ≤ k + 1; omega⟩ ((SubK.consI rfl ImpK.refl) ((SubK.consI rfl ImpK.refl) ((SubK.consI rfl (ImpK.of (by rw [hf1]))) ((SubK.consI rfl ImpK.refl) ((SubK.consI rfl ImpK.refl) SubK.nil))))) (SupH.cons rfl (supJ sup_rV) (SupH.cons rfl (supJL rfl) (SupH.cons rfl (supJL rfl) (SupH.cons rfl (supJL rfl) (SupH.cons rfl (supJL rfl) SupH.nil))))) (lkOk rfl)
   ·
    intro D hD s hI
    obtain ⟨hrun, hxl⟩ := hI
    rw [List.drop_length] at hrun
    have hR : s = (ckRun kp a b) := hrun
    refine K_norB ?_
    refine K_then ?_
    refine C_seq ?_
    refine C_reg ?_
    refine RE (Does.giveL (k := 60) (es := 2) (off := 0) (len := s.xs.length) (xs := s.xs) (f := tSn) (ts := rV tSn s.xs) (d_load (ts := [.own (.sl 60 2 0 s.xs.length)]) (0) ti54 rfl rfl) (fun _ h => h) (rV_all rfl) rfl) ⟨rfl, trivial⟩ ⟨rfl, rfl, trivial⟩ trivial ?_
    refine R1 d_assign rfl ?_
    refine R1 d_assign rfl ?_
    refine R_nil (by kernel_rfl) ?_
    refine K_then ?_
    refine C_ret ?_
    exact E_ret2 (Plain.loop Plain.mk' hD) rfl rfl rfl (Le.of (by rw [if_pos hok, hR])) (Le.int (by rw [if_pos hok]))
   ·
    intro D hD e i; exact i.elim
theorem c_Union1 (x y : Bool) :
  Ct Tryz.prog 67 [tMem x y] (tB (x || y)) := by
 refine Ct.intro Tryz.func67 rfl Tryz.ntmps67 rfl ?_
 intro w F
 refine C_seq ?_
 refine C_reg ?_
 refine RE (d_box (k := 1) ti100 rfl) ⟨rfl, trivial⟩ trivial ⟨rfl, trivial⟩ ?_
 refine R1 d_assign rfl ?_
 refine R_nil (by kernel_rfl) ?_
 refine K_then ?_
 refine C_seq ?_
 refine C_reg ?_
 refine R1 (d_fieldO fo100_0 rfl) rfl ?_
 refine R_loadF (0) ti4 rfl rfl rfl (At.g 0 rfl rfl) rfl ?_
 refine R1 d_move rfl ?_
 refine RGcase (t := 5) rfl (fun h109 => ?_) (fun h109 => ?_)
 ·
  refine RGoff h109 rfl rfl ?_
  refine RGoff h109 rfl rfl ?_
  refine R2 (d_pickT h109) rfl rfl ?_
  refine R1 d_assign rfl ?_
  refine R_nil (by kernel_rfl) ?_
  refine K_then ?_
  refine C_ret ?_
  exact E_ret1 Plain.mk' rfl rfl (Le.bool (by simp [*]))
 ·
  refine RGon h109 rfl (d_fieldO fo100_1 rfl) rfl ⟨rfl, trivial⟩ trivial trivial ?_
  refine RG_loadF h109 rfl rfl (0) ti4 rfl rfl rfl (At.g 1 rfl rfl) rfl ?_
  refine R2 (d_pickF h109) rfl rfl ?_
  refine R1 d_assign rfl ?_
  refine R_nil (by kernel_rfl) ?_
  refine K_then ?_
  refine C_ret ?_
  exact E_ret1 Plain.mk' rfl rfl (Le.bool (by simp [*]))
theorem c_Union (a b : List Sn) (hla : a.length ≤ 100000) (hlb : b.length ≤ 100000) :
  Ct Tryz.prog 32 [tL 2 true tSn a, tL 2 true tSn b] (tT [tL 2 true tSn (if sVal a = true ∧ sVal b = true then (ckRun (fun x y => x || y) a b).xs else []), tI (if sVal a = true ∧ sVal b = true then 0 else 2)]) := by
 refine Ct.intro Tryz.func32 rfl Tryz.ntmps32 rfl ?_
 intro w F
 refine C_seq ?_
 refine C_reg ?_
 refine R1 d_assign rfl ?_
 refine R1 d_assign rfl ?_
 refine R_nil (by kernel_rfl) ?_
 refine K_then ?_
 refine C_seq ?_
 refine C_reg ?_
 refine R1 d_move rfl ?_
 refine R1 d_move rfl ?_
 refine R3 (d_call (c_choose a b 67 (fun x y => x || y) fi67 c_Union1 hla hlb) fi66 rfl) rfl rfl rfl ?_
 refine R1 (d_extract rfl) rfl ?_
 refine R1 (d_extract rfl) rfl ?_
 refine R1 d_assign rfl ?_
 refine R1 d_assign rfl ?_
 refine R_nil (by kernel_rfl) ?_
 refine K_then ?_
 refine C_ret ?_
 exact E_ret2 Plain.mk' rfl rfl rfl Le.refl Le.refl
theorem c_Meet1 (x y : Bool) :
  Ct Tryz.prog 68 [tMem x y] (tB (x && y)) := by
 refine Ct.intro Tryz.func68 rfl Tryz.ntmps68 rfl ?_
 intro w F
 refine C_seq ?_
 refine C_reg ?_
 refine RE (d_box (k := 1) ti100 rfl) ⟨rfl, trivial⟩ trivial ⟨rfl, trivial⟩ ?_
 refine R1 d_assign rfl ?_
 refine R_nil (by kernel_rfl) ?_
 refine K_then ?_
 refine C_seq ?_
 refine C_reg ?_
 refine R1 (d_fieldO fo100_0 rfl) rfl ?_
 refine R_loadF (0) ti4 rfl rfl rfl (At.g 0 rfl rfl) rfl ?_
 refine R1 d_move rfl ?_
 refine RGcase (t := 5) rfl (fun h114 => ?_) (fun h114 => ?_)
 ·
  refine RGon h114 rfl (d_fieldO fo100_1 rfl) rfl ⟨rfl, trivial⟩ trivial trivial ?_
  refine RG_loadF h114 rfl rfl (0) ti4 rfl rfl rfl (At.g 1 rfl rfl) rfl ?_
  refine R2 (d_pickT h114) rfl rfl ?_
  refine R1 d_assign rfl ?_
  refine R_nil (by kernel_rfl) ?_
  refine K_then ?_
  refine C_ret ?_
  exact E_ret1 Plain.mk' rfl rfl (Le.bool (by simp [*]))
 ·
  refine RGoff h114 rfl rfl ?_
  refine RGoff h114 rfl rfl ?_
  refine R2 (d_pickF h114) rfl rfl ?_
  refine R1 d_assign rfl ?_
  refine R_nil (by kernel_rfl) ?_
  refine K_then ?_
  refine C_ret ?_
  exact E_ret1 Plain.mk' rfl rfl (Le.bool (by simp [*]))
theorem c_Meet (a b : List Sn) (hla : a.length ≤ 100000) (hlb : b.length ≤ 100000) :
  Ct Tryz.prog 34 [tL 2 true tSn a, tL 2 true tSn b] (tT [tL 2 true tSn (if sVal a = true ∧ sVal b = true then (ckRun (fun x y => x && y) a b).xs else []), tI (if sVal a = true ∧ sVal b = true then 0 else 2)]) := by
 refine Ct.intro Tryz.func34 rfl Tryz.ntmps34 rfl ?_
 intro w F
 refine C_seq ?_
 refine C_reg ?_
 refine R1 d_assign rfl ?_
 refine R1 d_assign rfl ?_
 refine R_nil (by kernel_rfl) ?_
 refine K_then ?_
 refine C_seq ?_
 refine C_reg ?_
 refine R1 d_move rfl ?_
 refine R1 d_move rfl ?_
 refine R3 (d_call (c_choose a b 68 (fun x y => x && y) fi68 c_Meet1 hla hlb) fi66 rfl) rfl rfl rfl ?_
 refine R1 (d_extract rfl) rfl ?_
 refine R1 (d_extract rfl) rfl ?_
 refine R1 d_assign rfl ?_
 refine R1 d_assign rfl ?_
 refine R_nil (by kernel_rfl) ?_
 refine K_then ?_
 refine C_ret ?_
 exact E_ret2 Plain.mk' rfl rfl rfl Le.refl Le.refl
end An.S

/- Layer 4: what is chosen is the set of the days that are wanted; sets with the same days are the same. Plain data. -/
namespace An.S
open Go
def mem (l : List Sn) (d : Int) : Bool := l.any fun s => decide (s.lo ≤ d) && decide (d < s.hi)
theorem mem_iff {l : List Sn} {d : Int} : mem l d = true ↔ ∃ s ∈ l, s.lo ≤ d ∧ d < s.hi := by simp [mem]
theorem mem_no {l : List Sn} {d : Int} : mem l d = false ↔ ∀ s ∈ l, ¬ (s.lo ≤ d ∧ d < s.hi) := by
  rw [← Bool.not_eq_true, mem_iff]; simp only [not_exists, not_and]
theorem mem_snoc {l : List Sn} {s : Sn} {d : Int} : mem (l ++ [s]) d = (mem l d || (decide (s.lo ≤ d) && decide (d < s.hi))) := by simp [mem]
/-- The border i is the first one behind the day D. -/
def Pos (l : List Sn) (i : Nat) (D : Int) : Prop := i ≤ 2 * l.length ∧ (∀ k, k < i → bd l k ≤ D) ∧ ∀ k, i ≤ k → k < 2 * l.length → D < bd l k
theorem exists_getS {l : List Sn} {s : Sn} (hs : s ∈ l) : ∃ i, i < l.length ∧ s = l.getD i sn0 := by
  obtain ⟨i, hi, e⟩ := List.getElem_of_mem hs
  exact ⟨i, hi, by rw [List.getD_eq_getElem?_getD, List.getElem?_eq_getElem hi]; exact e.symm⟩
theorem mem_getS {l : List Sn} {i : Nat} (hi : i < l.length) : l.getD i sn0 ∈ l := by
  rw [List.getD_eq_getElem?_getD, List.getElem?_eq_getElem hi]; exact List.getElem_mem hi
theorem bd_even (l : List Sn) (p : Nat) : bd l (2 * p) = (l.getD p sn0).lo := by rw [bd, if_pos (by omega), show 2 * p / 2 = p by omega]
theorem bd_odd (l : List Sn) (p : Nat) : bd l (2 * p + 1) = (l.getD p sn0).hi := by rw [bd, if_neg (by omega), show (2 * p + 1) / 2 = p by omega]
theorem Pos.mem {l : List Sn} {i : Nat} {D : Int} (h : Pos l i D) : mem l D = (i % 2 == 1) := by
  obtain ⟨h1, h2, h3⟩ := h
  rw [Bool.eq_iff_iff, mem_iff, beq_iff_eq]
  constructor
  · rintro ⟨s, hs, h4, h5⟩
    obtain ⟨p, hp, rfl⟩ := exists_getS hs
    rw [← bd_even] at h4; rw [← bd_odd] at h5
    have a1 : ¬ i ≤ 2 * p := fun h' => by have := h3 _ h' (by omega); omega
    have a2 : ¬ 2 * p + 1 < i := fun h' => by have := h2 _ h'; omega
    omega
  · intro h4
    have e : i = 2 * (i / 2) + 1 := by omega
    refine ⟨l.getD (i / 2) sn0, mem_getS (by omega), ?_, ?_⟩
    · rw [← bd_even]; exact h2 _ (by omega)
    · rw [← bd_odd]; exact h3 _ (by omega) (by omega)
theorem Pos.stay {l : List Sn} {i : Nat} {D d e : Int} (hv : sVal l = true) (h : Pos l i D) (hd : D ≤ d) (he : d < e) (hb : i < 2 * l.length → e ≤ bd l i) : Pos l i d := by
  refine ⟨h.1, fun k hk => by have := h.2.1 k hk; omega, fun k hk hk2 => ?_⟩
  have h1 := hb (by omega)
  rcases Nat.lt_or_ge i k with h2 | h2
  · have := bd_lt hv h2 hk2; omega
  · have : k = i := by omega
    subst this; omega
theorem Pos.next {l : List Sn} {i : Nat} {D e : Int} (hv : sVal l = true) (h : Pos l i D) (he : D < e) (hb : i < 2 * l.length → e ≤ bd l i) : Pos l (cnxt l i e) e := by
  refine ⟨cnxt_le h.1, fun k hk => ?_, fun k hk hk2 => ?_⟩
  · rw [cnxt] at hk
    split at hk
    · rename_i hc
      rcases Nat.lt_or_ge k i with h2 | h2
      · have := h.2.1 k h2; omega
      · have : k = i := by omega
        subst this; omega
    · have := h.2.1 k hk; omega
  · rw [cnxt] at hk
    split at hk
    · rename_i hc
      have := bd_lt hv (show i < k by omega) hk2; omega
    · rename_i hc
      have h1 := hb (by omega)
      rcases Nat.lt_or_ge i k with h2 | h2
      · have := bd_lt hv h2 hk2; omega
      · have : k = i := by omega
        subst this
        have : ¬ bd l k = e := fun h' => hc ⟨hk2, h'⟩
        omega
theorem Pos.zero {l : List Sn} (hv : sVal l = true) : Pos l 0 (-1) := ⟨Nat.zero_le _, fun k hk => by omega, fun k _ hk2 => by have := bd_le hv hk2; omega⟩
theorem sVal_lt {l : List Sn} (h : sVal l = true) {i j : Nat} (hij : i < j) (hj : j < l.length) : (l.getD i sn0).hi < (l.getD j sn0).lo := by
  have := bd_lt h (show 2 * i + 1 < 2 * j by omega) (by omega)
  rwa [bd_odd, bd_even] at this
theorem lastS_no {l : List Sn} {d : Int} (h : sVal l = true) (hl : 0 < l.length → (lastS l).hi ≤ d) : mem l d = false := mem_no.2 fun s hs h' => by
  obtain ⟨i, hi, rfl⟩ := exists_getS hs
  have h1 := hl (by omega)
  have h2 := sVal_at h hi
  rcases Nat.lt_or_ge i (l.length - 1) with h3 | h3
  · have h4 := sVal_lt h h3 (by omega)
    have h5 := sVal_at h (i := l.length - 1) (by omega)
    have h6 : (l.getD (l.length - 1) sn0).hi ≤ d := h1
    omega
  · have : i = l.length - 1 := by omega
    subst this
    have h6 : (l.getD (l.length - 1) sn0).hi ≤ d := h1
    omega
structure CkI (kp : Bool → Bool → Bool) (a b : List Sn) (s : Ck) (i j : Nat) (D : Int) : Prop where
  d0 : -1 ≤ D
  pa : Pos a i D
  pb : Pos b j D
  ins : s.ins = kp (i % 2 == 1) (j % 2 == 1)
  val : sVal s.xs = true
  last : 0 < s.xs.length → (lastS s.xs).hi ≤ D ∧ (s.ins = true → (lastS s.xs).hi < s.lo)
  lo : s.ins = true → 0 ≤ s.lo ∧ s.lo ≤ D
  all : ∀ d, d ≤ D → (mem s.xs d || (s.ins && decide (s.lo ≤ d))) = kp (mem a d) (mem b d)
theorem CkI.next {kp : Bool → Bool → Bool} {a b : List Sn} {s : Ck} {i j : Nat} {D : Int} (ha : sVal a = true) (hb : sVal b = true) (h : CkI kp a b s i j D) (hij : i < 2 * a.length ∨ j < 2 * b.length) : CkI kp a b (ck1 kp s (cday a b i j, cnxt a i (cday a b i j), cnxt b j (cday a b i j))) (cnxt a i (cday a b i j)) (cnxt b j (cday a b i j)) (cday a b i j) := by
  obtain ⟨c1, c2, c3⟩ := cday_is ha hb hij
  have hD : D < cday a b i j := by
    rcases c3 with c3 | c3
    · have := h.pa.2.2 i (Nat.le_refl _) c3.1; omega
    · have := h.pb.2.2 j (Nat.le_refl _) c3.1; omega
  have hE : cday a b i j ≤ 65536 := by
    rcases c3 with c3 | c3
    · have := bd_le ha c3.1; omega
    · have := bd_le hb c3.1; omega
  generalize cday a b i j = e at *
  have pa := h.pa.next ha hD c1
  have pb := h.pb.next hb hD c2
  have mid : ∀ d, D < d → d < e → kp (mem a d) (mem b d) = s.ins := fun d h1 h2 => by
    rw [(h.pa.stay ha (by omega) h2 c1).mem, (h.pb.stay hb (by omega) h2 c2).mem, h.ins]
  have now : kp (mem a e) (mem b e) = kp (cnxt a i e % 2 == 1) (cnxt b j e % 2 == 1) := by rw [pa.mem, pb.mem]
  have hno : ∀ d, D ≤ d → mem s.xs d = false := fun d hd => lastS_no h.val fun h0 => by have := (h.last h0).1; omega
  obtain ⟨xs, lo, ins⟩ := s
  have hd0 := h.d0
  have hd1 : -1 ≤ e := by omega
  obtain ⟨_, _, _, h3, h4, h5, h6, h7⟩ := h
  simp only at *
  cases hn : kp (cnxt a i e % 2 == 1) (cnxt b j e % 2 == 1) <;> cases ins
  · -- outside, outside
    have e1 : ck1 kp ⟨xs, lo, false⟩ (e, cnxt a i e, cnxt b j e) = ⟨xs, lo, false⟩ := by simp [ck1, hn]
    rw [e1]
    refine ⟨hd1, pa, pb, hn.symm, h4, fun h0 => ⟨by have := (h5 h0).1; show (lastS xs).hi ≤ e; omega, fun h' => by cases h'⟩, fun h' => (by cases h'), fun d hd => ?_⟩
    show (mem xs d || (false && decide (lo ≤ d))) = _
    rcases Int.lt_or_le D d with hd2 | hd2
    · rw [hno d (by omega)]
      rcases Int.lt_or_le d e with hd3 | hd3
      · rw [mid d hd2 hd3]; rfl
      · rw [show d = e by omega, now, hn]; rfl
    · exact h7 d hd2
  · -- ends
    have e1 : ck1 kp ⟨xs, lo, true⟩ (e, cnxt a i e, cnxt b j e) = ⟨xs ++ [⟨lo, e⟩], lo, false⟩ := by simp [ck1, hn]
    rw [e1]
    obtain ⟨l0, l1⟩ := h6 rfl
    refine ⟨hd1, pa, pb, hn.symm, sVal_snoc h4 ⟨l0, by show lo < e; omega, hE⟩ fun h0 => (h5 h0).2 rfl, fun _ => ⟨?_, fun h' => by cases h'⟩, fun h' => (by cases h'), fun d hd => ?_⟩
    · show (lastS (xs ++ [⟨lo, e⟩])).hi ≤ e
      rw [lastS, getD_snocS, List.length_append, List.length_singleton, if_neg (by omega), if_pos (by omega)]
      exact Int.le_refl _
    · show (mem (xs ++ [⟨lo, e⟩]) d || (false && _)) = _
      rw [mem_snoc]
      rcases Int.lt_or_le D d with hd2 | hd2
      · rw [hno d (by omega)]
        rcases Int.lt_or_le d e with hd3 | hd3
        · rw [mid d hd2 hd3]; simp; omega
        · rw [show d = e by omega, now, hn]; simp
      · rw [← h7 d hd2, show decide (d < e) = true from decide_eq_true (by omega)]; simp
  · -- begins
    have e1 : ck1 kp ⟨xs, lo, false⟩ (e, cnxt a i e, cnxt b j e) = ⟨xs, e, true⟩ := by simp [ck1, hn]
    rw [e1]
    refine ⟨hd1, pa, pb, hn.symm, h4, fun h0 => ⟨by have := (h5 h0).1; show (lastS xs).hi ≤ e; omega, fun _ => by have := (h5 h0).1; show (lastS xs).hi < e; omega⟩, fun _ => ⟨by show 0 ≤ e; omega, Int.le_refl _⟩, fun d hd => ?_⟩
    show (mem xs d || (true && decide (e ≤ d))) = _
    rcases Int.lt_or_le D d with hd2 | hd2
    · rw [hno d (by omega)]
      rcases Int.lt_or_le d e with hd3 | hd3
      · rw [mid d hd2 hd3]; simp; omega
      · rw [show d = e by omega, now, hn]; simp
    · rw [← h7 d hd2, show decide (e ≤ d) = false from decide_eq_false (by omega)]; simp
  · -- inside, inside
    have e1 : ck1 kp ⟨xs, lo, true⟩ (e, cnxt a i e, cnxt b j e) = ⟨xs, lo, true⟩ := by simp [ck1, hn]
    rw [e1]
    obtain ⟨l0, l1⟩ := h6 rfl
    refine ⟨hd1, pa, pb, hn.symm, h4, fun h0 => ⟨by have := (h5 h0).1; show (lastS xs).hi ≤ e; omega, (h5 h0).2⟩, fun _ => ⟨l0, by show lo ≤ e; omega⟩, fun d hd => ?_⟩
    show (mem xs d || (true && decide (lo ≤ d))) = _
    rcases Int.lt_or_le D d with hd2 | hd2
    · rw [hno d (by omega)]
      rcases Int.lt_or_le d e with hd3 | hd3
      · rw [mid d hd2 hd3]; simp; omega
      · rw [show d = e by omega, now, hn]; simp; omega
    · exact h7 d hd2
theorem ck_run {kp : Bool → Bool → Bool} {a b : List Sn} (ha : sVal a = true) (hb : sVal b = true) (hk : kp false false = false) : ∀ (f i j : Nat) (D : Int) (s : Ck), CkI kp a b s i j D → 2 * a.length + 2 * b.length ≤ f + (i + j) →
    sVal ((chL a b f i j).foldl (ck1 kp) s).xs = true ∧ ∀ d, mem ((chL a b f i j).foldl (ck1 kp) s).xs d = kp (mem a d) (mem b d)
  | f, i, j, D, s, h, hf => by
    by_cases hij : i < 2 * a.length ∨ j < 2 * b.length
    · cases f with
      | zero => have := h.pa.1; have := h.pb.1; omega
      | succ f =>
        have hadv := cnxt_adv ha hb hij
        rw [chL, if_pos hij, List.foldl_cons]
        exact ck_run ha hb hk f _ _ _ _ (h.next ha hb hij) (by omega)
    · have e : chL a b f i j = [] := by cases f with
        | zero => rfl
        | succ f => rw [chL, if_neg hij]
      have hi : i = 2 * a.length := by have := h.pa.1; omega
      have hj : j = 2 * b.length := by have := h.pb.1; omega
      have hins : s.ins = false := by
        rw [h.ins, show (i % 2 == 1) = false by simp; omega, show (j % 2 == 1) = false by simp; omega, hk]
      rw [e]
      refine ⟨h.val, fun d => ?_⟩
      show mem s.xs d = _
      rcases Int.lt_or_le D d with hd | hd
      · rw [lastS_no h.val (fun h0 => by have := (h.last h0).1; omega), (h.pa.stay ha (Int.le_of_lt hd) (Int.lt_succ d) (fun h' => by omega)).mem, (h.pb.stay hb (Int.le_of_lt hd) (Int.lt_succ d) (fun h' => by omega)).mem, show (i % 2 == 1) = false by simp; omega, show (j % 2 == 1) = false by simp; omega, hk]
      · have := h.all d hd
        rw [hins] at this; simpa using this
theorem ck_zero {kp : Bool → Bool → Bool} {a b : List Sn} (ha : sVal a = true) (hb : sVal b = true) (hk : kp false false = false) : CkI kp a b ⟨[], 0, false⟩ 0 0 (-1) where
  d0 := by omega
  pa := Pos.zero ha
  pb := Pos.zero hb
  ins := hk.symm
  val := rfl
  last := fun h => by cases h
  lo := fun h => by cases h
  all := fun d hd => by
    have e1 : mem a d = false := mem_no.2 fun s hs h' => by
      obtain ⟨i, hi, rfl⟩ := exists_getS hs
      have := sVal_at ha hi; omega
    have e2 : mem b d = false := mem_no.2 fun s hs h' => by
      obtain ⟨i, hi, rfl⟩ := exists_getS hs
      have := sVal_at hb hi; omega
    rw [e1, e2, hk]; rfl
/-- What is chosen is the set of the days that are wanted. -/
theorem ck_all {kp : Bool → Bool → Bool} {a b : List Sn} (ha : sVal a = true) (hb : sVal b = true) (hk : kp false false = false) : sVal (ckRun kp a b).xs = true ∧ ∀ d, mem (ckRun kp a b).xs d = kp (mem a d) (mem b d) :=
  ck_run ha hb hk _ 0 0 (-1) _ (ck_zero ha hb hk) (by omega)
/-! Sets with the same days are the same. -/
def setS (l : List Sn) : Prop := (∀ s ∈ l, okS s) ∧ l.Pairwise fun s t => s.hi < t.lo
theorem sVal_set {l : List Sn} (h : sVal l = true) : setS l := by
  refine ⟨fun s hs => ?_, List.pairwise_iff_getElem.2 fun i j hi hj hij => ?_⟩
  · obtain ⟨i, hi, rfl⟩ := exists_getS hs
    exact sVal_at h hi
  · have := sVal_lt h hij hj
    rwa [List.getD_eq_getElem?_getD, List.getD_eq_getElem?_getD, List.getElem?_eq_getElem hi, List.getElem?_eq_getElem hj] at this
theorem mem_cons {s : Sn} {r : List Sn} {d : Int} : mem (s :: r) d = ((decide (s.lo ≤ d) && decide (d < s.hi)) || mem r d) := by simp [mem]
theorem mem_low {s : Sn} {r : List Sn} {d : Int} (h : setS (s :: r)) (hd : d ≤ s.hi) : mem r d = false := mem_no.2 fun t ht h' => by
  have := (List.pairwise_cons.1 h.2).1 t ht; omega
theorem set_ext : ∀ {a b : List Sn}, setS a → setS b → (∀ d, mem a d = mem b d) → a = b
  | [], [], _, _, _ => rfl
  | [], t :: u, _, hb, h => by
    have h1 := hb.1 t (List.mem_cons_self ..)
    have h2 := h t.lo
    rw [mem_cons] at h2
    simp [mem, h1.2.1] at h2
  | s :: r, [], ha, _, h => by
    have h1 := ha.1 s (List.mem_cons_self ..)
    have h2 := h s.lo
    rw [mem_cons] at h2
    simp [mem, h1.2.1] at h2
  | s :: r, t :: u, ha, hb, h => by
    have hs := ha.1 s (List.mem_cons_self ..)
    have ht := hb.1 t (List.mem_cons_self ..)
    have pa := List.pairwise_cons.1 ha.2
    have pb := List.pairwise_cons.1 hb.2
    have l1 : t.lo ≤ s.lo := by
      obtain ⟨x, hx, hx2⟩ := mem_iff.1 ((h s.lo).symm.trans (by rw [mem_cons]; simp [hs.2.1]))
      rcases List.mem_cons.1 hx with rfl | hx
      · exact hx2.1
      · have := pb.1 x hx; have := ht.2.1; omega
    have l2 : s.lo ≤ t.lo := by
      obtain ⟨x, hx, hx2⟩ := mem_iff.1 ((h t.lo).trans (by rw [mem_cons]; simp [ht.2.1]))
      rcases List.mem_cons.1 hx with rfl | hx
      · exact hx2.1
      · have := pa.1 x hx; have := hs.2.1; omega
    have l3 : t.hi ≤ s.hi := by
      rcases Int.lt_or_le s.hi t.hi with h1 | h1
      · have h2 := h s.hi
        have := hs.2.1
        rw [mem_cons, mem_cons, mem_low ha (Int.le_refl _)] at h2
        simp [h1, show t.lo ≤ s.hi by omega] at h2
      · exact h1
    have l4 : s.hi ≤ t.hi := by
      rcases Int.lt_or_le t.hi s.hi with h1 | h1
      · have h2 := h t.hi
        have := ht.2.1
        rw [mem_cons, mem_cons, mem_low hb (Int.le_refl _)] at h2
        simp [h1, show s.lo ≤ t.hi by omega] at h2
      · exact h1
    have est : s = t := by
      obtain ⟨a1, a2⟩ := s; obtain ⟨b1, b2⟩ := t
      simp only at l1 l2 l3 l4
      rw [show a1 = b1 by omega, show a2 = b2 by omega]
    subst est
    congr 1
    refine set_ext ⟨fun x hx => ha.1 x (List.mem_cons_of_mem _ hx), pa.2⟩ ⟨fun x hx => hb.1 x (List.mem_cons_of_mem _ hx), pb.2⟩ fun d => ?_
    rcases Int.lt_or_le d s.hi with h1 | h1
    · rw [mem_low ha (by omega), mem_low hb (by omega)]
    · have h2 := h d
      rw [mem_cons, mem_cons] at h2
      simpa [show ¬ d < s.hi by omega] using h2
theorem set_same {a b : List Sn} (ha : sVal a = true) (hb : sVal b = true) (h : ∀ d, mem a d = mem b d) : a = b := set_ext (sVal_set ha) (sVal_set hb) h
/-! Worked days. -/
theorem mem_append {a b : List Sn} {d : Int} : mem (a ++ b) d = (mem a d || mem b d) := by simp [mem]
theorem mem_mrg {d : Int} : ∀ (xs acc : List Sn), ascS xs → sVal acc = true → (0 < acc.length → ∀ s ∈ xs, (lastS acc).hi ≤ s.lo) → mem (xs.foldl mrg1 acc) d = (mem acc d || mem xs d)
  | [], acc, _, _, _ => by simp [mem]
  | s :: r, acc, hx, hv, hl => by
    have hs := hx.1 s (List.mem_cons_self ..)
    have hp := List.pairwise_cons.1 hx.2
    have hr : ascS r := ⟨fun t ht => hx.1 t (List.mem_cons_of_mem _ ht), hp.2⟩
    have h1 := mrg_asc [s] acc ⟨fun t ht => hx.1 t (by rw [List.mem_singleton.1 ht]; exact List.mem_cons_self ..), List.pairwise_singleton ..⟩ hv fun h0 t ht => hl h0 t (by rw [List.mem_singleton.1 ht]; exact List.mem_cons_self ..)
    have key : mem (mrg1 acc s) d = (mem acc d || (decide (s.lo ≤ d) && decide (d < s.hi))) ∧ (lastS (mrg1 acc s)).hi = s.hi := by
      rw [mrg1]
      split
      · rename_i hm
        have h2 : (lastS acc).hi = s.lo := by have := hl hm.1 s (List.mem_cons_self ..); have h2 : s.lo ≤ (lastS acc).hi := hm.2; omega
        have hmax : max (acc.getD (acc.length - 1) sn0).hi s.hi = s.hi := by
          have h3 : (acc.getD (acc.length - 1) sn0).hi = s.lo := h2
          have := hs.2.1; omega
        rw [hmax]
        refine ⟨?_, by rw [lastS, List.length_set, getD_setS (by omega), if_pos rfl]⟩
        rw [set_lastE hm.1, mem_snoc]
        have e3 : mem acc d = (mem (acc.take (acc.length - 1)) d || (decide ((lastS acc).lo ≤ d) && decide (d < (lastS acc).hi))) := by rw [← mem_snoc, ← split_last hm.1]
        rw [e3, h2]
        have h4 := sVal_at hv (i := acc.length - 1) (by omega)
        have h5 : (lastS acc).lo < s.lo := by rw [← h2]; exact h4.2.1
        have h6 : (acc.getD (acc.length - 1) sn0).lo = (lastS acc).lo := rfl
        have := hs.2.1
        dsimp only
        rw [h6, Bool.or_assoc]
        congr 1
        rw [Bool.eq_iff_iff]; simp; omega
      · rename_i hm
        exact ⟨mem_snoc, by rw [lastS, getD_snocS, List.length_append, List.length_singleton, if_neg (by omega), if_pos (by omega)]⟩
    have ih := mem_mrg (d := d) r (mrg1 acc s) hr h1.1 fun _ t ht => by rw [key.2]; exact hp.1 t ht
    rw [List.foldl_cons, ih, key.1, mem_cons, Bool.or_assoc]
/-- The days on which one works. -/
theorem mem_wkd {l : List Tst} {a b d : Int} (h : isB l) (h0 : 0 ≤ a) (h1 : b ≤ 65536) : mem (wkd l a b) d = true ↔ (a ≤ d ∧ d < b) ∧ ∃ s ∈ l, s.v.f.n.l.length ≠ 0 ∧ s.lo ≤ d ∧ d < s.hi := by
  rw [wkd_eq h.1 h0 h1]
  split
  · simp [mem]; omega
  · rename_i hab
    have hm := mem_mrg (d := d) (wkS l a b) [] (wkS_asc h.1 h0 h1 (by omega)) rfl fun h' => by cases h'
    rw [mrg, hm]
    simp only [mem, List.any_nil, Bool.false_or]
    rw [show (wkS l a b).any (fun s => decide (s.lo ≤ d) && decide (d < s.hi)) = mem (wkS l a b) d from rfl, mem_iff]
    constructor
    · rintro ⟨x, hx, hx2⟩
      obtain ⟨s, hs, rfl⟩ := List.mem_map.1 hx
      obtain ⟨hs1, hs2⟩ := List.mem_filter.1 hs
      have hi : ¬ _ := fun h' => by rw [idle_iff.2 h'] at hs2; cases hs2
      simp only [clipS] at hx2
      exact ⟨by omega, s, hs1, by omega, by omega⟩
    · rintro ⟨hd, s, hs1, h3, h4⟩
      have hi : ¬ idle a b s = true := fun h' => by have := idle_iff.1 h'; omega
      refine ⟨clipS a b s, List.mem_map.2 ⟨s, List.mem_filter.2 ⟨hs1, by simpa using hi⟩, rfl⟩, ?_⟩
      simp only [clipS]; omega
end An.S

/- Layer 4: days are looked for. -/
namespace An.S
open Go Go.Proofs An
set_option maxHeartbeats 2000000
theorem fi69 : FnI Tryz.prog 69 := ⟨_, Tryz.func69, by kernel_rfl, rfl⟩
theorem fi99 : FnI Tryz.prog 99 := ⟨_, Tryz.func99, by kernel_rfl, rfl⟩
theorem fi100 : FnI Tryz.prog 100 := ⟨_, Tryz.func100, by kernel_rfl, rfl⟩
/-- The index of the first span that has days from d on. -/
def fnd (l : List Sn) (d : Int) : Nat := (l.takeWhile fun s => decide (s.hi ≤ d)).length
theorem fnd_is {d : Int} : ∀ {l : List Sn} {p : Nat}, p ≤ l.length → (∀ i, i < p → (l.getD i sn0).hi ≤ d) → (p < l.length → d < (l.getD p sn0).hi) → p = fnd l d
  | [], p, hp, _, _ => by simp at hp; subst hp; rfl
  | s :: r, 0, _, _, h => by
    have h1 : d < s.hi := h (by simp)
    rw [fnd, List.takeWhile_cons, if_neg (by simp; omega)]; rfl
  | s :: r, p + 1, hp, h1, h2 => by
    have h3 : s.hi ≤ d := h1 0 (by omega)
    have ih := fnd_is (d := d) (l := r) (p := p) (by simpa using hp) (fun i hi => by have := h1 (i + 1) (by omega); simpa using this) (fun hp2 => by have := h2 (by simpa using hp2); simpa using this)
    rw [fnd, List.takeWhile_cons, if_pos (by simp; omega), List.length_cons, ← fnd, ← ih]
theorem hi_mono {l : List Sn} (h : sVal l = true) {i j : Nat} (hij : i ≤ j) (hj : j < l.length) : (l.getD i sn0).hi ≤ (l.getD j sn0).hi := by
  rcases Nat.lt_or_ge i j with h1 | h1
  · have := sVal_lt h h1 hj
    have := sVal_at h hj; omega
  · rw [show i = j by omega]; exact Int.le_refl _
theorem fnd_le {l : List Sn} {d : Int} : fnd l d ≤ l.length := (List.takeWhile_sublist _).length_le
def hasB (l : List Sn) (d : Int) : Bool := decide (fnd l d < l.length) && decide ((l.getD (fnd l d) sn0).lo ≤ d)
def wi (b : List Sn) (s : Sn) : Bool := decide (fnd b s.lo < b.length) && decide ((b.getD (fnd b s.lo) sn0).lo ≤ s.lo) && decide (s.hi ≤ (b.getD (fnd b s.lo) sn0).hi)
theorem c_find1 (l : List Sn) (d : Int) (i : Nat) (hi : i < l.length) :
  CtG Tryz.prog 100 [(2, ⟨54, 1, false, [.val (tL 2 true tSn l)]⟩), (3, ⟨3, 1, false, [.val (tI d)]⟩)] [.val (tI i), .own (.ptr 2 0), .own (.ptr 3 0)] (.val (tB (decide (d < (l.getD i sn0).hi)))) [(2, ⟨54, 1, false, [.val (tL 2 true tSn l)]⟩), (3, ⟨3, 1, false, [.val (tI d)]⟩)] [] := by
 refine CtG.intro [2, 3] Tryz.func100 rfl Tryz.ntmps100 rfl rfl ⟨⟨rfl, (SupX.lit rfl)⟩, ⟨rfl, (SupX.lit rfl)⟩, trivial⟩ ?_
 intro w F η
 refine C_seq ?_
 refine C_reg ?_
 refine R1 d_assign rfl ?_
 refine R_nil (by kernel_rfl) ?_
 refine K_then ?_
 refine C_seq ?_
 refine C_draw mixed ?_
 refine RE (d_load (0) ti54 rfl rfl) ⟨rfl, trivial⟩ ⟨rfl, trivial⟩ trivial ?_
 refine R1 d_move rfl ?_
 refine R2 (d_indexP sl54 (i) (by omega) (gD (l := l) (n := i) (d := sn0) (by omega))) rfl rfl ?_
 refine R1 (d_fieldP fo69_1 (At.f 1 rfl rfl) rfl) rfl ?_
 refine R1 (d_loadP ti3) rfl ?_
 refine RE (d_load (0) ti3 rfl rfl) ⟨rfl, trivial⟩ ⟨rfl, trivial⟩ trivial ?_
 refine R2 d_gtr rfl rfl ?_
 refine R1 d_assign rfl ?_
 refine R_end (by kernel_rfl) ?_
 refine K_then ?_
 refine C_ret ?_
 exact E_retG1 LentC.mk' rfl rfl Imp.refl ⟨rfl, rfl, trivial⟩ rfl ⟨⟨rfl, (SupX.lit rfl)⟩, ⟨rfl, (SupX.lit rfl)⟩, trivial⟩ rfl
theorem c_Search (l : List Sn) (d : Int) (hv : sVal l = true) (hl : l.length ≤ 1000000) :
  CtG Tryz.prog 99 [(2, ⟨54, 1, false, [.val (tL 2 true tSn l)]⟩), (3, ⟨3, 1, false, [.val (tI d)]⟩)] [.val (tI l.length), .own (.fn 100 [.ptr 2 0, .ptr 3 0])] (.val (tI (fnd l d))) [(2, ⟨54, 1, false, [.val (tL 2 true tSn l)]⟩), (3, ⟨3, 1, false, [.val (tI d)]⟩)] [] := by
 refine CtG.intro [2, 3] Tryz.func99 rfl Tryz.ntmps99 rfl rfl ⟨⟨rfl, (SupX.lit rfl)⟩, ⟨rfl, (SupX.lit rfl)⟩, trivial⟩ ?_
 intro w F η
 refine C_seq ?_
 refine C_reg ?_
 refine R1 d_assign rfl ?_
 refine R_nil (by kernel_rfl) ?_
 refine K_then ?_
 refine C_seq ?_
 refine C_reg ?_
 refine R1 d_move rfl ?_
 refine R1 d_assign rfl ?_
 refine R1 d_assign rfl ?_
 refine R_nil (by kernel_rfl) ?_
 refine K_then ?_
 refine C_seq ?_
 refine C_block ?_
 refine C_loop (fun (fm : (Nat) × (Nat)) => (fun (p : Nat) (q : Nat) => p ≤ q ∧ q ≤ l.length ∧ (∀ i, i < p → (l.getD i sn0).hi ≤ d) ∧ ∀ i, q ≤ i → i < l.length → d < (l.getD i sn0).hi) fm.1 fm.2) (fun (fm : (Nat) × (Nat)) => (fun (p : Nat) (q : Nat) => upd (upd (upd (fun _ => none) 1 (some (.own (.fn 100 [.ptr 2 0, .ptr 3 0])))) 5 (some (.val (tI p)))) 6 (some (.val (tI q)))) fm.1 fm.2) (fun (fm : (Nat) × (Nat)) => (fun (p : Nat) (q : Nat) => upd (upd (fun _ => none) 2 (some (⟨54, 1, false, [.val (tL 2 true tSn l)]⟩))) 3 (some (⟨3, 1, false, [.val (tI d)]⟩))) fm.1 fm.2) (nm [2, 3]) (fun (fm : (Nat) × (Nat)) => (fun (p : Nat) (q : Nat) => q - p) fm.1 fm.2) ((0, l.length)) (by dsimp only; exact ⟨Nat.zero_le _, Nat.le_refl _, fun i hi => by omega, fun i hi hi2 => by omega⟩) (Sub.int rfl (by first | omega | rfl | (dsimp only; omega)) (Sub.int rfl (by first | omega | rfl | (dsimp only; omega)) (Sub.cons rfl Sub.nil))) ((SubK.consI rfl ImpK.refl) ((SubK.consI rfl ImpK.refl) SubK.nil)) (SupG.val (SupG.val (SupG.own rfl SupG.nil))) (SupH.cons rfl (supJL rfl) (SupH.cons rfl (supJL rfl) SupH.nil)) (lkOk rfl) ?_
 intro fm hI
 obtain ⟨p, q⟩ := fm
 replace hI : p ≤ q ∧ q ≤ l.length ∧ (∀ i, i < p → (l.getD i sn0).hi ≤ d) ∧ ∀ i, q ≤ i → i < l.length → d < (l.getD i sn0).hi := hI
 show wc _ _ _ _ (upd (upd (upd (fun _ => none) 1 (some (.own (.fn 100 [.ptr 2 0, .ptr 3 0])))) 5 (some (.val (tI p)))) 6 (some (.val (tI q)))) (upd (upd (fun _ => none) 2 (some (⟨54, 1, false, [.val (tL 2 true tSn l)]⟩))) 3 (some (⟨3, 1, false, [.val (tI d)]⟩))) _
 obtain ⟨hp, hq, h1, h2⟩ := hI
 refine C_seq ?_
 refine C_seq ?_
 refine C_reg ?_
 refine R1 d_move rfl ?_
 refine R1 d_move rfl ?_
 refine R2 d_lss rfl rfl ?_
 refine R_nil (by kernel_rfl) ?_
 refine K_then ?_
 refine C_if rfl (fun h62 => ?_) (fun h62 => ?_)
 ·
  refine C_skip ?_
  refine K_then ?_
  refine C_block ?_
  refine C_seq ?_
  refine C_reg ?_
  refine R1 d_move rfl ?_
  refine R1 d_move rfl ?_
  refine R2 (d_add (wr64 (by omega) (by omega))) rfl rfl ?_
  refine R1 (d_convert Tryz.underlying106 (isS Tryz.underlying3) (by first | exact wu64 (by omega) (by omega) | exact mu64)) rfl ?_
  refine R2 (d_shr (r := ((((p + q) / 2) : Nat) : Int)) (by decide) ((shrN (s := 1) rfl (by decide)).trans (by simp))) rfl rfl ?_
  refine R1 (d_convert Tryz.underlying3 (isS Tryz.underlying106) (wr64 (by omega) (by omega))) rfl ?_
  refine R1 d_assign rfl ?_
  refine R_nil (by kernel_rfl) ?_
  refine K_then ?_
  refine C_seq ?_
  refine C_reg ?_
  refine R1 d_move rfl ?_
  refine R1 d_move rfl ?_
  refine RE (d_callCX (ps := [.val (tI _)]) (caps := [.ptr 2 0, .ptr 3 0]) (fun j => cond (Nat.beq j 2) 2 (3)) (c_find1 l d ((p + q) / 2) (by omega)) fi100 rfl (krC (ρ := fun j => cond (Nat.beq j 2) 2 (3)) (k := 2) rfl (krC (ρ := fun j => cond (Nat.beq j 2) 2 (3)) (k := 3) rfl (krN (ρ := fun j => cond (Nat.beq j 2) 2 (3))))) (krC (ρ := fun j => cond (Nat.beq j 2) 2 (3)) (k := 2) rfl (krC (ρ := fun j => cond (Nat.beq j 2) 2 (3)) (k := 3) rfl (krN (ρ := fun j => cond (Nat.beq j 2) 2 (3))))) ⟨⟨rfl, (SupX.lit rfl)⟩, ⟨rfl, (SupX.lit rfl)⟩, trivial⟩ rfl) ⟨rfl, rfl, trivial⟩ ⟨rfl, rfl, trivial⟩ trivial ?_
  refine R1 d_not rfl ?_
  refine R_nil (by kernel_rfl) ?_
  refine K_then ?_
  refine C_ifn rfl (fun h65 => ?_) (fun h65 => ?_)
  ·
   refine C_reg ?_
   refine R1 d_move rfl ?_
   refine R2 (d_add (wr64 (by omega) (by omega))) rfl rfl ?_
   refine R1 d_assign rfl ?_
   refine R_nil (by kernel_rfl) ?_
   refine K_norB ?_
   exact K_fam ((((p + q) / 2) + 1, q)) ⟨(by dsimp only; exact ⟨by omega, hq, fun i hi => by have := hi_mono hv (show i ≤ ((p + q) / 2) by omega) (by omega); omega, h2⟩), (by dsimp only; omega)⟩ (Sub.int rfl (by first | omega | rfl | (dsimp only; omega)) (Sub.int rfl (by first | omega | rfl | (dsimp only; omega)) (Sub.cons rfl Sub.nil))) ((SubK.consI rfl ImpK.refl) ((SubK.consI rfl ImpK.refl) SubK.nil)) (SupG.val (SupG.val (SupG.own rfl SupG.nil))) (SupH.cons rfl (supJL rfl) (SupH.cons rfl (supJL rfl) SupH.nil)) (lkOk rfl)
  ·
   refine C_reg ?_
   refine R1 d_move rfl ?_
   refine R1 d_assign rfl ?_
   refine R_nil (by kernel_rfl) ?_
   refine K_norB ?_
   exact K_fam ((p, ((p + q) / 2))) ⟨(by dsimp only; exact ⟨by omega, by omega, h1, fun i hi hi2 => by have := hi_mono hv hi hi2; omega⟩), (by dsimp only; omega)⟩ (Sub.int rfl (by first | omega | rfl | (dsimp only; omega)) (Sub.int rfl (by first | omega | rfl | (dsimp only; omega)) (Sub.cons rfl Sub.nil))) ((SubK.consI rfl ImpK.refl) ((SubK.consI rfl ImpK.refl) SubK.nil)) (SupG.val (SupG.val (SupG.own rfl SupG.nil))) (SupH.cons rfl (supJL rfl) (SupH.cons rfl (supJL rfl) SupH.nil)) (lkOk rfl)
 ·
  refine C_exit ?_
  refine K_exT ?_
  refine K_exT ?_
  refine K_exB ?_
  refine K_then ?_
  refine C_seq ?_
  refine C_reg ?_
  refine R1 d_move rfl ?_
  refine R1 d_assign rfl ?_
  refine R_nil (by kernel_rfl) ?_
  refine K_then ?_
  refine C_ret ?_
  exact E_retG1 LentC.mk' rfl rfl (Imp.int (congrArg Int.ofNat (fnd_is (by omega) h1 (fun hp2 => h2 p (by omega) hp2)))) ⟨rfl, rfl, trivial⟩ rfl ⟨⟨rfl, (SupX.lit rfl)⟩, ⟨rfl, (SupX.lit rfl)⟩, trivial⟩ rfl
theorem c_find (l : List Sn) (d : Int) (hv : sVal l = true) (hl : l.length ≤ 1000000) :
  Ct Tryz.prog 69 [tL 2 true tSn l, tI d] (tI (fnd l d)) := by
 refine Ct.intro Tryz.func69 rfl Tryz.ntmps69 rfl ?_
 intro w F
 refine C_seq ?_
 refine C_reg ?_
 refine RE (d_box (k := 2) ti54 rfl) ⟨rfl, trivial⟩ trivial ⟨rfl, trivial⟩ ?_
 refine RE (d_box (k := 3) ti3 rfl) ⟨rfl, trivial⟩ trivial ⟨rfl, trivial⟩ ?_
 refine R1 d_assign rfl ?_
 refine R_nil (by kernel_rfl) ?_
 refine K_then ?_
 refine C_seq ?_
 refine C_reg ?_
 refine RE (d_load (0) ti54 rfl rfl) ⟨rfl, trivial⟩ ⟨rfl, trivial⟩ trivial ?_
 refine R1 (d_len Tryz.underlying54) rfl ?_
 refine R2 (d_makeFunc (ps := [.ptr 2 0, .ptr 3 0]) rfl) rfl rfl ?_
 refine RE (d_callGX (fun j => cond (Nat.beq j 2) 2 (3)) (c_Search l d hv hl) fi99 rfl (krC (ρ := fun j => cond (Nat.beq j 2) 2 (3)) (k := 2) rfl (krC (ρ := fun j => cond (Nat.beq j 2) 2 (3)) (k := 3) rfl (krN (ρ := fun j => cond (Nat.beq j 2) 2 (3))))) (krC (ρ := fun j => cond (Nat.beq j 2) 2 (3)) (k := 2) rfl (krC (ρ := fun j => cond (Nat.beq j 2) 2 (3)) (k := 3) rfl (krN (ρ := fun j => cond (Nat.beq j 2) 2 (3))))) ⟨⟨rfl, (SupX.lit rfl)⟩, ⟨rfl, (SupX.lit rfl)⟩, trivial⟩ rfl) ⟨rfl, rfl, trivial⟩ ⟨rfl, rfl, trivial⟩ trivial ?_
 refine R1 d_assign rfl ?_
 refine R_nil (by kernel_rfl) ?_
 refine K_then ?_
 refine C_ret ?_
 exact E_ret1 Plain.mk' rfl rfl Le.refl
theorem c_Has (l : List Sn) (d : Int) (hl : l.length ≤ 1000000) :
  Ct Tryz.prog 36 [tL 2 true tSn l, tI d] (tB (sVal l && hasB l d)) := by
 have hfl := fnd_le (l := l) (d := d)
 refine Ct.intro Tryz.func36 rfl Tryz.ntmps36 rfl ?_
 intro w F
 refine C_seq ?_
 refine C_reg ?_
 refine R1 d_assign rfl ?_
 refine R_nil (by kernel_rfl) ?_
 refine K_then ?_
 refine C_seq ?_
 refine C_seq ?_
 refine C_reg ?_
 refine R1 d_move rfl ?_
 refine R1 (d_call (c_SValid l) fi28 rfl) rfl ?_
 refine R1 d_not rfl ?_
 refine R_nil (by kernel_rfl) ?_
 refine K_then ?_
 refine C_cond rfl (fun h145 => ?_) (fun h145 => ?_)
 ·
  have hv : sVal l = false := by simpa using h145
  refine C_seq ?_
  refine C_reg ?_
  refine R1 d_assign rfl ?_
  refine R_nil (by kernel_rfl) ?_
  refine K_then ?_
  refine C_ret ?_
  refine K_retT ?_
  exact E_ret1 Plain.mk' rfl rfl (Le.bool (by rw [hv]; rfl))
 ·
  have hv : sVal l = true := by simpa using h145
  refine C_skip ?_
  refine K_then ?_
  refine C_seq ?_
  refine C_reg ?_
  refine R1 d_move rfl ?_
  refine R1 d_move rfl ?_
  refine R2 (d_call (c_find l d hv hl) fi69 rfl) rfl rfl ?_
  refine R1 d_assign rfl ?_
  refine R_nil (by kernel_rfl) ?_
  refine K_then ?_
  refine C_seq ?_
  refine C_reg ?_
  refine R1 d_move rfl ?_
  refine R1 d_move rfl ?_
  refine R1 (d_len Tryz.underlying54) rfl ?_
  refine R2 d_lss rfl rfl ?_
  refine R1 d_move rfl ?_
  refine RGcaseD (t := 16) rfl (fun h149 => ?_) (fun h149 => ?_)
  ·
   refine RGon (decide_eq_true h149) rfl d_move rfl ⟨rfl, trivial⟩ trivial trivial ?_
   refine RGon (decide_eq_true h149) rfl d_move rfl ⟨rfl, trivial⟩ trivial trivial ?_
   refine RGon (decide_eq_true h149) rfl (d_indexP sl54 (fnd l d) (by omega) (gD (l := l) (n := fnd l d) (d := sn0) (by omega))) rfl ⟨rfl, rfl, trivial⟩ trivial trivial ?_
   refine RGon (decide_eq_true h149) rfl (d_fieldP fo69_0 (At.f 0 rfl rfl) rfl) rfl ⟨rfl, trivial⟩ trivial trivial ?_
   refine RGon (decide_eq_true h149) rfl (d_loadP ti3) rfl ⟨rfl, trivial⟩ trivial trivial ?_
   refine RGon (decide_eq_true h149) rfl d_move rfl ⟨rfl, trivial⟩ trivial trivial ?_
   refine RGon (decide_eq_true h149) rfl d_leq rfl ⟨rfl, rfl, trivial⟩ trivial trivial ?_
   refine R2 (d_pickT (decide_eq_true h149)) rfl rfl ?_
   refine R1 d_assign rfl ?_
   refine R_nil (by kernel_rfl) ?_
   refine K_then ?_
   refine C_ret ?_
   exact E_ret1 Plain.mk' rfl rfl (Le.bool (by rw [hv, hasB]; simp; omega))
  ·
   refine RGoff (decide_eq_false h149) rfl rfl ?_
   refine RGoff (decide_eq_false h149) rfl rfl ?_
   refine RGoff (decide_eq_false h149) rfl rfl ?_
   refine RGoff (decide_eq_false h149) rfl rfl ?_
   refine RGoff (decide_eq_false h149) rfl rfl ?_
   refine RGoff (decide_eq_false h149) rfl rfl ?_
   refine RGoff (decide_eq_false h149) rfl rfl ?_
   refine R2 (d_pickF (decide_eq_false h149)) rfl rfl ?_
   refine R1 d_assign rfl ?_
   refine R_nil (by kernel_rfl) ?_
   refine K_then ?_
   refine C_ret ?_
   exact E_ret1 Plain.mk' rfl rfl (Le.bool (by rw [hv, hasB]; simp; omega))
theorem c_Within (a b : List Sn) (hla : a.length ≤ 1000000) (hlb : b.length ≤ 1000000) :
  Ct Tryz.prog 35 [tL 2 true tSn a, tL 2 true tSn b] (tB (sVal a && sVal b && a.all (wi b))) := by
 refine Ct.intro Tryz.func35 rfl Tryz.ntmps35 rfl ?_
 intro w F
 refine C_seq ?_
 refine C_reg ?_
 refine R1 d_assign rfl ?_
 refine R_nil (by kernel_rfl) ?_
 refine K_then ?_
 refine C_seq ?_
 refine C_seq ?_
 refine C_reg ?_
 refine R1 d_move rfl ?_
 refine R1 (d_call (c_SValid a) fi28 rfl) rfl ?_
 refine R1 d_not rfl ?_
 refine R1 d_move rfl ?_
 refine RGcase (t := 11) rfl (fun h154 => ?_) (fun h154 => ?_)
 ·
  refine RGoff h154 rfl rfl ?_
  refine RGoff h154 rfl rfl ?_
  refine RGoff h154 rfl rfl ?_
  refine R2 (d_pickT h154) rfl rfl ?_
  refine R_nil (by kernel_rfl) ?_
  refine K_then ?_
  refine C_bT rfl rfl ?_
  refine C_seq ?_
  refine C_reg ?_
  refine R1 d_assign rfl ?_
  refine R_nil (by kernel_rfl) ?_
  refine K_then ?_
  refine C_ret ?_
  refine K_retT ?_
  exact E_ret1 Plain.mk' rfl rfl (Le.bool (by rw [show sVal a = false by simpa using h154]; rfl))
 ·
  refine RGon h154 rfl d_move rfl ⟨rfl, trivial⟩ trivial trivial ?_
  refine RGon h154 rfl (d_call (c_SValid b) fi28 rfl) rfl ⟨rfl, trivial⟩ trivial trivial ?_
  refine RGon h154 rfl d_not rfl ⟨rfl, trivial⟩ trivial trivial ?_
  refine R2 (d_pickF h154) rfl rfl ?_
  refine R_nil (by kernel_rfl) ?_
  refine K_then ?_
  refine C_cond rfl (fun h154_2 => ?_) (fun h154_2 => ?_)
  ·
   refine C_seq ?_
   refine C_reg ?_
   refine R1 d_assign rfl ?_
   refine R_nil (by kernel_rfl) ?_
   refine K_then ?_
   refine C_ret ?_
   refine K_retT ?_
   exact E_ret1 Plain.mk' rfl rfl (Le.bool (by rw [show sVal b = false by simpa using h154_2]; simp))
  ·
   refine C_skip ?_
   refine K_then ?_
   refine C_seq ?_
   refine C_seq ?_
   refine C_reg ?_
   refine R1 d_move rfl ?_
   refine R1 (d_len Tryz.underlying54) rfl ?_
   refine R1 d_move rfl ?_
   refine R_nil (by kernel_rfl) ?_
   refine K_then ?_
   refine C_block ?_
   have hv : sVal a = true := by simpa using h154
   have hv2 : sVal b = true := by simpa using h154_2
   refine C_loop (fun (i : Nat) => i ≤ a.length ∧ (a.take i).all (wi b) = true) (fun (i : Nat) => upd (upd (upd (upd (fun _ => none) 1 (some (.val (tL 2 true tSn b)))) 16 (some (.val (tL 2 true tSn a)))) 17 (some (.val (tI a.length)))) 18 (some (.val (tI i)))) (fun (i : Nat) => fun _ => none) (nm []) (fun (i : Nat) => a.length - i) (0) ⟨Nat.zero_le _, rfl⟩ (Sub.int rfl (by first | omega | rfl | (dsimp only; omega)) (Sub.int rfl (by first | omega | rfl | (dsimp only; omega)) (Sub.cons rfl (Sub.cons rfl Sub.nil)))) SubK.nil (SupG.val (SupG.val (SupG.val (SupG.val SupG.nil)))) SupH.nil (lkOk rfl) ?_
   intro i hI
   obtain ⟨hi, ha⟩ := hI
   have hfl := fnd_le (l := b) (d := (a.getD i sn0).lo)
   refine C_seq ?_
   refine C_reg ?_
   refine R2 d_lss rfl rfl ?_
   refine R_nil (by kernel_rfl) ?_
   refine K_then ?_
   refine C_seq ?_
   refine C_if rfl (fun h157 => ?_) (fun h157 => ?_)
   ·
    refine C_skip ?_
    refine K_then ?_
    refine C_seq ?_
    refine C_block ?_
    refine C_seq ?_
    refine C_reg ?_
    refine R2 (d_indexP sl54 (i) (by omega) (gD (l := a) (n := i) (d := sn0) (by omega))) rfl rfl ?_
    refine R1 (d_loadP ti69) rfl ?_
    refine RE (d_alloc (k := 6) (n := 2) (agg := true) zr69.1 zr69.2 rfl) trivial trivial ⟨rfl, trivial⟩ ?_
    refine RE (d_store (es := 2) (agg := true) (0) ti69 rfl rfl rfl) ⟨rfl, rfl, trivial⟩ ⟨rfl, trivial⟩ trivial ?_
    refine R_nil (by kernel_rfl) ?_
    refine K_then ?_
    refine C_seq ?_
    refine C_reg ?_
    refine R1 d_move rfl ?_
    refine R1 (d_fieldO fo69_0 rfl) rfl ?_
    refine R_loadF (0) ti3 rfl rfl rfl (At.g 0 rfl rfl) rfl ?_
    refine R2 (d_call (c_find b (a.getD i sn0).lo hv2 hlb) fi69 rfl) rfl rfl ?_
    refine R1 d_assign rfl ?_
    refine R_nil (by kernel_rfl) ?_
    refine K_then ?_
    refine C_seq ?_
    refine C_draw mixed ?_
    refine R1 d_move rfl ?_
    refine R1 d_move rfl ?_
    refine R1 (d_len Tryz.underlying54) rfl ?_
    refine R2 d_eql rfl rfl ?_
    refine R1 d_move rfl ?_
    refine RGcaseD (t := 30) rfl (fun h159 => ?_) (fun h159 => ?_)
    ·
     refine RGoff (decide_eq_true h159) rfl rfl ?_
     refine RGoff (decide_eq_true h159) rfl rfl ?_
     refine RGoff (decide_eq_true h159) rfl rfl ?_
     refine RGoff (decide_eq_true h159) rfl rfl ?_
     refine RGoff (decide_eq_true h159) rfl rfl ?_
     refine RGoff (decide_eq_true h159) rfl rfl ?_
     refine RGoff (decide_eq_true h159) rfl rfl ?_
     refine RGoff (decide_eq_true h159) rfl rfl ?_
     refine R2 (d_pickT (decide_eq_true h159)) rfl rfl ?_
     refine R1 d_move rfl ?_
     refine RGoff1 rfl rfl ?_
     refine RGoff1 rfl rfl ?_
     refine RGoff1 rfl rfl ?_
     refine RGoff1 rfl rfl ?_
     refine RGoff1 rfl rfl ?_
     refine RGoff1 rfl rfl ?_
     refine RGoff1 rfl rfl ?_
     refine RGoff1 rfl rfl ?_
     refine R2 (d_pickT rfl) rfl rfl ?_
     refine R_end (by kernel_rfl) ?_
     refine K_then ?_
     refine C_bT rfl rfl ?_
     refine C_seq ?_
     refine C_reg ?_
     refine R1 d_assign rfl ?_
     refine R_nil (by kernel_rfl) ?_
     refine K_then ?_
     refine C_ret ?_
     refine K_retB ?_
     refine K_retT ?_
     refine K_retT ?_
     refine K_retB ?_
     refine K_retT ?_
     exact E_ret1 Plain.mk' rfl rfl (Le.bool (by rw [allS_stop (i := i) (by omega) (show wi b (a.getD i sn0) = false by simp only [wi, Bool.and_eq_false_iff, decide_eq_false_iff_not]; omega), Bool.and_false]))
    ·
     refine RGon (decide_eq_false h159) rfl d_move rfl ⟨rfl, trivial⟩ trivial trivial ?_
     refine RGon (decide_eq_false h159) rfl d_move rfl ⟨rfl, trivial⟩ trivial trivial ?_
     refine RGon (decide_eq_false h159) rfl (d_indexP sl54 ((fnd b (a.getD i sn0).lo)) (by omega) (gD (l := b) (n := (fnd b (a.getD i sn0).lo)) (d := sn0) (by omega))) rfl ⟨rfl, rfl, trivial⟩ trivial trivial ?_
     refine RGon (decide_eq_false h159) rfl (d_fieldP fo69_0 (At.f 0 rfl rfl) rfl) rfl ⟨rfl, trivial⟩ trivial trivial ?_
     refine RGon (decide_eq_false h159) rfl (d_loadP ti3) rfl ⟨rfl, trivial⟩ trivial trivial ?_
     refine RGon (decide_eq_false h159) rfl (d_fieldO fo69_0 rfl) rfl ⟨rfl, trivial⟩ trivial trivial ?_
     refine RG_loadF (decide_eq_false h159) rfl rfl (0) ti3 rfl rfl rfl (At.g 0 rfl rfl) rfl ?_
     refine RGon (decide_eq_false h159) rfl d_gtr rfl ⟨rfl, rfl, trivial⟩ trivial trivial ?_
     refine R2 (d_pickF (decide_eq_false h159)) rfl rfl ?_
     refine R1 d_move rfl ?_
     refine RGcaseD (t := 40) rfl (fun h159_2 => ?_) (fun h159_2 => ?_)
     ·
      refine RGoff (decide_eq_true h159_2) rfl rfl ?_
      refine RGoff (decide_eq_true h159_2) rfl rfl ?_
      refine RGoff (decide_eq_true h159_2) rfl rfl ?_
      refine RGoff (decide_eq_true h159_2) rfl rfl ?_
      refine RGoff (decide_eq_true h159_2) rfl rfl ?_
      refine RGoff (decide_eq_true h159_2) rfl rfl ?_
      refine RGoff (decide_eq_true h159_2) rfl rfl ?_
      refine RGoff (decide_eq_true h159_2) rfl rfl ?_
      refine R2 (d_pickT (decide_eq_true h159_2)) rfl rfl ?_
      refine R_end (by kernel_rfl) ?_
      refine K_then ?_
      refine C_bT rfl rfl ?_
      refine C_seq ?_
      refine C_reg ?_
      refine R1 d_assign rfl ?_
      refine R_nil (by kernel_rfl) ?_
      refine K_then ?_
      refine C_ret ?_
      refine K_retB ?_
      refine K_retT ?_
      refine K_retT ?_
      refine K_retB ?_
      refine K_retT ?_
      exact E_ret1 Plain.mk' rfl rfl (Le.bool (by rw [allS_stop (i := i) (by omega) (show wi b (a.getD i sn0) = false by simp only [wi, Bool.and_eq_false_iff, decide_eq_false_iff_not]; omega), Bool.and_false]))
     ·
      refine RGon (decide_eq_false h159_2) rfl d_move rfl ⟨rfl, trivial⟩ trivial trivial ?_
      refine RGon (decide_eq_false h159_2) rfl d_move rfl ⟨rfl, trivial⟩ trivial trivial ?_
      refine RGon (decide_eq_false h159_2) rfl (d_indexP sl54 ((fnd b (a.getD i sn0).lo)) (by omega) (gD (l := b) (n := (fnd b (a.getD i sn0).lo)) (d := sn0) (by omega))) rfl ⟨rfl, rfl, trivial⟩ trivial trivial ?_
      refine RGon (decide_eq_false h159_2) rfl (d_fieldP fo69_1 (At.f 1 rfl rfl) rfl) rfl ⟨rfl, trivial⟩ trivial trivial ?_
      refine RGon (decide_eq_false h159_2) rfl (d_loadP ti3) rfl ⟨rfl, trivial⟩ trivial trivial ?_
      refine RGon (decide_eq_false h159_2) rfl (d_fieldO fo69_1 rfl) rfl ⟨rfl, trivial⟩ trivial trivial ?_
      refine RG_loadF (decide_eq_false h159_2) rfl rfl (0) ti3 rfl rfl rfl (At.g 1 rfl rfl) rfl ?_
      refine RGon (decide_eq_false h159_2) rfl d_lss rfl ⟨rfl, rfl, trivial⟩ trivial trivial ?_
      refine R2 (d_pickF (decide_eq_false h159_2)) rfl rfl ?_
      refine R_end (by kernel_rfl) ?_
      refine K_then ?_
      refine C_if rfl (fun h159_3 => ?_) (fun h159_3 => ?_)
      ·
       refine C_seq ?_
       refine C_reg ?_
       refine R1 d_assign rfl ?_
       refine R_nil (by kernel_rfl) ?_
       refine K_then ?_
       refine C_ret ?_
       refine K_retB ?_
       refine K_retT ?_
       refine K_retT ?_
       refine K_retB ?_
       refine K_retT ?_
       exact E_ret1 Plain.mk' rfl rfl (Le.bool (by rw [allS_stop (i := i) (by omega) (show wi b (a.getD i sn0) = false by simp only [wi, Bool.and_eq_false_iff, decide_eq_false_iff_not]; omega), Bool.and_false]))
      ·
       refine C_skip ?_
       refine K_norB ?_
       refine K_then ?_
       refine C_reg ?_
       refine R2 (d_add (wr64 (by omega) (by omega))) rfl rfl ?_
       refine R1 d_move rfl ?_
       refine R_nil (by kernel_rfl) ?_
       have hw : wi b (a.getD i sn0) = true := by simp only [wi, Bool.and_eq_true, decide_eq_true_eq]; omega
       exact K_fam (i + 1) ⟨⟨by omega, by rw [allS_next (by omega), ha, hw]; rfl⟩, (by omega)⟩ (Sub.int rfl (by first | omega | rfl | (dsimp only; omega)) (Sub.int rfl (by first | omega | rfl | (dsimp only; omega)) (Sub.cons rfl (Sub.cons rfl Sub.nil)))) SubK.nil (SupG.val (SupG.val (SupG.val (SupG.val SupG.nil)))) SupH.nil (lkOk rfl)
   ·
    refine C_exit ?_
    refine K_exT ?_
    refine K_exT ?_
    refine K_exB ?_
    refine K_then ?_
    refine C_seq ?_
    refine C_reg ?_
    refine R1 d_assign rfl ?_
    refine R_nil (by kernel_rfl) ?_
    refine K_then ?_
    refine C_ret ?_
    exact E_ret1 Plain.mk' rfl rfl (Le.bool (by rw [hv, hv2, ← List.take_length (l := a), ← show i = a.length by omega, ha]; rfl))
end An.S

/- Layer 8: neighbouring spans. Plain data, but for what the walks define. -/
namespace An.S
open Go
def unionS (u v : List Sn) : List Sn := (ckRun (fun x y => x || y) u v).xs
def meetS (u v : List Sn) : List Sn := (ckRun (fun x y => x && y) u v).xs
theorem unionS_spec {u v : List Sn} (hu : sVal u = true) (hv : sVal v = true) : sVal (unionS u v) = true ∧ ∀ d, mem (unionS u v) d = (mem u d || mem v d) := ck_all (kp := fun x y => x || y) hu hv rfl
theorem meetS_spec {u v : List Sn} (hu : sVal u = true) (hv : sVal v = true) : sVal (meetS u v) = true ∧ ∀ d, mem (meetS u v) d = (mem u d && mem v d) := ck_all (kp := fun x y => x && y) hu hv rfl
end An.S

/- Law 8: ServiceAdds. -/
namespace An.S
open Go Go.Proofs An
set_option maxHeartbeats 2000000
theorem fi32 : FnI Tryz.prog 32 := ⟨_, Tryz.func32, by kernel_rfl, rfl⟩
theorem c_UnionT (u v : List Sn) (hu : sVal u = true) (hv : sVal v = true) (h1 : u.length ≤ 100000) (h2 : v.length ≤ 100000) : Ct Tryz.prog 32 [tL 2 true tSn u, tL 2 true tSn v] (tT [tL 2 true tSn (unionS u v), tI 0]) := by
  have h := c_Union u v h1 h2
  rw [if_pos ⟨hu, hv⟩, if_pos ⟨hu, hv⟩] at h; exact h
theorem c_MeetT (u v : List Sn) (hu : sVal u = true) (hv : sVal v = true) (h1 : u.length ≤ 100000) (h2 : v.length ≤ 100000) : Ct Tryz.prog 34 [tL 2 true tSn u, tL 2 true tSn v] (tT [tL 2 true tSn (meetS u v), tI 0]) := by
  have h := c_Meet u v h1 h2
  rw [if_pos ⟨hu, hv⟩, if_pos ⟨hu, hv⟩] at h; exact h
end An.S

/- Layer 8: breaks and periods. Plain data, but for what the walks define. -/
namespace An.S
open Go
theorem brk_len {w : List Sn} : (brk w).length = w.length - 1 := by simp [brk]
theorem brk_getD {w : List Sn} {i : Nat} (hi : i + 1 < w.length) : (brk w).getD i sn0 = ⟨(w.getD i sn0).hi, (w.getD (i + 1) sn0).lo⟩ := by
  rw [brk, List.getD_eq_getElem?_getD, List.getElem?_map, List.getElem?_range (by omega)]; rfl
theorem brk_mem {w : List Sn} {g : Sn} (h : g ∈ brk w) : ∃ i, i + 1 < w.length ∧ g = ⟨(w.getD i sn0).hi, (w.getD (i + 1) sn0).lo⟩ := by
  obtain ⟨i, hi, rfl⟩ := exists_getS h
  rw [brk_len] at hi
  exact ⟨i, by omega, brk_getD (by omega)⟩
theorem brk_set {w : List Sn} (h : sVal w = true) : sVal (brk w) = true := by
  refine sVal_iff.2 fun i hi => sOkA_iff.2 ?_
  rw [brk_len] at hi
  have h1 := sVal_lt h (show i < i + 1 by omega) (by omega)
  have h2 := sVal_at h (i := i) (by omega)
  have h3 := sVal_at h (i := i + 1) (by omega)
  rw [brk_getD (by omega)]
  refine ⟨by simp only [Sn.ok, Bool.and_eq_true, decide_eq_true_eq]; omega, by dsimp only; omega, ?_⟩
  by_cases h0 : i = 0
  · exact .inl h0
  · rw [brk_getD (by omega), show i - 1 + 1 = i by omega]
    exact .inr h2.2.1
theorem fnd_spec {d : Int} : ∀ l : List Sn, (∀ i, i < fnd l d → (l.getD i sn0).hi ≤ d) ∧ (fnd l d < l.length → d < (l.getD (fnd l d) sn0).hi)
  | [] => ⟨fun i hi => by simp [fnd] at hi, fun h => by simp at h⟩
  | s :: r => by
    have ih := fnd_spec (d := d) r
    by_cases h : s.hi ≤ d
    · have e : fnd (s :: r) d = fnd r d + 1 := by rw [fnd, List.takeWhile_cons, if_pos (by simpa using h)]; rfl
      rw [e]
      refine ⟨fun i hi => ?_, fun hl => ?_⟩
      · cases i with
        | zero => exact h
        | succ i => have := ih.1 i (by omega); simpa using this
      · have := ih.2 (by simpa using hl); simpa using this
    · have e : fnd (s :: r) d = 0 := by rw [fnd, List.takeWhile_cons, if_neg (by simpa using h)]; rfl
      rw [e]
      exact ⟨fun i hi => by omega, fun _ => by show d < s.hi; omega⟩
theorem lo_mono {l : List Sn} (h : sVal l = true) {i j : Nat} (hij : i ≤ j) (hj : j < l.length) : (l.getD i sn0).lo ≤ (l.getD j sn0).lo := by
  rcases Nat.lt_or_ge i j with h1 | h1
  · have := sVal_lt h h1 hj
    have := sVal_at h (i := i) (by omega); omega
  · rw [show i = j by omega]; exact Int.le_refl _
theorem mem_at {l : List Sn} {d : Int} (h : mem l d = true) : ∃ i, i < l.length ∧ (l.getD i sn0).lo ≤ d ∧ d < (l.getD i sn0).hi := by
  obtain ⟨s, hs, h1⟩ := mem_iff.1 h
  obtain ⟨i, hi, rfl⟩ := exists_getS hs
  exact ⟨i, hi, h1⟩
theorem at_mem {l : List Sn} {d : Int} {i : Nat} (hi : i < l.length) (h1 : (l.getD i sn0).lo ≤ d) (h2 : d < (l.getD i sn0).hi) : mem l d = true := mem_iff.2 ⟨_, mem_getS hi, h1, h2⟩
/-- The span that has days from d on is the one of d, if d is a day. -/
theorem hasB_mem {l : List Sn} {d : Int} (h : sVal l = true) : hasB l d = mem l d := by
  have hf := fnd_spec (d := d) l
  rw [Bool.eq_iff_iff, hasB, Bool.and_eq_true, decide_eq_true_eq, decide_eq_true_eq]
  constructor
  · rintro ⟨h1, h2⟩; exact at_mem h1 h2 (hf.2 h1)
  · intro hm
    obtain ⟨i, hi, h1, h2⟩ := mem_at hm
    have h3 : ¬ i < fnd l d := fun h' => by have := hf.1 i h'; omega
    exact ⟨by omega, by have := lo_mono h (show fnd l d ≤ i by omega) hi; omega⟩
theorem wi_iff {b : List Sn} {s : Sn} (h : sVal b = true) (hs : s.lo < s.hi) : wi b s = true ↔ ∀ x, s.lo ≤ x → x < s.hi → mem b x = true := by
  have hf := fnd_spec (d := s.lo) b
  rw [wi, Bool.and_eq_true, Bool.and_eq_true, decide_eq_true_eq, decide_eq_true_eq, decide_eq_true_eq]
  constructor
  · rintro ⟨⟨h1, h2⟩, h3⟩ x hx hx2
    exact at_mem h1 (by omega) (by omega)
  · intro ha
    have h0 := ha s.lo (Int.le_refl _) hs
    rw [← hasB_mem h, hasB, Bool.and_eq_true, decide_eq_true_eq, decide_eq_true_eq] at h0
    refine ⟨h0, ?_⟩
    rcases Int.lt_or_le (b.getD (fnd b s.lo) sn0).hi s.hi with h1 | h1
    · have h2 := hf.2 h0.1
      obtain ⟨j, hj, h3, h4⟩ := mem_at (ha (b.getD (fnd b s.lo) sn0).hi (by omega) h1)
      rcases Nat.lt_or_ge (fnd b s.lo) j with h5 | h5
      · have := sVal_lt h h5 hj; omega
      · have := hi_mono h h5 h0.1; omega
    · exact h1
theorem bdn {l : List Tst} {a b : Int} (h : isB l) (h0 : 0 ≤ a) (h1 : b ≤ 65536) {i : Nat} (hi : i < (wkd l a b).length) : a ≤ ((wkd l a b).getD i sn0).lo ∧ ((wkd l a b).getD i sn0).hi ≤ b := by
  have hv := (wkd_set (a := a) (b := b) h.1 h0 h1).1
  have h2 := sVal_at hv hi
  have m1 := (mem_wkd h h0 h1).1 (at_mem hi (Int.le_refl _) h2.2.1)
  have m2 := (mem_wkd h h0 h1).1 (at_mem hi (show _ ≤ ((wkd l a b).getD i sn0).hi - 1 by omega) (by omega))
  omega
/-! All days together. -/
theorem all_one {w : List Sn} (h : sVal w = true) : (unionS w (brk w)).length ≤ 1 := by
  obtain ⟨u1, u2⟩ := unionS_spec h (brk_set h)
  rcases Nat.eq_zero_or_pos w.length with h0 | h0
  · have e : w = [] := List.eq_nil_of_length_eq_zero h0
    have : unionS w (brk w) = [] := set_same u1 rfl fun d => by rw [u2, e]; rfl
    rw [this]; decide
  · have a0 := sVal_at h (i := 0) h0
    have an := sVal_at h (i := w.length - 1) (by omega)
    have ann := hi_mono h (show 0 ≤ w.length - 1 by omega) (by omega)
    have e : unionS w (brk w) = [⟨(w.getD 0 sn0).lo, (w.getD (w.length - 1) sn0).hi⟩] := by
      refine set_same u1 (sVal_snoc (l := []) rfl ⟨a0.1, by dsimp only; omega, an.2.2⟩ fun h' => by cases h') fun d => ?_
      rw [u2, Bool.eq_iff_iff, Bool.or_eq_true, mem_iff (l := [_])]
      simp only [List.mem_singleton, exists_eq_left]
      constructor
      · rintro (hm | hm)
        · obtain ⟨i, hi, h1, h2⟩ := mem_at hm
          have := lo_mono h (Nat.zero_le i) hi
          have := hi_mono h (show i ≤ w.length - 1 by omega) (by omega)
          omega
        · obtain ⟨g, hg, h1, h2⟩ := mem_iff.1 hm
          obtain ⟨i, hi, rfl⟩ := brk_mem hg
          have := lo_mono h (Nat.zero_le i) (by omega)
          have := sVal_at h (i := i) (by omega)
          have := sVal_at h (i := i + 1) (by omega)
          have := hi_mono h (show i + 1 ≤ w.length - 1 by omega) (by omega)
          simp only at h1 h2
          omega
      · rintro ⟨h1, h2⟩
        have hf := fnd_spec (d := d) w
        have hfl : fnd w d < w.length := by
          rcases Nat.lt_or_ge (w.length - 1) (fnd w d) with h3 | h3
          · have := hf.1 _ h3; omega
          · omega
        have h4 := hf.2 hfl
        rcases Int.lt_or_le d (w.getD (fnd w d) sn0).lo with h5 | h5
        · right
          have hp : 0 < fnd w d := by
            rcases Nat.eq_zero_or_pos (fnd w d) with h6 | h6
            · rw [h6] at h5; omega
            · exact h6
          refine mem_iff.2 ⟨(brk w).getD (fnd w d - 1) sn0, mem_getS (by rw [brk_len]; omega), ?_⟩
          rw [brk_getD (by omega), show fnd w d - 1 + 1 = fnd w d by omega]
          exact ⟨hf.1 _ (by omega), h5⟩
        · left; exact at_mem hfl h5 h4
    rw [e]; exact Nat.le_refl _
theorem brk_out {w : List Sn} (h : sVal w = true) {i : Nat} (hi : i + 1 < w.length) {x : Int} (h1 : (w.getD i sn0).hi ≤ x) (h2 : x < (w.getD (i + 1) sn0).lo) : mem w x = false := by
  rw [Bool.eq_false_iff]
  intro hm
  obtain ⟨j, hj, h3, h4⟩ := mem_at hm
  rcases Nat.lt_or_ge i j with h5 | h5
  · have := lo_mono h (show i + 1 ≤ j by omega) hj; omega
  · have := hi_mono h h5 (by omega); omega
theorem both_none {w : List Sn} (h : sVal w = true) : meetS w (brk w) = [] := by
  obtain ⟨u1, u2⟩ := meetS_spec h (brk_set h)
  refine set_same u1 rfl fun d => ?_
  rw [u2, Bool.and_eq_false_iff.2]
  · rfl
  · cases hb : mem (brk w) d
    · exact .inr rfl
    · left
      obtain ⟨g, hg, h1, h2⟩ := mem_iff.1 hb
      obtain ⟨i, hi, rfl⟩ := brk_mem hg
      exact brk_out h hi h1 h2
/-! Periods. -/
def brk2 (p : Int) : List Sn → List Sn
  | [] => []
  | s :: r => ⟨p, s.lo⟩ :: brk2 s.hi r
theorem brk_cons : ∀ (s : Sn) (r : List Sn), brk (s :: r) = brk2 s.hi r
  | s, [] => rfl
  | s, t :: u => by
    have ih := brk_cons t u
    rw [brk2, ← ih, brk, brk]
    show (List.range ((t :: u).length - 1 + 1)).map _ = _
    rw [List.range_succ_eq_map, List.map_cons, List.map_map]
    rfl
theorem brg_fold {d : Int} (hd : 0 ≤ d) : ∀ (xs acc : List Sn), setS xs → sVal acc = true → 0 < acc.length → (∀ s ∈ xs, (lastS acc).hi < s.lo) →
    sVal (xs.foldl (brg1 d) acc) = true ∧ ∀ x, mem (xs.foldl (brg1 d) acc) x = true ↔ mem acc x = true ∨ mem xs x = true ∨ ∃ g ∈ brk2 (lastS acc).hi xs, g.hi - g.lo ≤ d ∧ g.lo ≤ x ∧ x < g.hi
  | [], acc, _, hv, _, _ => ⟨hv, fun x => by simp [mem, brk2]⟩
  | s :: r, acc, hx, hv, hp, hl => by
    have hs := hx.1 s (List.mem_cons_self ..)
    have hpw := List.pairwise_cons.1 hx.2
    have hr : setS r := ⟨fun t ht => hx.1 t (List.mem_cons_of_mem _ ht), hpw.2⟩
    have hls := hl s (List.mem_cons_self ..)
    have key : sVal (brg1 d acc s) = true ∧ 0 < (brg1 d acc s).length ∧ (lastS (brg1 d acc s)).hi = s.hi ∧ ∀ x, mem (brg1 d acc s) x = true ↔ mem acc x = true ∨ (s.lo ≤ x ∧ x < s.hi) ∨ (s.lo - (lastS acc).hi ≤ d ∧ (lastS acc).hi ≤ x ∧ x < s.lo) := by
      rw [brg1]
      split
      · rename_i hm
        have hm2 : s.lo - (lastS acc).hi ≤ d := hm.2
        have ha := sVal_at hv (i := acc.length - 1) (by omega)
        have ha : 0 ≤ (lastS acc).lo ∧ (lastS acc).lo < (lastS acc).hi ∧ (lastS acc).hi ≤ 65536 := ha
        have h2 := hs.2.1
        refine ⟨sVal_long hv hp (by omega) hs.2.2, by rw [List.length_set]; exact hp, by rw [lastS, List.length_set, getD_setS (by omega), if_pos rfl], fun x => ?_⟩
        rw [show (acc.getD (acc.length - 1) sn0).lo = (lastS acc).lo from rfl, set_lastE hp, mem_snoc]
        have e3 : mem acc x = (mem (acc.take (acc.length - 1)) x || (decide ((lastS acc).lo ≤ x) && decide (x < (lastS acc).hi))) := by rw [← mem_snoc, ← split_last hp]
        rw [e3]
        simp only [Bool.or_eq_true, Bool.and_eq_true, decide_eq_true_eq]
        by_cases hq : mem (acc.take (acc.length - 1)) x = true
        · simp [hq]
        · simp only [hq, false_or, Bool.false_eq_true]; omega
      · rename_i hm
        have hm2 : ¬ s.lo - (lastS acc).hi ≤ d := fun h' => hm ⟨hp, h'⟩
        refine ⟨sVal_snoc hv hs fun _ => hls, by simp, by rw [lastS, getD_snocS, List.length_append, List.length_singleton, if_neg (by omega), if_pos (by omega)], fun x => ?_⟩
        rw [mem_snoc]
        simp only [Bool.or_eq_true, Bool.and_eq_true, decide_eq_true_eq, hm2, false_and, or_false]
    obtain ⟨k1, k2, k3, k4⟩ := key
    have ih := brg_fold hd r (brg1 d acc s) hr k1 k2 fun t ht => by rw [k3]; exact hpw.1 t ht
    refine ⟨ih.1, fun x => ?_⟩
    rw [List.foldl_cons, ih.2 x, k4 x, k3, mem_cons]
    simp only [Bool.or_eq_true, Bool.and_eq_true, decide_eq_true_eq, brk2, List.mem_cons, exists_eq_or_imp]
    constructor
    · rintro ((h1 | h1 | h1) | h1 | h1)
      · exact .inl h1
      · exact .inr (.inl (.inl h1))
      · exact .inr (.inr (.inl h1))
      · exact .inr (.inl (.inr h1))
      · exact .inr (.inr (.inr h1))
    · rintro (h1 | (h1 | h1) | h1 | h1)
      · exact .inl (.inl h1)
      · exact .inl (.inr (.inl h1))
      · exact .inr (.inl h1)
      · exact .inl (.inr (.inr h1))
      · exact .inr (.inr h1)
theorem brg_spec {w : List Sn} {d : Int} (h : sVal w = true) (hd : 0 ≤ d) : sVal (brg d w) = true ∧ ∀ x, mem (brg d w) x = true ↔ mem w x = true ∨ ∃ g ∈ brk w, g.hi - g.lo ≤ d ∧ g.lo ≤ x ∧ x < g.hi := by
  cases w with
  | nil => exact ⟨rfl, fun x => by simp [brg, mem, brk]⟩
  | cons s r =>
    have hset := sVal_set h
    have hpw := List.pairwise_cons.1 hset.2
    have h1 : brg1 d [] s = [s] := by rw [brg1, if_neg (by simp)]; rfl
    have hs1 : sVal [s] = true := sVal_snoc (l := []) rfl (hset.1 s (List.mem_cons_self ..)) fun h' => by cases h'
    have := brg_fold hd r [s] ⟨fun t ht => hset.1 t (List.mem_cons_of_mem _ ht), hpw.2⟩ hs1 (by simp) hpw.1
    rw [brg, List.foldl_cons, h1, brk_cons]
    refine ⟨this.1, fun x => ?_⟩
    rw [this.2 x, show mem (s :: r) x = (mem [s] x || mem r x) by simp [mem], Bool.or_eq_true, or_assoc]
    exact Iff.rfl
/-- A break is within the periods if it is short. -/
theorem per_has {w : List Sn} {d : Int} (h : sVal w = true) (hd : 0 ≤ d) {g : Sn} (hg : g ∈ brk w) : mem (brg d w) g.lo = decide (g.hi - g.lo ≤ d) ∧ wi (brg d w) g = decide (g.hi - g.lo ≤ d) := by
  obtain ⟨p1, p2⟩ := brg_spec h hd
  obtain ⟨i, hi, e⟩ := brk_mem hg
  have hlt : g.lo < g.hi := by have := sVal_lt h (show i < i + 1 by omega) hi; rw [e]; exact this
  by_cases hc : g.hi - g.lo ≤ d
  · rw [decide_eq_true hc]
    have key : ∀ x, g.lo ≤ x → x < g.hi → mem (brg d w) x = true := fun x hx hx2 => (p2 x).2 (.inr ⟨g, hg, hc, hx, hx2⟩)
    exact ⟨key _ (Int.le_refl _) hlt, (wi_iff p1 hlt).2 key⟩
  · rw [decide_eq_false hc]
    have hno : mem (brg d w) g.lo = false := by
      rw [Bool.eq_false_iff]
      intro hm
      rcases (p2 _).1 hm with h1 | ⟨g2, hg2, h2, h3, h4⟩
      · rw [brk_out h hi (by rw [e]; exact Int.le_refl _) (by rw [e] at hlt ⊢; exact hlt)] at h1; cases h1
      · obtain ⟨j, hj, e2⟩ := brk_mem hg2
        rw [e, e2] at h3 h4
        simp only at h3 h4
        have hij : j = i := by
          rcases Nat.lt_trichotomy i j with h5 | h5 | h5
          · have := hi_mono h (show i + 1 ≤ j by omega) (by omega)
            have := sVal_at h (i := i + 1) (by omega)
            have := sVal_lt h (show i < i + 1 by omega) hi
            omega
          · exact h5.symm
          · have := lo_mono h (show j + 1 ≤ i by omega) (by omega)
            have := sVal_at h (i := i) (by omega)
            omega
        subst hij
        rw [e2] at h2; rw [e] at hc; exact hc h2
    refine ⟨hno, ?_⟩
    rw [Bool.eq_false_iff]
    intro hw
    rw [(wi_iff p1 hlt).1 hw _ (Int.le_refl _) hlt] at hno; cases hno
theorem per_all {w : List Sn} {d : Int} (h : sVal w = true) (hd : 0 ≤ d) : w.all (wi (brg d w)) = true ∧ (brg d w).all (wi (unionS w (brk w))) = true := by
  obtain ⟨p1, p2⟩ := brg_spec h hd
  obtain ⟨u1, u2⟩ := unionS_spec h (brk_set h)
  refine ⟨List.all_eq_true.2 fun s hs => ?_, List.all_eq_true.2 fun s hs => ?_⟩
  · obtain ⟨i, hi, rfl⟩ := exists_getS hs
    have := sVal_at h hi
    exact (wi_iff p1 this.2.1).2 fun x h1 h2 => (p2 x).2 (.inl (at_mem hi h1 h2))
  · obtain ⟨i, hi, rfl⟩ := exists_getS hs
    have := sVal_at p1 hi
    refine (wi_iff u1 this.2.1).2 fun x h1 h2 => ?_
    rw [u2, Bool.or_eq_true]
    rcases (p2 x).1 (at_mem hi h1 h2) with h3 | ⟨g, hg, _, h4⟩
    · exact .inl h3
    · exact .inr (mem_iff.2 ⟨g, hg, h4⟩)
end An.S

/- Law 8: ServiceBreaks. -/
namespace An.S
open Go Go.Proofs An
set_option maxHeartbeats 2000000
theorem fi34 : FnI Tryz.prog 34 := ⟨_, Tryz.func34, by kernel_rfl, rfl⟩
theorem fi35 : FnI Tryz.prog 35 := ⟨_, Tryz.func35, by kernel_rfl, rfl⟩
theorem fi36 : FnI Tryz.prog 36 := ⟨_, Tryz.func36, by kernel_rfl, rfl⟩
theorem c_MeetB (w : List Sn) (h : sVal w = true) (hl : w.length ≤ 1000) : Ct Tryz.prog 34 [tL 2 true tSn w, tL 2 true tSn (brk w)] (tT [tL 2 true tSn [], tI 0]) := by
  have h1 := c_MeetT w (brk w) h (brk_set h) (by omega) (by rw [brk_len]; omega)
  rw [both_none h] at h1; exact h1
theorem brg_len {d : Int} : ∀ (xs acc : List Sn), (xs.foldl (brg1 d) acc).length ≤ acc.length + xs.length
  | [], acc => by simp
  | s :: r, acc => by
    have h1 := brg_len (d := d) r (brg1 d acc s)
    have h2 : (brg1 d acc s).length ≤ acc.length + 1 := by rw [brg1]; split <;> simp
    simp only [List.foldl_cons, List.length_cons]
    omega
theorem c_WithinT (u v : List Sn) (hu : sVal u = true) (hv : sVal v = true) (h : u.all (wi v) = true) (h1 : u.length ≤ 1000) (h2 : v.length ≤ 1000) : Ct Tryz.prog 35 [tL 2 true tSn u, tL 2 true tSn v] (tB true) := by
  have h3 := c_Within u v (by omega) (by omega)
  rw [hu, hv, h] at h3; exact h3
theorem c_Within1 (g : Sn) (v : List Sn) (q : Bool) (hg : okS g) (hv : sVal v = true) (h : wi v g = q) (h2 : v.length ≤ 1000) : Ct Tryz.prog 35 [tL 2 true tSn [g], tL 2 true tSn v] (tB q) := by
  have h3 := c_Within [g] v (by simp) (by omega)
  have h4 : sVal [g] = true := sVal_snoc (l := []) rfl hg fun h' => by cases h'
  rw [h4, hv, List.all_cons, h] at h3
  simpa using h3
theorem c_HasT (v : List Sn) (d : Int) (q : Bool) (hv : sVal v = true) (h : mem v d = q) (h2 : v.length ≤ 1000) : Ct Tryz.prog 36 [tL 2 true tSn v, tI d] (tB q) := by
  have h3 := c_Has v d (by omega)
  rw [hv, hasB_mem hv, h] at h3; exact h3
theorem c_SvBreaks (m : List Nat) (hm : ∀ i, m.getD i 0 < 65536) (x y : Int) (z : Int) :
  Ct Tryz.prog 9 [tLm m, tI x, tI y, tI z] (tB true) := by
 obtain ⟨hB, hl⟩ := builtB m
 have hbt := c_Built m hm
 generalize builtT m = l at *
 have hdx := c_day x
 have ha : 0 ≤ x % 65537 ∧ x % 65537 ≤ 65536 := by omega
 generalize x % 65537 = a at *
 have hdy := c_day y
 have hb : 0 ≤ y % 65537 ∧ y % 65537 ≤ 65536 := by omega
 generalize y % 65537 = b at *
 obtain ⟨pr, hpr⟩ : ∃ p : List Sn, p = (if (askB l a b = true ∧ sVal (wkd l a b) = true ∧ 0 ≤ z) then brg z (wkd l a b) else []) := ⟨_, rfl⟩
 obtain ⟨pe, hpe⟩ : ∃ e : Int, e = (if (askB l a b = true ∧ sVal (wkd l a b) = true ∧ 0 ≤ z) then 0 else 2) := ⟨_, rfl⟩
 have hper := c_Periods l a b z (by omega) hB.dig
 rw [← hpr, ← hpe] at hper
 have hwl := wkd_len (l := l) (a := a) (b := b)
 have hwv := (days_B (a := a) (b := b) hB (by omega) (by omega)).1
 have hbd := fun i hi => bdn (a := a) (b := b) (i := i) hB (by omega) (by omega) hi
 have hask := hB.ask ha hb
 have hbrk := c_BreaksV l a b _ (by omega) hB.dig hask rfl
 have hwk := c_WorkedB l a b hB hl ha hb
 generalize wkd l a b = ww at *
 have hone := all_one hwv
 have hbs := brk_set hwv
 have hbl := brk_len (w := ww)
 refine Ct.intro Tryz.func9 rfl Tryz.ntmps9 rfl ?_
 intro w F
 refine C_seq ?_
 refine C_reg ?_
 refine R1 d_assign rfl ?_
 refine R_nil (by kernel_rfl) ?_
 refine K_then ?_
 refine C_seq ?_
 refine C_seq ?_
 refine C_reg ?_
 refine R0 (d_call c_awake fi12 rfl)  ?_
 refine R1 d_not rfl ?_
 refine R_nil (by kernel_rfl) ?_
 refine K_then ?_
 refine C_bF rfl rfl ?_
 refine C_skip ?_
 refine K_then ?_
 refine C_seq ?_
 refine C_reg ?_
 refine R1 d_move rfl ?_
 refine R1 (d_call hbt fi13 rfl) rfl ?_
 refine R1 d_assign rfl ?_
 refine R_nil (by kernel_rfl) ?_
 refine K_then ?_
 refine C_seq ?_
 refine C_reg ?_
 refine R1 d_move rfl ?_
 refine R1 (d_call hdx fi14 rfl) rfl ?_
 refine R1 d_move rfl ?_
 refine R1 (d_call hdy fi14 rfl) rfl ?_
 refine R1 d_assign rfl ?_
 refine R1 d_assign rfl ?_
 refine R_nil (by kernel_rfl) ?_
 refine K_then ?_
 refine C_seq ?_
 refine C_reg ?_
 refine R1 d_move rfl ?_
 refine R1 d_move rfl ?_
 refine R1 d_move rfl ?_
 refine R3 (d_call hwk fi24 rfl) rfl rfl rfl ?_
 refine R1 d_move rfl ?_
 refine R1 (d_extract rfl) rfl ?_
 refine R1 (d_extract rfl) rfl ?_
 refine R1 d_assign rfl ?_
 refine R1 d_assign rfl ?_
 refine R_nil (by kernel_rfl) ?_
 refine K_then ?_
 refine C_seq ?_
 refine C_reg ?_
 refine R1 d_move rfl ?_
 refine R1 d_move rfl ?_
 refine R1 d_move rfl ?_
 refine R3 (d_call hbrk fi25 rfl) rfl rfl rfl ?_
 refine R1 d_move rfl ?_
 refine R1 (d_extract rfl) rfl ?_
 refine R1 (d_extract rfl) rfl ?_
 refine R1 d_assign rfl ?_
 refine R1 d_assign rfl ?_
 refine R_nil (by kernel_rfl) ?_
 refine K_then ?_
 refine C_seq ?_
 refine C_reg ?_
 refine R1 d_move rfl ?_
 refine R1 d_move rfl ?_
 refine R2 (d_call (c_UnionT ww (brk ww) hwv hbs (by omega) (by omega)) fi32 rfl) rfl rfl ?_
 refine R1 d_move rfl ?_
 refine R1 (d_extract rfl) rfl ?_
 refine R1 (d_extract rfl) rfl ?_
 refine R1 d_assign rfl ?_
 refine R1 d_assign rfl ?_
 refine R_nil (by kernel_rfl) ?_
 refine K_then ?_
 refine C_seq ?_
 refine C_reg ?_
 refine R1 d_move rfl ?_
 refine R1 d_move rfl ?_
 refine R2 (d_call (c_MeetB ww hwv (by omega)) fi34 rfl) rfl rfl ?_
 refine R1 d_move rfl ?_
 refine R1 (d_extract rfl) rfl ?_
 refine R1 (d_extract rfl) rfl ?_
 refine R1 d_assign rfl ?_
 refine R1 d_assign rfl ?_
 refine R_nil (by kernel_rfl) ?_
 refine K_then ?_
 refine C_seq ?_
 refine C_reg ?_
 refine R1 d_move rfl ?_
 refine R1 d_move rfl ?_
 refine R1 d_move rfl ?_
 refine R1 d_move rfl ?_
 refine RE (d_call hper fi26 rfl) ⟨rfl, rfl, rfl, rfl, trivial⟩ trivial trivial ?_
 refine R1 d_move rfl ?_
 refine R1 (d_extract rfl) rfl ?_
 refine R1 (d_extract rfl) rfl ?_
 refine R1 d_assign rfl ?_
 refine R1 d_assign rfl ?_
 refine R_nil (by kernel_rfl) ?_
 refine K_then ?_
 refine C_join (fun (_j : Unit) => True) (fun (_j : Unit) => upd (upd (upd (upd (upd (upd (upd (upd (fun _ => none) 1 (some (.val (tI a)))) 2 (some (.val (tI b)))) 3 (some (.val (tI z)))) 10 (some (.val (tL 2 true tSn ww)))) 14 (some (.val (tL 2 true tSn (unionS ww (brk ww)))))) 18 (some (.val (tL 2 true tSn pr)))) 19 (some (.val (tI pe)))) 12 (some (.val (tL 2 true tSn (brk ww))))) (fun (_j : Unit) => fun _ => none) (nm []) ?_ ?_
 ·
  refine C_seq ?_
  refine C_reg ?_
  refine R1 d_move rfl ?_
  refine R1 d_move rfl ?_
  refine R2 (d_add (wr64 (by omega) (by omega))) rfl rfl ?_
  refine R1 d_move rfl ?_
  refine R2 (d_add (wr64 (by omega) (by omega))) rfl rfl ?_
  refine R1 d_move rfl ?_
  refine R2 (d_add (wr64 (by omega) (by omega))) rfl rfl ?_
  refine R2 d_neq rfl rfl ?_
  refine R1 d_move rfl ?_
  refine RGon (decide_eq_false (by omega)) rfl d_move rfl ⟨rfl, trivial⟩ trivial trivial ?_
  refine RGon (decide_eq_false (by omega)) rfl (d_len Tryz.underlying54) rfl ⟨rfl, trivial⟩ trivial trivial ?_
  refine RGon (decide_eq_false (by omega)) rfl d_gtr rfl ⟨rfl, rfl, trivial⟩ trivial trivial ?_
  refine R2 (d_pickF (decide_eq_false (by omega))) rfl rfl ?_
  refine R1 d_move rfl ?_
  refine RGon (decide_eq_false (by omega)) rfl d_move rfl ⟨rfl, trivial⟩ trivial trivial ?_
  refine RGon (decide_eq_false (by omega)) rfl (d_len Tryz.underlying54) rfl ⟨rfl, trivial⟩ trivial trivial ?_
  refine RGon (decide_eq_false (by omega)) rfl d_gtr rfl ⟨rfl, rfl, trivial⟩ trivial trivial ?_
  refine R2 (d_pickF (decide_eq_false (by omega))) rfl rfl ?_
  refine R1 d_move rfl ?_
  refine RGon (decide_eq_false (by decide)) rfl d_move rfl ⟨rfl, trivial⟩ trivial trivial ?_
  refine RGon (decide_eq_false (by decide)) rfl (d_len Tryz.underlying54) rfl ⟨rfl, trivial⟩ trivial trivial ?_
  refine RGon (decide_eq_false (by decide)) rfl d_gtr rfl ⟨rfl, rfl, trivial⟩ trivial trivial ?_
  refine RGon (decide_eq_false (by decide)) rfl d_move rfl ⟨rfl, trivial⟩ trivial trivial ?_
  refine RGcaseD (t := 86) rfl (fun h120_4 => ?_) (fun h120_4 => ?_)
  ·
   refine RGon (decide_eq_true h120_4) rfl d_move rfl ⟨rfl, trivial⟩ trivial trivial ?_
   refine RGon (decide_eq_true h120_4) rfl (d_len Tryz.underlying54) rfl ⟨rfl, trivial⟩ trivial trivial ?_
   refine RGon (decide_eq_true h120_4) rfl d_move rfl ⟨rfl, trivial⟩ trivial trivial ?_
   refine RGon (decide_eq_true h120_4) rfl (d_len Tryz.underlying54) rfl ⟨rfl, trivial⟩ trivial trivial ?_
   refine RGon (decide_eq_true h120_4) rfl (d_sub (wr64 (by omega) (by omega))) rfl ⟨rfl, rfl, trivial⟩ trivial trivial ?_
   refine RGon (decide_eq_true h120_4) rfl d_neq rfl ⟨rfl, rfl, trivial⟩ trivial trivial ?_
   refine RGon (decide_eq_false (by decide)) rfl (d_pickT (decide_eq_true h120_4)) rfl ⟨rfl, rfl, trivial⟩ trivial trivial ?_
   refine R2 (d_pickF (decide_eq_false (by decide))) rfl rfl ?_
   refine R1 d_move rfl ?_
   refine RGon (decide_eq_false (by omega)) rfl d_move rfl ⟨rfl, trivial⟩ trivial trivial ?_
   refine RGon (decide_eq_false (by omega)) rfl (d_len Tryz.underlying54) rfl ⟨rfl, trivial⟩ trivial trivial ?_
   refine RGon (decide_eq_false (by omega)) rfl d_eql rfl ⟨rfl, rfl, trivial⟩ trivial trivial ?_
   refine RGon (decide_eq_false (by omega)) rfl d_move rfl ⟨rfl, trivial⟩ trivial trivial ?_
   refine RGoff (decide_eq_false (by omega)) rfl rfl ?_
   refine RGoff (decide_eq_false (by omega)) rfl rfl ?_
   refine RGoff (decide_eq_false (by omega)) rfl rfl ?_
   refine RGon (decide_eq_false (by omega)) rfl (d_pickF (decide_eq_false (by omega))) rfl ⟨rfl, rfl, trivial⟩ trivial trivial ?_
   refine R2 (d_pickF (decide_eq_false (by omega))) rfl rfl ?_
   refine R_nil (by kernel_rfl) ?_
   refine K_then ?_
   refine C_bF rfl rfl ?_
   refine C_skip ?_
   exact K_fam (()) trivial (Sub.cons rfl (Sub.int rfl (by first | omega | rfl | (dsimp only; omega)) (Sub.cons rfl (Sub.cons rfl (Sub.cons rfl (Sub.int rfl (by first | omega | rfl | (dsimp only; omega)) (Sub.int rfl (by first | omega | rfl | (dsimp only; omega)) (Sub.int rfl (by first | omega | rfl | (dsimp only; omega)) Sub.nil)))))))) SubK.nil (SupG.val (SupG.val (SupG.val (SupG.val (SupG.val (SupG.val (SupG.val (SupG.val SupG.nil)))))))) SupH.nil (lkOk rfl)
  ·
   refine RGoff (decide_eq_false h120_4) rfl rfl ?_
   refine RGoff (decide_eq_false h120_4) rfl rfl ?_
   refine RGoff (decide_eq_false h120_4) rfl rfl ?_
   refine RGoff (decide_eq_false h120_4) rfl rfl ?_
   refine RGoff (decide_eq_false h120_4) rfl rfl ?_
   refine RGoff (decide_eq_false h120_4) rfl rfl ?_
   refine RGon (decide_eq_false (by decide)) rfl (d_pickF (decide_eq_false h120_4)) rfl ⟨rfl, rfl, trivial⟩ trivial trivial ?_
   refine R2 (d_pickF (decide_eq_false (by decide))) rfl rfl ?_
   refine R1 d_move rfl ?_
   refine RGon rfl rfl d_move rfl ⟨rfl, trivial⟩ trivial trivial ?_
   refine RGon rfl rfl (d_len Tryz.underlying54) rfl ⟨rfl, trivial⟩ trivial trivial ?_
   refine RGon rfl rfl d_eql rfl ⟨rfl, rfl, trivial⟩ trivial trivial ?_
   refine RGon rfl rfl d_move rfl ⟨rfl, trivial⟩ trivial trivial ?_
   refine RGon (decide_eq_true (by omega)) rfl d_move rfl ⟨rfl, trivial⟩ trivial trivial ?_
   refine RGon (decide_eq_true (by omega)) rfl (d_len Tryz.underlying54) rfl ⟨rfl, trivial⟩ trivial trivial ?_
   refine RGon (decide_eq_true (by omega)) rfl d_gtr rfl ⟨rfl, rfl, trivial⟩ trivial trivial ?_
   refine RGon rfl rfl (d_pickT (decide_eq_true (by omega))) rfl ⟨rfl, rfl, trivial⟩ trivial trivial ?_
   refine R2 (d_pickF rfl) rfl rfl ?_
   refine R_nil (by kernel_rfl) ?_
   refine K_then ?_
   refine C_bF rfl (decide_eq_false (by omega)) ?_
   refine C_skip ?_
   exact K_fam (()) trivial (Sub.cons rfl (Sub.int rfl (by first | omega | rfl | (dsimp only; omega)) (Sub.cons rfl (Sub.cons rfl (Sub.cons rfl (Sub.int rfl (by first | omega | rfl | (dsimp only; omega)) (Sub.int rfl (by first | omega | rfl | (dsimp only; omega)) (Sub.int rfl (by first | omega | rfl | (dsimp only; omega)) Sub.nil)))))))) SubK.nil (SupG.val (SupG.val (SupG.val (SupG.val (SupG.val (SupG.val (SupG.val (SupG.val SupG.nil)))))))) SupH.nil (lkOk rfl)
 ·
  intro _j hj
  refine C_seq ?_
  refine C_seq ?_
  refine C_reg ?_
  refine R1 d_move rfl ?_
  refine R2 d_lss rfl rfl ?_
  refine R_nil (by kernel_rfl) ?_
  refine K_then ?_
  refine C_if rfl (fun h123 => ?_) (fun h123 => ?_)
  ·
   have hpc : ¬ (askB l a b = true ∧ sVal ww = true ∧ 0 ≤ z) := by omega
   have hpe2 : pe = 2 := by rw [hpe, if_neg hpc]
   have hpr0 : pr.length = 0 := by rw [hpr, if_neg hpc]; rfl
   refine C_seq ?_
   refine C_reg ?_
   refine R1 d_move rfl ?_
   refine R2 d_eql rfl rfl ?_
   refine R1 d_move rfl ?_
   refine RGon (decide_eq_true (by omega)) rfl d_move rfl ⟨rfl, trivial⟩ trivial trivial ?_
   refine RGon (decide_eq_true (by omega)) rfl (d_len Tryz.underlying54) rfl ⟨rfl, trivial⟩ trivial trivial ?_
   refine RGon (decide_eq_true (by omega)) rfl d_eql rfl ⟨rfl, rfl, trivial⟩ trivial trivial ?_
   refine R2 (d_pickT (decide_eq_true (by omega))) rfl rfl ?_
   refine R1 d_assign rfl ?_
   refine R_nil (by kernel_rfl) ?_
   refine K_then ?_
   refine C_ret ?_
   refine K_retT ?_
   exact E_ret1 Plain.mk' rfl rfl (Le.bool (decide_eq_true (by omega)))
  ·
   have hz : 0 ≤ z := by omega
   have hpc : askB l a b = true ∧ sVal ww = true ∧ 0 ≤ z := ⟨hask, hwv, hz⟩
   have hpe0 : pe = 0 := by rw [hpe, if_pos hpc]
   have hprE : pr = brg z ww := by rw [hpr, if_pos hpc]
   have hpv : sVal pr = true := by rw [hprE]; exact (brg_spec hwv hz).1
   have hprl : pr.length ≤ 1000 := by
    have := brg_len (d := z) ww []
    rw [hprE, brg]; simp at this; omega
   refine C_skip ?_
   refine K_then ?_
   refine C_seq ?_
   refine C_seq ?_
   refine C_reg ?_
   refine R1 d_move rfl ?_
   refine R1 (d_len Tryz.underlying54) rfl ?_
   refine R1 d_move rfl ?_
   refine R_nil (by kernel_rfl) ?_
   refine K_then ?_
   refine C_block ?_
   refine C_loop (fun (i : Nat) => i ≤ (brk ww).length) (fun (i : Nat) => upd (upd (upd (upd (upd (upd (upd (upd (upd (upd (fun _ => none) 1 (some (.val (tI a)))) 2 (some (.val (tI b)))) 3 (some (.val (tI z)))) 10 (some (.val (tL 2 true tSn ww)))) 14 (some (.val (tL 2 true tSn (unionS ww (brk ww)))))) 18 (some (.val (tL 2 true tSn pr)))) 19 (some (.val (tI pe)))) 114 (some (.val (tL 2 true tSn (brk ww))))) 115 (some (.val (tI (brk ww).length)))) 116 (some (.val (tI i)))) (fun (i : Nat) => fun _ => none) (nm []) (fun (i : Nat) => (brk ww).length - i) (0) (Nat.zero_le _) (Sub.int rfl (by first | omega | rfl | (dsimp only; omega)) (Sub.int rfl (by first | omega | rfl | (dsimp only; omega)) (Sub.cons rfl (Sub.int rfl (by first | omega | rfl | (dsimp only; omega)) (Sub.cons rfl (Sub.cons rfl (Sub.cons rfl (Sub.int rfl (by first | omega | rfl | (dsimp only; omega)) (Sub.int rfl (by first | omega | rfl | (dsimp only; omega)) (Sub.int rfl (by first | omega | rfl | (dsimp only; omega)) Sub.nil)))))))))) SubK.nil (SupG.val (SupG.val (SupG.val (SupG.val (SupG.val (SupG.val (SupG.val (SupG.val (SupG.val (SupG.val SupG.nil)))))))))) SupH.nil (lkOk rfl) ?_
   intro i hI
   refine C_seq ?_
   refine C_reg ?_
   refine R2 d_lss rfl rfl ?_
   refine R_nil (by kernel_rfl) ?_
   refine K_then ?_
   refine C_seq ?_
   refine C_if rfl (fun h126 => ?_) (fun h126 => ?_)
   ·
    refine C_skip ?_
    refine K_then ?_
    refine C_seq ?_
    refine C_block ?_
    refine C_seq ?_
    refine C_reg ?_
    have hgm : ((brk ww).getD i sn0) ∈ brk ww := mem_getS (by omega)
    obtain ⟨g1, g2⟩ := per_has hwv hz hgm
    have hge := brk_getD (w := ww) (i := i) (by omega)
    have hg3 := sVal_lt hwv (show i < i + 1 by omega) (by omega)
    have hg4 := hbd i (by omega)
    have hg5 := hbd (i + 1) (by omega)
    have hg6 := sVal_at hwv (i := i) (by omega)
    have hg7 := sVal_at hwv (i := i + 1) (by omega)
    have hg8 : ((brk ww).getD i sn0).lo = (ww.getD i sn0).hi := by rw [hge]
    have hg9 : ((brk ww).getD i sn0).hi = (ww.getD (i + 1) sn0).lo := by rw [hge]
    rw [← hprE] at g1 g2
    refine R2 (d_indexP sl54 (i) (by omega) (gD (l := brk ww) (n := i) (d := sn0) (by omega))) rfl rfl ?_
    refine R1 (d_loadP ti69) rfl ?_
    refine RE (d_alloc (k := 21) (n := 2) (agg := true) zr69.1 zr69.2 rfl) trivial trivial ⟨rfl, trivial⟩ ?_
    refine RE (d_store (es := 2) (agg := true) (0) ti69 rfl rfl rfl) ⟨rfl, rfl, trivial⟩ ⟨rfl, trivial⟩ trivial ?_
    refine R_nil (by kernel_rfl) ?_
    refine K_then ?_
    refine C_seq ?_
    refine C_draw mixed ?_
    refine R1 (d_fieldO fo69_0 rfl) rfl ?_
    refine R_loadF (0) ti3 rfl rfl rfl (At.g 0 rfl rfl) rfl ?_
    refine R1 d_move rfl ?_
    refine R2 d_leq rfl rfl ?_
    refine R1 d_move rfl ?_
    refine RGon (decide_eq_false (by omega)) rfl (d_fieldO fo69_1 rfl) rfl ⟨rfl, trivial⟩ trivial trivial ?_
    refine RG_loadF (decide_eq_false (by omega)) rfl rfl (0) ti3 rfl rfl rfl (At.g 1 rfl rfl) rfl ?_
    refine RGon (decide_eq_false (by omega)) rfl d_move rfl ⟨rfl, trivial⟩ trivial trivial ?_
    refine RGon (decide_eq_false (by omega)) rfl d_geq rfl ⟨rfl, rfl, trivial⟩ trivial trivial ?_
    refine R2 (d_pickF (decide_eq_false (by omega))) rfl rfl ?_
    refine R1 d_move rfl ?_
    refine RGon (decide_eq_false (by omega)) rfl (d_load (0) ti69 rfl rfl) rfl ⟨rfl, trivial⟩ ⟨rfl, trivial⟩ trivial ?_
    refine RGon (decide_eq_false (by omega)) rfl (d_vals (n := 1) (f := tSn) [((brk ww).getD i sn0)] Tryz.underlying54 el69 zf69 rfl (fun _ => inferInstance) rfl rfl rfl) rfl ⟨rfl, trivial⟩ trivial trivial ?_
    refine RGon (decide_eq_false (by omega)) rfl d_move rfl ⟨rfl, trivial⟩ trivial trivial ?_
    refine RGon (decide_eq_false (by omega)) rfl (d_call (c_Within1 ((brk ww).getD i sn0) pr (decide (((brk ww).getD i sn0).hi - ((brk ww).getD i sn0).lo ≤ z)) ⟨by omega, by omega, by omega⟩ hpv g2 (by omega)) fi35 rfl) rfl ⟨rfl, rfl, trivial⟩ trivial trivial ?_
    refine RGon (decide_eq_false (by omega)) rfl (d_fieldO fo69_1 rfl) rfl ⟨rfl, trivial⟩ trivial trivial ?_
    refine RG_loadF (decide_eq_false (by omega)) rfl rfl (0) ti3 rfl rfl rfl (At.g 1 rfl rfl) rfl ?_
    refine RGon (decide_eq_false (by omega)) rfl (d_fieldO fo69_0 rfl) rfl ⟨rfl, trivial⟩ trivial trivial ?_
    refine RG_loadF (decide_eq_false (by omega)) rfl rfl (0) ti3 rfl rfl rfl (At.g 0 rfl rfl) rfl ?_
    refine RGon (decide_eq_false (by omega)) rfl (d_sub (wr64 (by omega) (by omega))) rfl ⟨rfl, rfl, trivial⟩ trivial trivial ?_
    refine RGon (decide_eq_false (by omega)) rfl d_move rfl ⟨rfl, trivial⟩ trivial trivial ?_
    refine RGon (decide_eq_false (by omega)) rfl d_leq rfl ⟨rfl, rfl, trivial⟩ trivial trivial ?_
    refine RGon (decide_eq_false (by omega)) rfl (d_neqB Tryz.underlying4) rfl ⟨rfl, rfl, trivial⟩ trivial trivial ?_
    refine R2 (d_pickF (decide_eq_false (by omega))) rfl rfl ?_
    refine R1 d_move rfl ?_
    refine RGon (by simp) rfl d_move rfl ⟨rfl, trivial⟩ trivial trivial ?_
    refine RGon (by simp) rfl (d_fieldO fo69_0 rfl) rfl ⟨rfl, trivial⟩ trivial trivial ?_
    refine RG_loadF (by simp) rfl rfl (0) ti3 rfl rfl rfl (At.g 0 rfl rfl) rfl ?_
    refine RGon (by simp) rfl (d_call (c_HasT pr ((brk ww).getD i sn0).lo (decide (((brk ww).getD i sn0).hi - ((brk ww).getD i sn0).lo ≤ z)) hpv g1 (by omega)) fi36 rfl) rfl ⟨rfl, rfl, trivial⟩ trivial trivial ?_
    refine RGon (by simp) rfl (d_fieldO fo69_1 rfl) rfl ⟨rfl, trivial⟩ trivial trivial ?_
    refine RG_loadF (by simp) rfl rfl (0) ti3 rfl rfl rfl (At.g 1 rfl rfl) rfl ?_
    refine RGon (by simp) rfl (d_fieldO fo69_0 rfl) rfl ⟨rfl, trivial⟩ trivial trivial ?_
    refine RG_loadF (by simp) rfl rfl (0) ti3 rfl rfl rfl (At.g 0 rfl rfl) rfl ?_
    refine RGon (by simp) rfl (d_sub (wr64 (by omega) (by omega))) rfl ⟨rfl, rfl, trivial⟩ trivial trivial ?_
    refine RGon (by simp) rfl d_move rfl ⟨rfl, trivial⟩ trivial trivial ?_
    refine RGon (by simp) rfl d_leq rfl ⟨rfl, rfl, trivial⟩ trivial trivial ?_
    refine RGon (by simp) rfl (d_neqB Tryz.underlying4) rfl ⟨rfl, rfl, trivial⟩ trivial trivial ?_
    refine R2 (d_pickF (by simp)) rfl rfl ?_
    refine R_end (by kernel_rfl) ?_
    refine K_then ?_
    refine C_bF rfl (by simp) ?_
    refine C_skip ?_
    refine K_norB ?_
    refine K_then ?_
    refine C_reg ?_
    refine R2 (d_add (wr64 (by omega) (by omega))) rfl rfl ?_
    refine R1 d_move rfl ?_
    refine R_nil (by kernel_rfl) ?_
    exact K_fam (i + 1) ⟨(by omega), (by omega)⟩ (Sub.int rfl (by first | omega | rfl | (dsimp only; omega)) (Sub.int rfl (by first | omega | rfl | (dsimp only; omega)) (Sub.cons rfl (Sub.int rfl (by first | omega | rfl | (dsimp only; omega)) (Sub.cons rfl (Sub.cons rfl (Sub.cons rfl (Sub.int rfl (by first | omega | rfl | (dsimp only; omega)) (Sub.int rfl (by first | omega | rfl | (dsimp only; omega)) (Sub.int rfl (by first | omega | rfl | (dsimp only; omega)) Sub.nil)))))))))) SubK.nil (SupG.val (SupG.val (SupG.val (SupG.val (SupG.val (SupG.val (SupG.val (SupG.val (SupG.val (SupG.val SupG.nil)))))))))) SupH.nil (lkOk rfl)
   ·
    refine C_exit ?_
    refine K_exT ?_
    refine K_exT ?_
    refine K_exB ?_
    refine K_then ?_
    refine C_seq ?_
    refine C_reg ?_
    refine R1 d_move rfl ?_
    refine R2 d_eql rfl rfl ?_
    refine R1 d_move rfl ?_
    refine RGon (decide_eq_true (by omega)) rfl d_move rfl ⟨rfl, trivial⟩ trivial trivial ?_
    refine RGon (decide_eq_true (by omega)) rfl d_move rfl ⟨rfl, trivial⟩ trivial trivial ?_
    refine RGon (decide_eq_true (by omega)) rfl (d_call (c_WithinT ww pr hwv hpv (by rw [hprE]; exact (per_all hwv hz).1) (by omega) (by omega)) fi35 rfl) rfl ⟨rfl, rfl, trivial⟩ trivial trivial ?_
    refine R2 (d_pickT (decide_eq_true (by omega))) rfl rfl ?_
    refine R1 d_move rfl ?_
    refine RGon rfl rfl d_move rfl ⟨rfl, trivial⟩ trivial trivial ?_
    refine RGon rfl rfl d_move rfl ⟨rfl, trivial⟩ trivial trivial ?_
    refine RGon rfl rfl (d_call (c_WithinT pr (unionS ww (brk ww)) hpv (unionS_spec hwv hbs).1 (by rw [hprE]; exact (per_all hwv hz).2) (by omega) (by omega)) fi35 rfl) rfl ⟨rfl, rfl, trivial⟩ trivial trivial ?_
    refine R2 (d_pickT rfl) rfl rfl ?_
    refine R1 d_assign rfl ?_
    refine R_nil (by kernel_rfl) ?_
    refine K_then ?_
    refine C_ret ?_
    exact E_ret1 Plain.mk' rfl rfl Le.refl
end An.S
