/- Part 5 of a proof: Sv, Tv, Tv2, Tv3, LibZe, LibZd, Tw, LibZf, P1, Gs, Tx, Chg, Chg2a, Ty, LibZc, P2, LibZg, P3, P4, LibZh, LibZi, LibLk. -/
import Derived.Shelf.Sort.Plain
import Derived.Shelf.Slices.In.SortNone
import Derived.Shelf.Slices.CompactI
import Derived.Test.YtkenppkgldecmaaGreatV4
/- Layers 4 and 5: steps in order, sets of days. Plain data, but for what the walks define. -/
namespace An.S
open Go
theorem tRight_iff {l : List Tst} : tRight l = true ↔ (∀ i, i < l.length → tOk l i = true) ∧ ∀ s ∈ l, s.v.valid = true := by
  simp only [tRight, Bool.and_eq_true, List.all_eq_true, List.mem_range]
theorem getD_snoc {l : List Tst} {s : Tst} {i : Nat} : (l ++ [s]).getD i tst0 = if i < l.length then l.getD i tst0 else if i = l.length then s else tst0 := by
  simp only [List.getD_eq_getElem?_getD, List.getElem?_append]
  by_cases h : i < l.length
  · simp [h]
  · by_cases h2 : i = l.length
    · simp [h2]
    · have : i - l.length ≠ 0 := by omega
      simp only [h, h2, if_false]
      rw [List.getElem?_eq_none (by simp; omega)]; rfl
theorem getD_setT {l : List Tst} {s : Tst} {i j : Nat} (hj : j < l.length) : (l.set j s).getD i tst0 = if i = j then s else l.getD i tst0 := by
  simp only [List.getD_eq_getElem?_getD]
  by_cases h : i = j
  · subst h; rw [List.getElem?_set_self hj]; simp
  · rw [List.getElem?_set_ne (Ne.symm h)]; simp [h]
/-- One more piece: still a timeline. -/
theorem pst1_right {l : List Tst} {s : Tst} (h : tRight l = true) (h0 : 0 ≤ s.lo) (h1 : s.hi ≤ 65536) (hv : s.v.valid = true) (hl : 0 < l.length → (l.getD (l.length - 1) tst0).hi ≤ s.lo ∧ (l.getD (l.length - 1) tst0).v.kind = s.v.kind) : tRight (pst1 l s) = true := by
  rw [pst1]
  split
  · exact h
  · rename_i hlt
    obtain ⟨ha, hb⟩ := tRight_iff.1 h
    split
    · rename_i hm
      refine tRight_iff.2 ⟨fun i hi => ?_, fun x hx => ?_⟩
      · rw [List.length_set] at hi
        have ho := tOk_iff.1 (ha i hi)
        refine tOk_iff.2 ?_
        rw [getD_setT (by omega), getD_setT (by omega)]
        by_cases e : i = l.length - 1
        · subst e
          rw [if_pos rfl]
          refine ⟨ho.1, by dsimp only; have := ho.2.1; omega, h1, ?_⟩
          by_cases e0 : l.length - 1 = 0
          · exact .inl e0
          · rw [if_neg (by omega)]
            exact .inr (ho.2.2.2.resolve_left e0)
        · rw [if_neg e]
          by_cases e0 : i = 0
          · exact ⟨ho.1, ho.2.1, ho.2.2.1, .inl e0⟩
          · rw [if_neg (by omega)]; exact ho
      · rcases List.mem_or_eq_of_mem_set hx with h' | h'
        · exact hb x h'
        · subst h'; exact hb (l.getD (l.length - 1) tst0) (xf5 (by omega))
    · rename_i hm
      refine tRight_iff.2 ⟨fun i hi => ?_, fun x hx => ?_⟩
      · refine tOk_iff.2 ?_
        rw [List.length_append, List.length_singleton] at hi
        rw [getD_snoc, getD_snoc]
        by_cases e : i < l.length
        · have ho := tOk_iff.1 (ha i e)
          rw [if_pos e, if_pos (by omega)]; exact ho
        · have e2 : i = l.length := by omega
          subst e2
          rw [if_neg (by omega), if_pos rfl]
          refine ⟨h0, by omega, h1, ?_⟩
          by_cases e0 : l.length = 0
          · exact .inl e0
          · rw [if_pos (by omega)]
            have := hl (by omega)
            exact .inr ⟨this.1, this.2, fun h' => hm ⟨by omega, h'.1, h'.2⟩⟩
      · rcases List.mem_append.1 hx with h' | h'
        · exact hb x h'
        · rw [List.mem_singleton.1 h']; exact hv
theorem tRight_lt {l : List Tst} (h : tRight l = true) : ∀ {j i : Nat}, i < j → j < l.length → (l.getD i tst0).hi ≤ (l.getD j tst0).lo
  | j + 1, i, hij, hj => by
    have h1 := (xi4 h hj).2.2.2.resolve_left (by omega)
    have h1 : (l.getD j tst0).hi ≤ (l.getD (j + 1) tst0).lo := h1.1
    rcases Nat.lt_or_ge i j with h2 | h2
    · have h3 := tRight_lt h h2 (by omega)
      have h4 := (xi4 h (i := j) (by omega)).2.1
      omega
    · have : i = j := by omega
      subst this; exact h1
theorem tRight_pair {l : List Tst} (h : tRight l = true) : l.Pairwise fun s t => s.hi ≤ t.lo := by
  refine List.pairwise_iff_getElem.2 fun i j hi hj hij => ?_
  have := tRight_lt h hij hj
  rwa [List.getD_eq_getElem?_getD, List.getD_eq_getElem?_getD, List.getElem?_eq_getElem hi, List.getElem?_eq_getElem hj] at this
/-! Worked days. -/
def okS (s : Sn) : Prop := 0 ≤ s.lo ∧ s.lo < s.hi ∧ s.hi ≤ 65536
def ascS (l : List Sn) : Prop := (∀ s ∈ l, okS s) ∧ l.Pairwise fun s t => s.hi ≤ t.lo
theorem ascS_pos {l : List Sn} (h : ascS l) : l.filter pos = l := List.filter_eq_self.2 fun s hs => by
  have := h.1 s hs
  simp only [pos, decide_eq_true_eq]; exact this.2.1
theorem ascS_srt {l : List Sn} (h : ascS l) : srt cfSn l = l := by
  refine srt_asc swoSn ?_
  refine List.pairwise_iff_forall_sublist.2 fun {s t} hst => ?_
  have h1 := List.pairwise_iff_forall_sublist.1 h.2 hst
  have h2 := (h.1 s (hst.subset (List.mem_cons_self ..))).2.1
  rw [ltSn]; simp; omega
theorem ascS_ok {l : List Sn} (h : ascS l) : l.all Sn.ok = true := List.all_eq_true.2 fun s hs => by
  have := h.1 s hs
  simp only [Sn.ok, Bool.and_eq_true, decide_eq_true_eq]; simp only [okS] at this; omega
/-! Sets. -/
def lastS (l : List Sn) : Sn := l.getD (l.length - 1) sn0
theorem sVal_iff {l : List Sn} : sVal l = true ↔ ∀ i, i < l.length → sOkA l i = true := by
  simp only [sVal, List.all_eq_true, List.mem_range]
theorem getD_snocS {l : List Sn} {s : Sn} {i : Nat} : (l ++ [s]).getD i sn0 = if i < l.length then l.getD i sn0 else if i = l.length then s else sn0 := by
  simp only [List.getD_eq_getElem?_getD, List.getElem?_append]
  by_cases h : i < l.length
  · simp [h]
  · by_cases h2 : i = l.length
    · simp [h2]
    · have : i - l.length ≠ 0 := by omega
      simp only [h, h2, if_false]
      rw [List.getElem?_eq_none (by simp; omega)]; rfl
/-- A set, a span behind it. -/
theorem sVal_snoc {l : List Sn} {s : Sn} (h : sVal l = true) (hs : okS s) (hl : 0 < l.length → (lastS l).hi < s.lo) : sVal (l ++ [s]) = true := by
  refine sVal_iff.2 fun i hi => sOkA_iff.2 ?_
  rw [List.length_append, List.length_singleton] at hi
  rw [getD_snocS, getD_snocS]
  by_cases e : i < l.length
  · have ho := sOkA_iff.1 (sVal_iff.1 h i e)
    rw [if_pos e, if_pos (by omega)]; exact ho
  · have e2 : i = l.length := by omega
    subst e2
    rw [if_neg (by omega), if_pos rfl]
    obtain ⟨h1, h2, h3⟩ := hs
    refine ⟨by simp [Sn.ok]; omega, by omega, ?_⟩
    by_cases e0 : l.length = 0
    · exact .inl e0
    · rw [if_pos (by omega)]; exact .inr (hl (by omega))
def dayS (l : List Sn) : Int := (l.map fun s => s.hi - s.lo).sum
end An.S

/- Layer 5: a timeline is known by the values of its days. Plain data, but for what the walks define. -/
namespace An.S
open Go
def hasD (d : Int) (s : Tst) : Bool := decide (s.lo ≤ d) && decide (d < s.hi)
theorem hasD_iff {d : Int} {s : Tst} : hasD d s = true ↔ s.lo ≤ d ∧ d < s.hi := by simp [hasD]
/-- The value of a day. -/
def valT (l : List Tst) (d : Int) : Option Va := (l.find? (hasD d)).map (·.v)
theorem xg0 {s : Tst} {r : List Tst} {d : Int} : valT (s :: r) d = if s.lo ≤ d ∧ d < s.hi then some s.v else valT r d := by
  by_cases h : s.lo ≤ d ∧ d < s.hi
  · rw [if_pos h, valT, List.find?_cons_of_pos (hasD_iff.2 h)]; rfl
  · rw [if_neg h, valT, List.find?_cons_of_neg (fun h' => h (hasD_iff.1 h'))]; rfl
theorem valT_none {l : List Tst} {d : Int} : valT l d = none ↔ ∀ s ∈ l, ¬ (s.lo ≤ d ∧ d < s.hi) := by
  rw [valT, Option.map_eq_none_iff, List.find?_eq_none]
  simp only [hasD_iff]
theorem valT_append {a b : List Tst} {d : Int} : valT (a ++ b) d = (valT a d).or (valT b d) := by
  rw [valT, List.find?_append, valT, valT]
  cases a.find? (hasD d) <;> rfl
theorem valT_some {l : List Tst} {d : Int} {v : Va} (h : valT l d = some v) : ∃ s ∈ l, (s.lo ≤ d ∧ d < s.hi) ∧ s.v = v := by
  obtain ⟨s, h1, h2⟩ := Option.map_eq_some_iff.1 h
  exact ⟨s, List.mem_of_find?_eq_some h1, hasD_iff.1 (List.find?_some h1), h2⟩
def ascT (l : List Tst) : Prop := (∀ s ∈ l, s.lo < s.hi) ∧ l.Pairwise fun s t => s.hi ≤ t.lo
/-- Neighbours differ. -/
def nbT : List Tst → Prop
  | [] => True
  | [_] => True
  | s :: t :: r => ¬ (s.hi = t.lo ∧ s.v = t.v) ∧ nbT (t :: r)
theorem tl_ext : ∀ {a b : List Tst}, ascT a → nbT a → ascT b → nbT b → (∀ d, valT a d = valT b d) → a = b
  | [], [], _, _, _, _, _ => rfl
  | [], t :: u, _, _, hb, _, h => by
    have h1 := hb.1 t (List.mem_cons_self ..)
    have h2 := h t.lo
    rw [xg0, if_pos ⟨Int.le_refl _, h1⟩] at h2; cases h2
  | s :: r, [], ha, _, _, _, h => by
    have h1 := ha.1 s (List.mem_cons_self ..)
    have h2 := h s.lo
    rw [xg0, if_pos ⟨Int.le_refl _, h1⟩] at h2; cases h2
  | s :: r, t :: u, ha, na, hb, nb, h => by
    have hs := ha.1 s (List.mem_cons_self ..)
    have ht := hb.1 t (List.mem_cons_self ..)
    have pa := List.pairwise_cons.1 ha.2
    have pb := List.pairwise_cons.1 hb.2
    have a0 : valT (s :: r) s.lo = some s.v := by rw [xg0, if_pos ⟨Int.le_refl _, hs⟩]
    have b0 : valT (t :: u) t.lo = some t.v := by rw [xg0, if_pos ⟨Int.le_refl _, ht⟩]
    have l1 : t.lo ≤ s.lo := by
      obtain ⟨x, hx, hx2, _⟩ := valT_some ((h s.lo).symm.trans a0)
      rcases List.mem_cons.1 hx with rfl | hx
      · exact hx2.1
      · have := pb.1 x hx; omega
    have l2 : s.lo ≤ t.lo := by
      obtain ⟨x, hx, hx2, _⟩ := valT_some ((h t.lo).trans b0)
      rcases List.mem_cons.1 hx with rfl | hx
      · exact hx2.1
      · have := pa.1 x hx; omega
    have elo : s.lo = t.lo := by omega
    have ev : s.v = t.v := by
      have := (h s.lo).symm.trans a0
      rw [elo, b0] at this; exact (Option.some.inj this).symm
    have key : ∀ {s t : Tst} {r u : List Tst}, ascT (s :: r) → nbT (s :: r) → s.lo = t.lo → s.v = t.v → (∀ d, valT (s :: r) d = valT (t :: u) d) → ¬ s.hi < t.hi := by
      intro s t r u ha na elo ev h h1
      have hs := ha.1 s (List.mem_cons_self ..)
      have pa := List.pairwise_cons.1 ha.2
      have h2 := h s.hi
      rw [xg0, if_neg (by omega), xg0, if_pos (by omega)] at h2
      obtain ⟨x, hx, hx2, hx3⟩ := valT_some h2
      cases r with
      | nil => cases hx
      | cons y q =>
        have hy := pa.1 y (List.mem_cons_self ..)
        have py := List.pairwise_cons.1 pa.2
        have e : x = y := by
          rcases List.mem_cons.1 hx with rfl | hx
          · rfl
          · have := py.1 x hx; have := ha.1 y (List.mem_cons_of_mem _ (List.mem_cons_self ..)); omega
        subst e
        exact na.1 ⟨by omega, by rw [hx3, ev]⟩
    have ehi : s.hi = t.hi := by
      have := key ha na elo ev h
      have := key hb nb elo.symm ev.symm (fun d => (h d).symm)
      omega
    have est : s = t := by
      obtain ⟨a1, a2, a3⟩ := s; obtain ⟨b1, b2, b3⟩ := t
      simp only at elo ev ehi
      rw [elo, ev, ehi]
    subst est
    congr 1
    refine tl_ext ⟨fun x hx => ha.1 x (List.mem_cons_of_mem _ hx), pa.2⟩ ?_ ⟨fun x hx => hb.1 x (List.mem_cons_of_mem _ hx), pb.2⟩ ?_ fun d => ?_
    · cases r with
      | nil => trivial
      | cons y q => exact na.2
    · cases u with
      | nil => trivial
      | cons y q => exact nb.2
    · rcases Int.lt_or_le d s.hi with h1 | h1
      · have e1 : valT r d = none := valT_none.2 fun x hx h' => by have := pa.1 x hx; omega
        have e2 : valT u d = none := valT_none.2 fun x hx h' => by have := pb.1 x hx; omega
        rw [e1, e2]
      · have h2 := h d
        rwa [xg0, if_neg (by omega), xg0, if_neg (by omega)] at h2
/-! Pieces, put together. -/
theorem nb_snoc {s : Tst} : ∀ {l : List Tst} {x : Tst}, nbT (l ++ [x]) → ¬ (x.hi = s.lo ∧ x.v = s.v) → nbT (l ++ [x] ++ [s])
  | [], _, _, h => ⟨h, trivial⟩
  | [_], _, h1, h => ⟨h1.1, h, trivial⟩
  | _ :: z :: r, _, h1, h => ⟨h1.1, nb_snoc (l := z :: r) h1.2 h⟩
theorem nb_set {x' : Tst} : ∀ {l : List Tst} {x : Tst}, nbT (l ++ [x]) → x'.lo = x.lo → x'.v = x.v → nbT (l ++ [x'])
  | [], _, _, _, _ => trivial
  | [_], _, h1, e1, e2 => ⟨by rw [e1, e2]; exact h1.1, trivial⟩
  | _ :: z :: r, _, h1, e1, e2 => ⟨h1.1, nb_set (l := z :: r) h1.2 e1 e2⟩
theorem asc_snoc {l : List Tst} {s : Tst} (h : ascT l) (hs : s.lo < s.hi) (hl : ∀ x ∈ l, x.hi ≤ s.lo) : ascT (l ++ [s]) := by
  refine ⟨fun x hx => ?_, List.pairwise_append.2 ⟨h.2, List.pairwise_singleton .., fun x hx y hy => by rw [List.mem_singleton.1 hy]; exact hl x hx⟩⟩
  rcases List.mem_append.1 hx with hx | hx
  · exact h.1 x hx
  · rw [List.mem_singleton.1 hx]; exact hs
theorem split_lastT {l : List Tst} (h : 0 < l.length) : l = l.take (l.length - 1) ++ [l.getD (l.length - 1) tst0] := by
  have e : l.take (l.length - 1 + 1) = l.take (l.length - 1) ++ [l[l.length - 1]] := List.take_succ_eq_append_getElem (by omega)
  rw [show l.length - 1 + 1 = l.length by omega, List.take_length] at e
  rw [List.getD_eq_getElem?_getD, List.getElem?_eq_getElem (by omega)]; exact e
theorem set_lastT {l : List Tst} {x : Tst} (h : 0 < l.length) : l.set (l.length - 1) x = l.take (l.length - 1) ++ [x] := by
  have e := List.set_eq_take_append_cons_drop (l := l) (i := l.length - 1) (a := x)
  rw [if_pos (by omega), show l.length - 1 + 1 = l.length by omega, List.drop_length] at e
  exact e
/-- One more piece. -/
theorem pst1_val {acc : List Tst} {s : Tst} (h : ascT acc) (hn : nbT acc) (hs : s.lo < s.hi) (hl : ∀ x ∈ acc, x.hi ≤ s.lo) : ascT (pst1 acc s) ∧ nbT (pst1 acc s) ∧ (∀ x ∈ pst1 acc s, x.hi ≤ s.hi) ∧ ∀ d, valT (pst1 acc s) d = (valT acc d).or (if s.lo ≤ d ∧ d < s.hi then some s.v else none) := by
  have e1 : ∀ d, valT [s] d = if s.lo ≤ d ∧ d < s.hi then some s.v else none := fun d => by rw [xg0]; rfl
  rw [pst1, if_neg (by omega)]
  split
  · rename_i hm
    have ea := split_lastT hm.1
    rw [set_lastT hm.1]
    generalize acc.getD (acc.length - 1) tst0 = x at *
    generalize acc.take (acc.length - 1) = q at *
    subst ea
    have hp := List.pairwise_append.1 h.2
    have hx := h.1 x (List.mem_append_right _ (List.mem_singleton.2 rfl))
    have hq : ascT q := ⟨fun y hy => h.1 y (List.mem_append_left _ hy), hp.1⟩
    have hqx : ∀ y ∈ q, y.hi ≤ x.lo := fun y hy => hp.2.2 y hy x (List.mem_singleton.2 rfl)
    refine ⟨asc_snoc hq (by dsimp only; omega) hqx, nb_set hn rfl rfl, fun y hy => ?_, fun d => ?_⟩
    · rcases List.mem_append.1 hy with hy | hy
      · have := hqx y hy; omega
      · rw [List.mem_singleton.1 hy]; exact Int.le_refl _
    · rw [valT_append, valT_append, xg0, xg0]
      cases hv : valT q d with
      | some v => rfl
      | none =>
        simp only [Option.none_or]
        have h1 := hm.2.1
        by_cases c1 : x.lo ≤ d ∧ d < x.hi
        · rw [if_pos (by omega), if_pos c1]; rfl
        · by_cases c2 : s.lo ≤ d ∧ d < s.hi
          · rw [if_pos (by omega), if_neg c1, if_pos c2, hm.2.2]; rfl
          · rw [if_neg (by omega), if_neg c1, if_neg c2]; rfl
  · rename_i hm
    refine ⟨asc_snoc h hs hl, ?_, fun y hy => ?_, fun d => by rw [valT_append, e1]⟩
    · rcases Nat.eq_zero_or_pos acc.length with h0 | h0
      · rw [List.eq_nil_of_length_eq_zero h0]; trivial
      · have ea := split_lastT h0
        have h2 : ¬ ((acc.getD (acc.length - 1) tst0).hi = s.lo ∧ (acc.getD (acc.length - 1) tst0).v = s.v) := fun h' => hm ⟨h0, h'.1, h'.2⟩
        rw [ea] at hn ⊢
        exact nb_snoc hn h2
    · rcases List.mem_append.1 hy with hy | hy
      · have := hl y hy; omega
      · rw [List.mem_singleton.1 hy]; exact Int.le_refl _
/-- Pieces in order: what is put together has their values. -/
theorem pst_val : ∀ (ps acc : List Tst), ascT acc → nbT acc → (ps.Pairwise fun s t => s.lo < s.hi → s.hi ≤ t.lo) → (∀ x ∈ acc, ∀ s ∈ ps, s.lo < s.hi → x.hi ≤ s.lo) → ascT (pst acc ps) ∧ nbT (pst acc ps) ∧ ∀ d, valT (pst acc ps) d = (valT acc d).or (valT ps d)
  | [], acc, h, hn, _, _ => ⟨h, hn, fun d => by show valT acc d = _; cases valT acc d <;> rfl⟩
  | s :: r, acc, h, hn, hp, hl => by
    have hp1 := List.pairwise_cons.1 hp
    have e : pst acc (s :: r) = pst (pst1 acc s) r := rfl
    rw [e]
    by_cases hs : s.lo < s.hi
    · obtain ⟨k1, k2, k3, k4⟩ := pst1_val h hn hs fun x hx => hl x hx s (List.mem_cons_self ..) hs
      have ih := pst_val r (pst1 acc s) k1 k2 hp1.2 fun x hx t ht htl => by
        have := k3 x hx
        have := hp1.1 t ht hs; omega
      refine ⟨ih.1, ih.2.1, fun d => ?_⟩
      rw [ih.2.2, k4, xg0, Option.or_assoc]
      congr 1
      split <;> rfl
    · have e1 : pst1 acc s = acc := by rw [pst1, if_pos (by omega)]
      rw [e1]
      have ih := pst_val r acc h hn hp1.2 fun x hx t ht => hl x hx t (List.mem_cons_of_mem _ ht)
      refine ⟨ih.1, ih.2.1, fun d => ?_⟩
      rw [ih.2.2, xg0, if_neg (by omega)]
end An.S

/- Layer 5: segments between days; parts and joins by the values of their days. Plain data, but for what the walks define. -/
namespace An.S
open Go
/-- Pieces between neighbouring days. -/
def segL (g : Int → Option Va) : List Int → List Tst
  | x :: y :: r => (match g x with | some v => [⟨x, y, v⟩] | none => []) ++ segL g (y :: r)
  | _ => []
/-- Between neighbouring days nothing changes. -/
def cOn (g : Int → Option Va) : List Int → Prop
  | x :: y :: r => (∀ d, x ≤ d → d < y → g d = g x) ∧ cOn g (y :: r)
  | _ => True
theorem segL_lo {g : Int → Option Va} : ∀ {ds : List Int} {x : Int} {s : Tst}, (x :: ds).Pairwise (· < ·) → s ∈ segL g (x :: ds) → x ≤ s.lo
  | [], x, s, _, h => by cases h
  | y :: r, x, s, hp, h => by
    have hp1 := List.pairwise_cons.1 hp
    rw [segL] at h
    rcases List.mem_append.1 h with h | h
    · cases hg : g x with
      | none => rw [hg] at h; cases h
      | some v => rw [hg] at h; rw [List.mem_singleton.1 h]; exact Int.le_refl _
    · have := segL_lo hp1.2 h
      have := hp1.1 y (List.mem_cons_self ..); omega
theorem segL_pw {g : Int → Option Va} : ∀ {ds : List Int}, ds.Pairwise (· < ·) → (∀ s ∈ segL g ds, s.lo < s.hi) ∧ (segL g ds).Pairwise fun s t => s.hi ≤ t.lo
  | [], _ => ⟨fun s h => (by cases h), .nil⟩
  | [x], _ => ⟨fun s h => (by cases h), .nil⟩
  | x :: y :: r, hp => by
    have hp1 := List.pairwise_cons.1 hp
    have hxy := hp1.1 y (List.mem_cons_self ..)
    have ih := segL_pw (g := g) hp1.2
    rw [segL]
    cases hg : g x with
    | none => exact ih
    | some v =>
      refine ⟨fun s h => ?_, List.pairwise_cons.2 ⟨fun t ht => segL_lo hp1.2 ht, ih.2⟩⟩
      rcases List.mem_cons.1 h with rfl | h
      · exact hxy
      · exact ih.1 s h
/-- All ends of steps are among these days. -/
def ends (ds : List Int) (l : List Tst) : Prop := ∀ s ∈ l, s.lo ∈ ds ∧ s.hi ∈ ds
/-- The join of two timelines. -/
def jnG (a b : List Tst) (d : Int) : Option Va := (valT b d).or (valT a d)
/-- A part of a timeline. -/
theorem cut_val {l : List Tst} {a b : Int} (h : ascT l) : ascT (cutT l a b) ∧ nbT (cutT l a b) ∧ ∀ d, valT (cutT l a b) d = if a ≤ d ∧ d < b then valT l d else none := by
  have hp : (l.map (clip a b)).Pairwise fun s t => s.lo < s.hi → s.hi ≤ t.lo := h.2.map (clip a b) fun s t hst _ => by simp only [clip]; omega
  have := pst_val (l.map (clip a b)) [] ⟨fun s hs => (by cases hs), .nil⟩ trivial hp fun x hx => by cases hx
  refine ⟨this.1, this.2.1, fun d => ?_⟩
  rw [cutT, this.2.2]
  show valT (l.map (clip a b)) d = _
  clear this hp h
  induction l with
  | nil => simp [valT]
  | cons s r ih =>
    rw [List.map_cons, xg0, xg0, ih]
    show (if max s.lo a ≤ d ∧ d < min s.hi b then some s.v else if a ≤ d ∧ d < b then valT r d else none) = if a ≤ d ∧ d < b then (if s.lo ≤ d ∧ d < s.hi then some s.v else valT r d) else none
    by_cases c1 : a ≤ d ∧ d < b
    · rw [if_pos c1, if_pos c1]
      by_cases c2 : s.lo ≤ d ∧ d < s.hi
      · rw [if_pos c2, if_pos ⟨by omega, by omega⟩]
      · rw [if_neg c2, if_neg (fun h => c2 ⟨by omega, by omega⟩)]
    · rw [if_neg c1, if_neg c1, if_neg (fun h => c1 ⟨by omega, by omega⟩)]
/-- What lies outside of a span. -/
def woP (a b : Int) (s : Tst) : List Tst := [⟨s.lo, min s.hi a, s.v⟩, ⟨max s.lo b, s.hi, s.v⟩]
def woT (l : List Tst) (a b : Int) : List Tst := pst [] (l.flatMap (woP a b))
end An.S

/- Layer 5: being a timeline, by neighbours. Plain data, but for what the walks define. -/
namespace An.S
open Go
theorem nb_of : ∀ {l : List Tst}, (∀ i, i + 1 < l.length → ¬ ((l.getD i tst0).hi = (l.getD (i + 1) tst0).lo ∧ (l.getD i tst0).v = (l.getD (i + 1) tst0).v)) → nbT l
  | [], _ => trivial
  | [_], _ => trivial
  | s :: t :: r, h => ⟨h 0 (by simp), nb_of (l := t :: r) fun i hi => h (i + 1) (by simpa using hi)⟩
theorem nb_at : ∀ {l : List Tst} {i : Nat}, nbT l → i + 1 < l.length → ¬ ((l.getD i tst0).hi = (l.getD (i + 1) tst0).lo ∧ (l.getD i tst0).v = (l.getD (i + 1) tst0).v)
  | [], _, _, hi => by simp at hi
  | [_], _, _, hi => by simp at hi
  | s :: t :: r, 0, h, _ => h.1
  | s :: t :: r, i + 1, h, hi => nb_at (l := t :: r) h.2 (by simpa using hi)
theorem xi7 {l : List Tst} (h : tRight l = true) : ascT l := ⟨fun s hs => by
  obtain ⟨i, hi, rfl⟩ := exists_getD hs
  exact (xi4 h hi).2.1, tRight_pair h⟩
theorem tRight_nb {l : List Tst} (h : tRight l = true) : nbT l := nb_of fun i hi => by
  have := (xi4 h hi).2.2.2.resolve_left (by omega)
  exact this.2.2
theorem asc_lt {l : List Tst} (h : ascT l) {i j : Nat} (hij : i < j) (hj : j < l.length) : (l.getD i tst0).hi ≤ (l.getD j tst0).lo := by
  have := List.pairwise_iff_getElem.1 h.2 i j (by omega) hj hij
  rwa [List.getD_eq_getElem?_getD, List.getD_eq_getElem?_getD, List.getElem?_eq_getElem (show i < l.length by omega), List.getElem?_eq_getElem hj]
/-- Steps in order, of one kind, are a timeline. -/
theorem right_of {l : List Tst} {K : Nat} (h : ascT l) (hn : nbT l) (hv : ∀ s ∈ l, 0 ≤ s.lo ∧ s.hi ≤ 65536 ∧ s.v.valid = true ∧ s.v.kind = K) : tRight l = true := by
  refine tRight_iff.2 ⟨fun i hi => tOk_iff.2 ?_, fun s hs => (hv s hs).2.2.1⟩
  have h1 := hv _ (xf5 (l := l) hi)
  refine ⟨h1.1, h.1 _ (xf5 hi), h1.2.1, ?_⟩
  by_cases h0 : i = 0
  · exact .inl h0
  · have h2 := hv _ (xf5 (l := l) (i := i - 1) (by omega))
    have h3 := nb_at hn (i := i - 1) (by omega)
    rw [show i - 1 + 1 = i by omega] at h3
    exact .inr ⟨asc_lt h (by omega) hi, by rw [h2.2.2.2, h1.2.2.2], h3⟩
/-- Two timelines with the same values are the same. -/
theorem tl_same {a b : List Tst} (ha : tRight a = true) (hb : tRight b = true) (h : ∀ d, valT a d = valT b d) : a = b := tl_ext (xi7 ha) (tRight_nb ha) (xi7 hb) (tRight_nb hb) h
end An.S

/- Pointers that may be nil. For any program. -/
namespace An
open Go
/-- A pointer to this, or nil. -/
def tO {α : Type} (n : Nat) (agg : Bool) (f : α → Ty) : Option α → Ty
  | none => tE (.pointer none)
  | some x => tP n agg (f x)
instance {α : Type} {n : Nat} {agg : Bool} {f : α → Ty} {o : Option α} : Shape (tO n agg f o) 1 false := ⟨fun h => by
  cases o with
  | none => have h : _ = _ := h; rw [h]; exact xg1 rfl
  | some x => obtain ⟨_, _, _, h, _⟩ := h; rw [h]; exact xg1 rfl⟩
section
variable {P : Program} {c : Base} {d ty : Nat} {pos : String} {af : Array Edge} {gd : Option (Nat × Bool)} {α : Type} {n : Nat} {agg : Bool} {f : α → Ty}
theorem run_equalP {T E : TypeId} (hT : P.underlying T = some (.pointer E)) (A : Option Addr) (w : World) : (Op.equal T (.pointer A) (.pointer none)).run P w = .ok A.isNone w := by
  have key : ∀ d, (Op.equalIn (d + 1) T (.pointer A) (.pointer none)).run P w = .ok A.isNone w := fun d => by
    cases A <;> simp only [Op.equalIn, Sem.run_bind, run_underlying hT, Result.andThen_ok, Sem.run_pure] <;> rfl
  exact key 9999
theorem tO_nil {F : Dom} {w : World} {o : Option α} {v : Value} (h : (tO n agg f o).p F w v) : ∃ A : Option Addr, v = .pointer A ∧ A.isNone = o.isNone := by
  cases o with
  | none => exact ⟨none, h, rfl⟩
  | some x => obtain ⟨b, q, u, h1, _⟩ := h; exact ⟨_, h1, rfl⟩
theorem d_eqlNil {T E yT : TypeId} {x : Operand} {o : Option α} (hT : P.underlying T = some (.pointer E)) :
    Does P c ⟨some d, .binOp .eql T x (.const (.pointer none)) yT, ty, pos, af, gd⟩ ⟨[(x, .val (tO n agg f o))], [], some (d, some (.val (tB o.isNone))), [], []⟩ :=
  Does.value rfl fun g h al a w η hrd _ s => by
    obtain ⟨A, h1, h4⟩ := tO_nil (xc3 s hrd.1).1
    have h1 : a.eval x = .pointer A := h1
    have h2 : a.eval (.const (.pointer none)) = .pointer none := rfl
    refine ⟨.bool A.isNone, w, ?_, Ext.refl w, congrArg Value.bool h4, fun j hj => by cases hj⟩
    have hg : (eqGuard .eql T x (.const (.pointer none)) (.pointer A) (.pointer none)).run P w = .ok () w := by
      simp [eqGuard, go_sem]
    simp only [execOp, h1, h2, Sem.run_bind, hg, Result.andThen_ok, binOp, run_equalP hT, Sem.run_pure]
theorem d_neqNil {T E yT : TypeId} {x : Operand} {o : Option α} (hT : P.underlying T = some (.pointer E)) :
    Does P c ⟨some d, .binOp .neq T x (.const (.pointer none)) yT, ty, pos, af, gd⟩ ⟨[(x, .val (tO n agg f o))], [], some (d, some (.val (tB (!o.isNone)))), [], []⟩ :=
  Does.value rfl fun g h al a w η hrd _ s => by
    obtain ⟨A, h1, h4⟩ := tO_nil (xc3 s hrd.1).1
    have h1 : a.eval x = .pointer A := h1
    have h2 : a.eval (.const (.pointer none)) = .pointer none := rfl
    refine ⟨.bool (!A.isNone), w, ?_, Ext.refl w, congrArg (fun b => Value.bool (!b)) h4, fun j hj => by cases hj⟩
    have hg : (eqGuard .neq T x (.const (.pointer none)) (.pointer A) (.pointer none)).run P w = .ok () w := by
      simp [eqGuard, go_sem]
    simp only [execOp, h1, h2, Sem.run_bind, hg, Result.andThen_ok, binOp, run_equalP hT, Sem.run_pure]
/-- It is not nil. -/
theorem d_checkO {x : Operand} {o : Option α} {y : α} (ho : o = some y) :
    Does P c ⟨some d, .nilCheck x, ty, pos, af, gd⟩ ⟨[(x, .val (tO n agg f o))], [], some (d, some (.val (tP n agg (f y)))), [], []⟩ := by
  subst ho; exact d_nilCheckP
theorem leO {o : Option α} {y : α} (ho : o = some y) : Le (tP n agg (f y)) (tO n agg f o) := by subst ho; exact Le.refl
theorem leO0 {o : Option α} (ho : o = none) : Le (tE (.pointer none)) (tO n agg f o) := by subst ho; exact Le.refl
end
end An

/- slices.Sort and slices.Compact at ints, as contracts that are lent the row. For any program. -/
namespace An
open Go Go.Proofs Go.Shelf Go.Sort
theorem row_hold {w : World} {b T : Nat} {cs : Array Value} {xs : List Int} (c1 : w.heap[b]? = some (.cells cs T (0, 0))) (c3 : ∀ (i : Nat) (h : i < xs.length), cs[i]? = some (.int .i64 xs[i])) : Holds (Value.int .i64) w b 0 xs.toArray := by
  intro j hj
  have hj : j < xs.length := by simpa using hj
  have e : xs.toArray[j]! = xs[j] := by rw [getElem!_pos _ _ (by simpa using hj)]; simp
  refine ⟨?_, by simp [World.frozen?, c1]⟩
  rw [e]
  simp only [World.cell?, c1, Nat.zero_add]
  exact c3 j hj
/-- What is known behind a call that has laid other numbers into the row. -/
theorem row_out {F : Dom} {w w' : World} {η : Env} {T : Nat} {xs ys : List Int} {zs : Array Int} {re : Ent} {v : Value} {cs : Array Value} (hc0 : 0 < η.c 1) (k4 : η.c 1 ≤ 9223372036854775807) (c1 : w.heap[η.b 1]? = some (.cells cs T (0, 0))) (c2 : cs.size = η.c 1) (_hz : zs.size ≤ η.c 1) (_hI : InjK η [(1, ⟨T, 1, false, rV tI xs⟩)])
    (ho : w'.os = w.os) (ht : w'.tape = w.tape) (hp : w'.output = w.output) (hsz : w.heap.size ≤ w'.heap.size) (hheap : ∀ b', b' < w.heap.size → w'.heap[b']? = if b' = η.b 1 then some (.cells (putCells (Value.int .i64) 0 zs cs) T (0, 0)) else w.heap[b']?)
    (hy : ys.length ≤ zs.size) (hyz : ∀ (i : Nat) (h : i < ys.length), zs[i]! = ys[i]) (hre : ∀ F, re.sat F w' η v) : Out F w η [(1, ⟨T, 1, false, rV tI xs⟩)] re [(1, ⟨T, 1, false, rV tI ys⟩)] [] v w' η := by
  have hblk : η.b 1 < w.heap.size := xd4 c1
  refine ⟨⟨ho, ht, hp, hsz, fun b' hb' hn' => ?_⟩, fun _ _ => ⟨rfl, rfl⟩, hre _, fun x hx => ?_, fun x hx y hy hne => ?_, fun b' hb' => .inl ?_⟩
  · rw [hheap b' hb', if_neg]
    intro hb; exact hn' ⟨(1, ⟨T, 1, false, rV tI xs⟩), by simp, hc0, hb⟩
  · simp only [List.mem_singleton] at hx
    subst hx
    refine ⟨by show (rV tI ys).length ≤ η.c 1; rw [rV_len]; omega, Nat.one_pos, fun _ => rfl, k4, fun _ => ⟨putCells (Value.int .i64) 0 zs cs, ?_, ?_, fun i e hi => ?_⟩⟩
    · rw [hheap _ hblk, if_pos rfl]
    · simp only [putCells, Array.size_mapIdx]; rw [c2]; simp
    · have hil : i < ys.length := by
        have := (List.getElem?_eq_some_iff.1 hi).1; rwa [rV_len] at this
      have hi : (rV tI ys)[i]? = some e := hi
      rw [rV, List.getElem?_map, List.getElem?_eq_getElem hil] at hi
      simp only [Option.map_some, Option.some.injEq] at hi
      subst hi
      show pick false 1 (putCells (Value.int .i64) 0 zs cs) (i * 1) = .int .i64 ys[i]
      rw [Nat.mul_one, pick, cond_false, Array.getD_eq_getD_getElem?]
      simp only [putCells, Array.getElem?_mapIdx]
      rw [Array.getElem?_eq_getElem (show i < cs.size by omega)]
      simp only [Option.map_some, Option.getD_some]
      rw [if_pos ⟨Nat.zero_le _, by omega⟩, Nat.sub_zero, hyz i hil]
  · simp only [List.mem_singleton] at hx hy
    subst hx; subst hy
    exact absurd rfl hne
  · obtain ⟨x, hx, hc, rfl⟩ := hb'
    simp only [List.mem_singleton] at hx
    subst hx
    exact ⟨(1, ⟨T, 1, false, rV tI xs⟩), by simp, hc, rfl⟩
theorem put_heap {w : World} {b : Nat} {T m : Nat} {cs : Array Value} {zs : Array Int} (c1 : w.heap[b]? = some (.cells cs T (0, 0))) (b' : Nat) : (putRow (Value.int .i64) (Sort.ahead w m) b 0 zs).heap[b']? = if b' = b then some (.cells (putCells (Value.int .i64) 0 zs cs) T (0, 0)) else w.heap[b']? := by
  simp only [putRow, mapBlock, Array.getElem?_modify]
  by_cases hb : b' = b
  · subst hb
    rw [if_pos rfl, if_pos rfl]
    show Option.map _ (w.heap[b']?) = _
    rw [c1]; rfl
  · rw [if_neg (fun h => hb h.symm), if_neg hb]; rfl
def srtI (xs : List Int) : List Int := xs.mergeSort fun x y => decide (x ≤ y)
/-- slices.Sort. -/
theorem sortI {P : Program} {ρ : Ren} (L : Lays.n189 P ρ) (T : Nat) (xs : List Int) (hn : xs.length < 4611686018427387904) :
    CtG P (ρ.f 189) [(1, ⟨T, 1, false, rV tI xs⟩)] [.own (.sl 1 1 0 xs.length)] (.val (tE (.tuple #[]))) [(1, ⟨T, 1, false, rV tI (srtI xs)⟩)] [] := by
  intro F w η vs hS hA hI hF
  match vs, hS with
  | [v0], hS =>
  obtain ⟨⟨A, rfl, hle, hadr⟩, _⟩ := hS
  obtain ⟨k1, k2, k3, k4, k5⟩ := hA (1, ⟨T, 1, false, rV tI xs⟩) (by simp)
  have k1 : (rV tI xs).length ≤ η.c 1 := k1
  have k4 : η.c 1 ≤ 9223372036854775807 := k4
  rw [rV_len] at k1
  have hlen : (srtI xs).length = xs.length := List.length_mergeSort ..
  by_cases h0 : xs.length = 0
  · have hx : xs = [] := List.length_eq_zero_iff.1 h0
    subst hx
    have e0 : srtI ([] : List Int) = [] := List.length_eq_zero_iff.1 hlen
    rw [e0]
    refine (Any.slices_Sort_int_none L A (η.c 1 - 0) w).mono ?_
    rintro e w' ⟨rfl, rfl⟩
    refine ⟨_, η, rfl, ⟨Stp.refl _ _, fun _ _ => ⟨rfl, rfl⟩, rfl, fun x hx => ?_, hI, fun b hb => .inl hb⟩⟩
    simp only [List.mem_singleton] at hx
    subst hx
    refine ⟨by simp [rV], k2, k3, k4, fun hc => ?_⟩
    obtain ⟨cs, c1, c2, _⟩ := k5 hc
    exact ⟨cs, c1, c2, fun i e hi => by simp [rV] at hi⟩
  · have hc0 : 0 < η.c 1 := by omega
    obtain ⟨cs, c1, c2, c3⟩ := k5 hc0
    have c1 : w.heap[η.b 1]? = some (.cells cs T (0, 0)) := c1
    have c2 : cs.size = η.c 1 * 1 := c2
    rw [Nat.mul_one] at c2
    have hA' := hadr hc0
    rw [Nat.zero_mul] at hA'
    subst hA'
    have hblk : η.b 1 < w.heap.size := xd4 c1
    have c3' : ∀ (i : Nat) (h : i < xs.length), cs[i]? = some (.int .i64 xs[i]) := fun i hi => by
      have h3 := c3 i (.val (tI xs[i])) (by show (rV tI xs)[i]? = _; rw [rV, List.getElem?_map, List.getElem?_eq_getElem hi]; rfl)
      have h3 : cs.getD (i * 1) undef = .int .i64 xs[i] := h3
      rw [Nat.mul_one, Array.getD_eq_getD_getElem?, Array.getElem?_eq_getElem (show i < cs.size by omega)] at h3
      rw [Array.getElem?_eq_getElem (show i < cs.size by omega)]
      exact congrArg some h3
    refine (Any.slices_Sort_int L (η.b 1) 0 (η.c 1 - 0) xs w (row_hold c1 c3') hblk hn).mono ?_
    rintro e w' ⟨rfl, m, os, rfl⟩
    refine ⟨_, η, rfl, ?_⟩
    refine row_out (zs := (srtI xs).toArray) hc0 k4 c1 c2 (by simp [hlen]; omega) hI rfl rfl rfl ?_ (fun b' hb' => ?_) (by simp) (fun i hi => ?_) (fun F => rfl)
    · show w.heap.size ≤ (grow (putRow (Value.int .i64) (Sort.ahead w m) (η.b 1) 0 (srtI xs).toArray) os).heap.size
      simp [grow, putRow, mapBlock, Sort.ahead]
    · show (grow (putRow (Value.int .i64) (Sort.ahead w m) (η.b 1) 0 (srtI xs).toArray) os).heap[b']? = _
      rw [heap_grow_old _ _ (by simp [putRow, mapBlock, Sort.ahead]; exact hb')]
      exact put_heap c1 b'
    · rw [getElem!_pos _ _ (by simpa using hi)]; simp
theorem compUp_len (d : Array Int) : ∀ m, (Lib.compactUpTo d m).length ≤ m
  | 0 => Nat.le_refl _
  | m + 1 => by
    rw [Lib.compactUpTo_succ, List.length_append]
    have := compUp_len d m
    split <;> simp <;> omega
theorem comp_len (xs : List Int) : (Lib.compact xs).length ≤ xs.length := compUp_len _ _
/-- slices.Compact. -/
theorem compactI {P : Program} {ρ : Ren} (L : Lays2.n20 P ρ) (T : Nat) (xs : List Int) :
    CtG P (ρ.f 20) [(1, ⟨T, 1, false, rV tI xs⟩)] [.own (.sl 1 1 0 xs.length)] (.own (.sl 1 1 0 (Lib.compact xs).length)) [(1, ⟨T, 1, false, rV tI (Lib.compact xs)⟩)] [] := by
  intro F w η vs hS hA hI hF
  match vs, hS with
  | [v0], hS =>
  obtain ⟨⟨A, rfl, hle, hadr⟩, _⟩ := hS
  obtain ⟨k1, k2, k3, k4, k5⟩ := hA (1, ⟨T, 1, false, rV tI xs⟩) (by simp)
  have k1 : (rV tI xs).length ≤ η.c 1 := k1
  have k4 : η.c 1 ≤ 9223372036854775807 := k4
  rw [rV_len] at k1
  have hlen : (Lib.compact xs).length ≤ xs.length := comp_len xs
  by_cases h0 : xs.length = 0
  · have hx : xs = [] := List.length_eq_zero_iff.1 h0
    subst hx
    have e0 : Lib.compact ([] : List Int) = [] := rfl
    rw [e0]
    refine (Any.slices_Compact_int_empty L A (η.c 1 - 0) w).mono ?_
    rintro e w' ⟨rfl, rfl⟩
    refine ⟨_, η, rfl, ⟨Stp.refl _ _, fun _ _ => ⟨rfl, rfl⟩, ⟨A, rfl, hle, hadr⟩, fun x hx => ?_, hI, fun b hb => .inl hb⟩⟩
    simp only [List.mem_singleton] at hx
    subst hx
    refine ⟨by simp [rV], k2, k3, k4, fun hc => ?_⟩
    obtain ⟨cs, c1, c2, _⟩ := k5 hc
    exact ⟨cs, c1, c2, fun i e hi => by simp [rV] at hi⟩
  · have hc0 : 0 < η.c 1 := by omega
    obtain ⟨cs, c1, c2, c3⟩ := k5 hc0
    have c1 : w.heap[η.b 1]? = some (.cells cs T (0, 0)) := c1
    have c2 : cs.size = η.c 1 * 1 := c2
    rw [Nat.mul_one] at c2
    have hA' := hadr hc0
    rw [Nat.zero_mul] at hA'
    subst hA'
    have c3' : ∀ (i : Nat) (h : i < xs.length), cs[i]? = some (.int .i64 xs[i]) := fun i hi => by
      have h3 := c3 i (.val (tI xs[i])) (by show (rV tI xs)[i]? = _; rw [rV, List.getElem?_map, List.getElem?_eq_getElem hi]; rfl)
      have h3 : cs.getD (i * 1) undef = .int .i64 xs[i] := h3
      rw [Nat.mul_one, Array.getD_eq_getD_getElem?, Array.getElem?_eq_getElem (show i < cs.size by omega)] at h3
      rw [Array.getElem?_eq_getElem (show i < cs.size by omega)]
      exact congrArg some h3
    refine (Any.slices_Compact_int L (η.b 1) 0 (η.c 1 - 0) xs w (row_hold c1 c3') (by omega) (by omega)).mono ?_
    rintro e w' ⟨rfl, q, rfl⟩
    refine ⟨_, η, rfl, ?_⟩
    refine row_out (zs := (Lib.compact xs ++ List.replicate (xs.length - (Lib.compact xs).length) 0).toArray) hc0 k4 c1 c2 (by simp; omega) hI rfl rfl rfl ?_ (fun b' hb' => put_heap c1 b') (by simp) (fun i hi => ?_) (fun F => ⟨_, rfl, by omega, fun _ => by rw [Nat.zero_mul]⟩)
    · simp [putRow, mapBlock, Sort.ahead]
    · rw [getElem!_pos _ _ (by simp; omega)]; simp [List.getElem_append_left hi]
/-- Sorted, without duplicates. -/
def brd (xs : List Int) : List Int := Lib.compact (srtI xs)
theorem brd_aux {d : Array Int} (hd : ∀ i j, i < j → j < d.size → d[i]! ≤ d[j]!) : ∀ m, m ≤ d.size → (Lib.compactUpTo d m).Pairwise (· < ·) ∧ ∀ x, x ∈ Lib.compactUpTo d m ↔ ∃ i, i < m ∧ d[i]! = x
  | 0, _ => ⟨List.Pairwise.nil, fun x => ⟨fun h => (List.not_mem_nil h).elim, fun ⟨i, hi, _⟩ => absurd hi (Nat.not_lt_zero _)⟩⟩
  | m + 1, hm => by
    obtain ⟨h1, h2⟩ := brd_aux hd m (by omega)
    rw [Lib.compactUpTo_succ]
    by_cases hk : Lib.keeps d m = true
    · rw [if_pos hk]
      have hk' : m = 0 ∨ d[m]! ≠ d[m - 1]! := of_decide_eq_true hk
      refine ⟨List.pairwise_append.2 ⟨h1, List.pairwise_singleton _ _, fun x hx y hy => ?_⟩, fun x => ?_⟩
      · rw [List.mem_singleton.1 hy]
        obtain ⟨i, hi, rfl⟩ := (h2 x).1 hx
        have hm0 : m ≠ 0 := by omega
        have h3 := hk'.resolve_left hm0
        have h4 := hd (m - 1) m (by omega) (by omega)
        have h5 : d[i]! ≤ d[m - 1]! := by
          rcases Nat.lt_or_ge i (m - 1) with h | h
          · exact hd i (m - 1) h (by omega)
          · rw [show i = m - 1 by omega]; exact Int.le_refl _
        omega
      · rw [List.mem_append, List.mem_singleton, h2]
        constructor
        · rintro (⟨i, hi, e⟩ | rfl)
          · exact ⟨i, by omega, e⟩
          · exact ⟨m, by omega, rfl⟩
        · rintro ⟨i, hi, e⟩
          rcases Nat.lt_or_ge i m with h | h
          · exact .inl ⟨i, h, e⟩
          · exact .inr (by rw [← e, show i = m by omega])
    · rw [if_neg hk, List.append_nil]
      have hk' : ¬ (m = 0 ∨ d[m]! ≠ d[m - 1]!) := fun h => hk (decide_eq_true h)
      refine ⟨h1, fun x => ?_⟩
      rw [h2]
      constructor
      · rintro ⟨i, hi, e⟩; exact ⟨i, by omega, e⟩
      · rintro ⟨i, hi, e⟩
        rcases Nat.lt_or_ge i m with h | h
        · exact ⟨i, h, e⟩
        · have hm0 : m ≠ 0 := fun h => hk' (.inl h)
          have he : d[m]! = d[m - 1]! := Decidable.byContradiction fun h => hk' (.inr h)
          exact ⟨m - 1, by omega, by rw [← he, ← e, show i = m by omega]⟩
theorem brd_spec (xs : List Int) : (brd xs).Pairwise (· < ·) ∧ ∀ x, x ∈ brd xs ↔ x ∈ xs := by
  have hs : (srtI xs).Pairwise fun x y => decide (x ≤ y) = true := List.pairwise_mergeSort (fun a b c h1 h2 => by simp at *; omega) (fun a b => by simp; omega) xs
  have hp : (srtI xs).Perm xs := List.mergeSort_perm ..
  have h := brd_aux (d := (srtI xs).toArray) (fun i j hij hj => by
    have hj : j < (srtI xs).length := by simpa using hj
    have := List.pairwise_iff_getElem.1 hs i j (by omega) hj hij
    rw [getElem!_pos _ _ (by simp; omega), getElem!_pos _ _ (by simpa using hj)]
    simpa using this) (srtI xs).length (by simp)
  refine ⟨h.1, fun x => (h.2 x).trans ⟨fun ⟨i, hi, e⟩ => ?_, fun hx => ?_⟩⟩
  · rw [getElem!_pos _ _ (by simpa using hi)] at e
    rw [← hp.mem_iff, ← e]; simp
  · obtain ⟨i, hi, e⟩ := List.getElem_of_mem (hp.mem_iff.2 hx)
    exact ⟨i, hi, by rw [getElem!_pos _ _ (by simpa using hi)]; simpa using e⟩
theorem brd_len (xs : List Int) : (brd xs).length ≤ xs.length := by
  have := comp_len (srtI xs)
  rw [srtI, List.length_mergeSort] at this
  exact this
end An

/- Layer 5: two timelines, walked together. Plain data, but for what the walks define. -/
namespace An.S
open Go
def onL (l : List Tst) (d : Int) : List Tst := l.dropWhile fun s => decide (s.hi ≤ d)
def onV (l : List Tst) (d : Int) : Option Va := if 0 < (onL l d).length ∧ ((onL l d).getD 0 tst0).lo ≤ d then some ((onL l d).getD 0 tst0).v else none
theorem on_next {xs : List Tst} {d : Int} (h : 0 < xs.length) (h1 : (xs.getD 0 tst0).hi ≤ d) : onL (xs.drop 1) d = onL xs d := by
  cases xs with
  | nil => simp at h
  | cons s r =>
    have h1 : s.hi ≤ d := h1
    rw [onL, onL, List.dropWhile_cons_of_pos (by simpa using h1)]; rfl
theorem on_stop {xs : List Tst} {d : Int} (h : ¬ (0 < xs.length ∧ (xs.getD 0 tst0).hi ≤ d)) : onL xs d = xs := by
  cases xs with
  | nil => rfl
  | cons s r =>
    have h1 : ¬ s.hi ≤ d := fun h' => h ⟨by simp, h'⟩
    rw [onL, List.dropWhile_cons_of_neg (by simpa using h1)]
theorem onL_len {l : List Tst} {d : Int} : (onL l d).length ≤ l.length := (List.dropWhile_sublist _).length_le
theorem onL_asc {l : List Tst} {d : Int} (h : ascT l) : ascT (onL l d) := ⟨fun s hs => h.1 s ((List.dropWhile_sublist _).subset hs), h.2.sublist (List.dropWhile_sublist _)⟩
theorem onL_val {d : Int} : ∀ {l : List Tst}, ∀ e, d ≤ e → valT (onL l d) e = valT l e
  | [], _, _ => rfl
  | s :: r, e, h => by
    by_cases h1 : s.hi ≤ d
    · have : onL (s :: r) d = onL r d := by rw [onL, List.dropWhile_cons_of_pos (by simpa using h1)]; rfl
      rw [this, onL_val e h, xg0, if_neg (by omega)]
    · have : onL (s :: r) d = s :: r := by rw [onL, List.dropWhile_cons_of_neg (by simpa using h1)]
      rw [this]
theorem onV_val {l : List Tst} {d : Int} (h : ascT l) : onV l d = valT l d := by
  rw [← onL_val d (Int.le_refl _), onV]
  have hd : 0 < (onL l d).length → d < ((onL l d).getD 0 tst0).hi := fun h0 => by
    clear h
    induction l with
    | nil => simp [onL] at h0
    | cons s r ih =>
      by_cases h1 : s.hi ≤ d
      · have : onL (s :: r) d = onL r d := by rw [onL, List.dropWhile_cons_of_pos (by simpa using h1)]; rfl
        rw [this] at h0 ⊢; exact ih h0
      · have : onL (s :: r) d = s :: r := by rw [onL, List.dropWhile_cons_of_neg (by simpa using h1)]
        rw [this]; show d < s.hi; omega
  have ha := onL_asc (d := d) h
  generalize onL l d = xs at *
  cases xs with
  | nil => rfl
  | cons s r =>
    have h1 : d < s.hi := hd (by simp)
    rw [xg0]
    by_cases h2 : s.lo ≤ d
    · rw [if_pos ⟨by simp, h2⟩, if_pos ⟨h2, h1⟩]; rfl
    · rw [if_neg (fun h => h2 h.2), if_neg (fun h => h2 h.1)]
      symm
      refine valT_none.2 fun t ht h => ?_
      have := (List.pairwise_cons.1 ha.2).1 t ht
      omega
/-- The ends of the steps of two timelines. -/
def eds (l : List Tst) : List Int := l.flatMap fun s => [s.lo, s.hi]
def bds (ls : List (List Tst)) : List Int := brd (ls.flatMap eds)
theorem eds_mem {l : List Tst} {x : Int} : x ∈ eds l ↔ ∃ s ∈ l, x = s.lo ∨ x = s.hi := by
  simp [eds, List.mem_flatMap]
theorem eds_len {l : List Tst} : (eds l).length = 2 * l.length := by
  induction l with
  | nil => rfl
  | cons s r ih => rw [eds, List.flatMap_cons, List.length_append, ← eds, ih]; simp; omega
theorem eds_snoc {l : List Tst} {i : Nat} (hi : i < l.length) : eds (l.take (i + 1)) = eds (l.take i) ++ [(l.getD i tst0).lo, (l.getD i tst0).hi] := by
  rw [List.take_succ_eq_append_getElem hi, eds, List.flatMap_append, List.getD_eq_getElem?_getD, List.getElem?_eq_getElem hi]; simp [eds]
theorem flat_snoc {ls : List (List Tst)} {i : Nat} (hi : i < ls.length) : (ls.take (i + 1)).flatMap eds = (ls.take i).flatMap eds ++ eds (ls.getD i []) := by
  rw [List.take_succ_eq_append_getElem hi, List.flatMap_append, List.getD_eq_getElem?_getD, List.getElem?_eq_getElem hi]; simp
def tlen (ls : List (List Tst)) : Nat := (ls.map List.length).sum
theorem flat_len : ∀ {ls : List (List Tst)}, (ls.flatMap eds).length = 2 * tlen ls
  | [] => rfl
  | l :: r => by rw [List.flatMap_cons, List.length_append, eds_len, flat_len (ls := r)]; simp [tlen]; omega
theorem bds_len {ls : List (List Tst)} : (bds ls).length ≤ 2 * tlen ls := by rw [← flat_len]; exact brd_len _
theorem bds_pw {ls : List (List Tst)} : (bds ls).Pairwise (· < ·) := (brd_spec _).1
theorem bds_mem {ls : List (List Tst)} {x : Int} : x ∈ bds ls ↔ ∃ l ∈ ls, ∃ s ∈ l, x = s.lo ∨ x = s.hi := by
  rw [bds, (brd_spec _).2, List.mem_flatMap]
  simp only [eds_mem]
theorem pw_lt {ds : List Int} (h : ds.Pairwise (· < ·)) {i j : Nat} (hij : i < j) (hj : j < ds.length) : ds.getD i 0 < ds.getD j 0 := by
  have := List.pairwise_iff_getElem.1 h i j (by omega) hj hij
  rwa [List.getD_eq_getElem?_getD, List.getD_eq_getElem?_getD, List.getElem?_eq_getElem (show i < ds.length by omega), List.getElem?_eq_getElem hj]
/-- The piece of a round. -/
def segI (g : Int → Option Va) (ds : List Int) (i : Nat) : List Tst := match g (ds.getD i 0) with
  | some v => [⟨ds.getD i 0, ds.getD (i + 1) 0, v⟩]
  | none => []
def segN (g : Int → Option Va) (ds : List Int) (k : Nat) : List Tst := (List.range k).flatMap (segI g ds)
theorem segN_next {g : Int → Option Va} {ds : List Int} {k : Nat} : segN g ds (k + 1) = segN g ds k ++ segI g ds k := by
  rw [segN, List.range_succ, List.flatMap_append]; simp [segN]
theorem segL_N {g : Int → Option Va} : ∀ ds : List Int, segL g ds = segN g ds (ds.length - 1)
  | [] => rfl
  | [x] => rfl
  | x :: y :: r => by
    have e : ∀ i, segI g (x :: y :: r) (i + 1) = segI g (y :: r) i := fun i => rfl
    have e0 : segI g (x :: y :: r) 0 = (match g x with | some v => [⟨x, y, v⟩] | none => []) := rfl
    have h : (x :: y :: r).length - 1 = r.length + 1 := by simp
    have e1 : segN g (x :: y :: r) (r.length + 1) = segI g (x :: y :: r) 0 ++ segN g (y :: r) r.length := by
      rw [segN, List.range_succ_eq_map, List.flatMap_cons, List.flatMap_map]; rfl
    rw [segL, segL_N (y :: r), h, e1, e0]; rfl
theorem pst_app (acc xs ys : List Tst) : pst acc (xs ++ ys) = pst (pst acc xs) ys := by rw [pst, pst, pst, List.foldl_append]
/-- The join, up to a round. -/
def jnK (a b : List Tst) (k : Nat) : List Tst := pst [] (segN (jnG a b) (bds [a, b]) k)
def jnT (a b : List Tst) : List Tst := pst [] (segL (jnG a b) (bds [a, b]))
theorem jnK_all (a b : List Tst) : jnK a b ((bds [a, b]).length - 1) = jnT a b := by rw [jnK, jnT, segL_N]
theorem jnK_none {a b : List Tst} {k : Nat} (h : jnG a b ((bds [a, b]).getD k 0) = none) : jnK a b (k + 1) = jnK a b k := by
  rw [jnK, segN_next, segI, h, List.append_nil]; rfl
theorem jnK_some {a b : List Tst} {k : Nat} {v : Va} (h : jnG a b ((bds [a, b]).getD k 0) = some v) : jnK a b (k + 1) = pst (jnK a b k) [⟨(bds [a, b]).getD k 0, (bds [a, b]).getD (k + 1) 0, v⟩] := by
  rw [jnK, segN_next, segI, h, pst_app]; rfl
theorem segN_len {g : Int → Option Va} {ds : List Int} : ∀ k, (segN g ds k).length ≤ k
  | 0 => Nat.le_refl _
  | k + 1 => by
    rw [segN_next, List.length_append]
    have := segN_len (g := g) (ds := ds) k
    have h : (segI g ds k).length ≤ 1 := by rw [segI]; split <;> simp
    omega
theorem jnK_len {a b : List Tst} {k : Nat} : (jnK a b k).length ≤ k := by
  have h := pst_len (segN (jnG a b) (bds [a, b]) k) []
  have := segN_len (g := jnG a b) (ds := bds [a, b]) k
  rw [jnK]; simp at h; omega
/-- The days on which two timelines differ, up to a round. -/
def dfB (a b : List Tst) (d : Int) : Bool := decide (valT a d ≠ valT b d)
def dfI (a b : List Tst) (i : Nat) : List Sn := if dfB a b ((bds [a, b]).getD i 0) then [⟨(bds [a, b]).getD i 0, (bds [a, b]).getD (i + 1) 0⟩] else []
def dfK (a b : List Tst) (k : Nat) : List Sn := (List.range k).flatMap (dfI a b)
theorem dfK_next {a b : List Tst} {k : Nat} : dfK a b (k + 1) = dfK a b k ++ dfI a b k := by
  rw [dfK, List.range_succ, List.flatMap_append]; simp [dfK]
def dfT (a b : List Tst) : List Sn := dfK a b ((bds [a, b]).length - 1)
/-- What holds when two timelines are walked together. -/
def ogI (a b : List Tst) (xa xb : List Tst) (d : Int) : Prop := (ascT xa ∧ xa.length ≤ a.length ∧ ∀ e, d ≤ e → valT xa e = valT a e) ∧ ascT xb ∧ xb.length ≤ b.length ∧ ∀ e, d ≤ e → valT xb e = valT b e
theorem ogI.next {a b xa xb : List Tst} {d e : Int} (h : ogI a b xa xb d) (hde : d ≤ e) : onV xa e = valT a e ∧ onV xb e = valT b e ∧ ogI a b (onL xa e) (onL xb e) e := by
  obtain ⟨⟨h1, h2, h3⟩, h4, h5, h6⟩ := h
  refine ⟨(onV_val h1).trans (h3 e hde), (onV_val h4).trans (h6 e hde), ⟨onL_asc h1, Nat.le_trans onL_len h2, fun x hx => (onL_val x hx).trans (h3 x (Int.le_trans hde hx))⟩, onL_asc h4, Nat.le_trans onL_len h5, fun x hx => (onL_val x hx).trans (h6 x (Int.le_trans hde hx))⟩
theorem ogI.mono {a b xa xb : List Tst} {d e : Int} (h : ogI a b xa xb d) (hde : d ≤ e) : ogI a b xa xb e := ⟨⟨h.1.1, h.1.2.1, fun x hx => h.1.2.2 x (Int.le_trans hde hx)⟩, h.2.1, h.2.2.1, fun x hx => h.2.2.2 x (Int.le_trans hde hx)⟩
theorem ogI.zero {a b : List Tst} (ha : ascT a) (hb : ascT b) (d : Int) : ogI a b a b d := ⟨⟨ha, Nat.le_refl _, fun _ _ => rfl⟩, hb, Nat.le_refl _, fun _ _ => rfl⟩
end An.S

/- A region whose operations come in whatever order, but for the last ones, ahead of which all others come: a function that feeds a loop calls back in such a region. For any program. -/
namespace An
open Go
section
variable {P : Program} {c : Base}
theorem left_ge {D : Nat → Bool} {n : Nat} (h : ∀ j, n ≤ j → D j = false) : ∀ m, m - n ≤ left D m
  | 0 => by simp [left]
  | m + 1 => by
    have ih := left_ge h m
    simp only [left]
    rcases Nat.lt_or_ge m n with h1 | h1
    · omega
    · rw [h m h1]; simp only [cond_false]; omega
/-- The first n operations come in whatever order; then what stands behind them. -/
theorem any_pre {ops : List Oper} {Es : List Eff} {n : Nat} {g0 : Slots} {h0 : Keys} {al0 : Nat → Bool} {Q : Exit → Act → World → Prop} (hn : n ≤ ops.length) (hlen : n = Es.length)
    (hD : ∀ (i : Nat) (o : Oper) (E : Eff), ops[i]? = some o → Es[i]? = some E → DoesR P c ops.toArray o E)
    (hpre : ∀ (i : Nat) (E : Eff), Es[i]? = some E → E.PreL (runC (fun j => decide (j < i)) 0 (Es.map Eff.cg) g0) (runC (fun j => decide (j < i)) 0 (Es.map Eff.ch) h0) (runC (fun j => decide (j < i)) 0 (Es.map Eff.ca) al0))
    (hgo : goAll (masks ops #[]) [] (Es.map Eff.sm) = true) (hd : dOk c.N (Es.map Eff.sm) = true) (hnk : nkOk (Es.map Eff.sm) [] = true) (hed : edgesOk 0 ops = true)
    (hrest : ∀ i, n ≤ i → i < ops.length → ∀ j, j < i → ((masks ops #[]).getD i 0).testBit j = true)
    (hQ : ∀ (fuel : Nat) (listed : Array Bool) (a : Act) (w : World), listed.size = ops.length → Closed ops (fun i => listed.getD i false) → (∀ j, listed.getD j false = decide (j < n)) → ops.length - n ≤ fuel →
      St c (runC (fun _ => true) 0 (Es.map Eff.cg) g0) (runC (fun _ => true) 0 (Es.map Eff.ch) h0) (runC (fun _ => true) 0 (Es.map Eff.ca) al0) a w → wpAnyIn (fc c.ro) 0 P .any ops.toArray Q fuel listed a w) :
    ∀ (fuel : Nat) (listed : Array Bool) (a : Act) (w : World), listed.size = ops.length → Closed ops (fun i => listed.getD i false) → (∀ j, n ≤ j → listed.getD j false = false) →
      left (fun i => listed.getD i false) ops.length ≤ fuel →
      St c (runC (fun i => listed.getD i false) 0 (Es.map Eff.cg) g0) (runC (fun i => listed.getD i false) 0 (Es.map Eff.ch) h0) (runC (fun i => listed.getD i false) 0 (Es.map Eff.ca) al0) a w →
      wpAnyIn (fc c.ro) 0 P .any ops.toArray Q fuel listed a w := by
  have hsm : ∀ (i : Nat) (E : Eff), Es[i]? = some E → (Es.map Eff.sm)[i]? = some E.sm := fun i E h => by rw [List.getElem?_map, h]; rfl
  have hpair : ∀ (i j : Nat) (E E' : Eff), i < j → Es[i]? = some E → Es[j]? = some E' → ((masks ops #[]).getD j 0).testBit i = true ∨ Indep E.sm E'.sm := fun i j E E' hij hi hj =>
    goAll_spec (Es.map Eff.sm) [] hgo i j _ _ hij (Nat.zero_le _) (by simpa using hsm i E hi) (by simpa using hsm j E' hj)
  have hmask : ∀ D, Closed ops D → ∀ i j, ((masks ops #[]).getD i 0).testBit j = true → (∀ o, ops[i]? = some o → ∀ e ∈ o.after.toList, Region.binds .any e = true → D e.on = true) → D j = true := by
    intro D hcl i j hj hi
    rw [Array.getD_eq_getD_getElem?] at hj
    cases hm : (masks ops #[])[i]? with
    | none => rw [hm] at hj; simp at hj
    | some m => rw [hm] at hj; exact masks_spec (ops := ops) ops #[] (by simp) (by simp) D hcl i m hm hi j hj
  have hmaskD : ∀ D, Closed ops D → ∀ i j, ((masks ops #[]).getD i 0).testBit j = true → D i = true → D j = true := fun D hcl i j hj hi => hmask D hcl i j hj fun o ho => hcl i o ho hi
  have hall : ∀ (fuel : Nat) (listed : Array Bool) (a : Act) (w : World), listed.size = ops.length → Closed ops (fun i => listed.getD i false) → (∀ j, n ≤ j → listed.getD j false = false) → left (fun i => listed.getD i false) ops.length ≤ fuel →
      St c (runC (fun i => listed.getD i false) 0 (Es.map Eff.cg) g0) (runC (fun i => listed.getD i false) 0 (Es.map Eff.ch) h0) (runC (fun i => listed.getD i false) 0 (Es.map Eff.ca) al0) a w →
      (∀ j, j < n → listed.getD j false = true) → wpAnyIn (fc c.ro) 0 P .any ops.toArray Q fuel listed a w := by
    intro fuel listed a w hsz hcl hno hleft hs hall
    have hcong : ∀ {β : Type} (l : List (Chg β)) (f : Nat → β), l.length = n → runC (fun i => listed.getD i false) 0 l f = runC (fun _ => true) 0 l f := fun l f hl => by
      funext s
      refine xh6 l 0 f f rfl fun j C hj _ => ?_
      rw [Nat.zero_add]
      exact hall j (by have := (List.getElem?_eq_some_iff.1 hj).1; omega)
    rw [hcong _ _ (by simp [hlen]), hcong _ _ (by simp [hlen]), hcong _ _ (by simp [hlen])] at hs
    have hge := left_ge (D := fun i => listed.getD i false) hno ops.length
    refine hQ fuel listed a w hsz hcl (fun j => ?_) (by omega) hs
    rcases Nat.lt_or_ge j n with h1 | h1
    · rw [hall j h1, decide_eq_true h1]
    · rw [hno j h1, decide_eq_false (by omega)]
  -- one that is ready, as long as not all of the first ones are done
  have hsome : ∀ (listed : Array Bool), listed.size = ops.length → ¬ (∀ j, j < n → listed.getD j false = true) → Region.ready .any ops.toArray listed ≠ [] := by
    intro listed hsz hnall hr
    refine hnall fun i => ?_
    induction i using Nat.strongRecOn with
    | _ i ih =>
      intro hi
      cases hl : listed.getD i false with
      | true => rfl
      | false =>
        exfalso
        have : i ∈ Region.ready .any ops.toArray listed := by
          rw [mem_ready]
          refine ⟨?_, ops[i], by simp [show i < ops.length by omega], fun e he hb => ?_⟩
          · rw [Array.getD_eq_getD_getElem?] at hl ⊢
            rw [Array.getElem?_eq_getElem (by omega)] at hl ⊢
            simpa using hl
          · have hon := edgesOk_spec ops 0 hed i ops[i] (List.getElem?_eq_getElem (by omega)) e (by simpa using he) hb
            exact ih e.on (by omega) (by omega)
        rw [hr] at this
        cases this
  intro fuel
  induction fuel with
  | zero =>
    intro listed a w hsz hcl hno hleft hs
    refine hall 0 listed a w hsz hcl hno hleft hs fun j hj => ?_
    exact left_zero (D := fun i => listed.getD i false) ops.length (by omega) j (by omega)
  | succ fuel ih =>
    intro listed a w hsz hcl hno hleft hs
    by_cases hal : ∀ j, j < n → listed.getD j false = true
    · exact hall _ listed a w hsz hcl hno hleft hs hal
    refine ⟨fun hr => absurd hr (hsome listed hsz hal), fun i hi => ?_⟩
    have hin : i < n := by
      rw [mem_ready] at hi
      obtain ⟨h1, o, ho, hedge⟩ := hi
      have hlt : i < ops.length := by
        have := (Array.getElem?_eq_some_iff.1 ho).1
        simpa using this
      refine Decidable.byContradiction fun hge => hal fun j hj => ?_
      exact hmask _ hcl i j (hrest i (by omega) hlt j (by omega)) fun o' ho'' e he hbd => by
        have ho3 : ops[i]? = some o := by simpa using ho
        rw [ho3] at ho''
        cases ho''
        exact hedge e (by simpa using he) hbd
    rw [mem_ready] at hi
    obtain ⟨h1, o, ho, hedge⟩ := hi
    have hlt : i < ops.length := by
      have := (Array.getElem?_eq_some_iff.1 ho).1
      simpa using this
    have ho' : ops[i]? = some o := by simpa using ho
    have hEi : Es[i]? = some (Es[i]'(by omega)) := List.getElem?_eq_getElem (by omega)
    generalize hE : Es[i]'(by omega) = E at hEi
    have hDi : listed.getD i false = false := by
      rw [Array.getD_eq_getD_getElem?, Array.getElem?_eq_getElem (by omega)] at h1 ⊢
      simpa using h1
    -- those ahead are done, those behind are not
    have hahead : ∀ j E', Es[j]? = some E' → j ≠ i → ¬ Indep E'.sm E.sm → ¬ Indep E.sm E'.sm → listed.getD j false = decide (j < i) := by
      intro j E' hj hji hn1 hn2
      rcases Nat.lt_or_ge j i with hlt' | hge
      · rw [decide_eq_true hlt']
        rcases hpair j i E' E hlt' hj hEi with hb | hb
        · exact hmask _ hcl i j hb fun o' ho'' e he hbd => by
            rw [ho'] at ho''
            cases ho''
            exact hedge e (by simpa using he) hbd
        · exact absurd hb hn1
      · rw [decide_eq_false (by omega)]
        rcases hpair i j E E' (by omega) hEi hj with hb | hb
        · cases hd' : listed.getD j false with
          | false => rfl
          | true =>
            have this : listed.getD i false = true := hmaskD _ hcl j i hb hd'
            rw [hDi] at this
            cases this
        · exact absurd hb hn2
    have hp0 := hpre i E hEi
    have hpD : E.Pre c (runC (fun i => listed.getD i false) 0 (Es.map Eff.cg) g0) (runC (fun i => listed.getD i false) 0 (Es.map Eff.ch) h0) (runC (fun i => listed.getD i false) 0 (Es.map Eff.ca) al0) := by
      refine ⟨Rd.congr (fun s hs => ?_) hp0.rd, Kr.congr (fun s hs => ?_) hp0.kr, Nk.congr (fun s hs => ?_) hp0.nk, fun x hx => ?_⟩
      · refine xh6 _ 0 _ _ rfl fun j C hj hsome => ?_
        rw [List.getElem?_map] at hj
        cases hj' : Es[j]? with
        | none => rw [hj'] at hj; cases hj
        | some E' =>
          rw [hj'] at hj
          cases hj
          have hw := Eff.cg_some.1 hsome
          rw [Nat.zero_add]
          by_cases hji : j = i
          · subst hji; rw [decide_eq_false (by omega)]; exact hDi.symm
          · exact (hahead j E' hj' hji (fun hI => hI.h1 s hw hs) (fun hI => hI.h3 s hw hs)).symm
      · refine xh6 _ 0 _ _ rfl fun j C hj hsome => ?_
        rw [List.getElem?_map] at hj
        cases hj' : Es[j]? with
        | none => rw [hj'] at hj; cases hj
        | some E' =>
          rw [hj'] at hj
          cases hj
          have hw := Eff.ch_some.1 hsome
          rw [Nat.zero_add]
          by_cases hji : j = i
          · subst hji; rw [decide_eq_false (by omega)]; exact hDi.symm
          · exact (hahead j E' hj' hji (fun hI => hI.h4 s hw hs) (fun hI => hI.h6 s hw hs)).symm
      · refine xh6 _ 0 _ _ rfl fun j C hj hsome => ?_
        rw [List.getElem?_map] at hj
        cases hj' : Es[j]? with
        | none => rw [hj'] at hj; cases hj
        | some E' =>
          rw [hj'] at hj
          cases hj
          rw [Nat.zero_add]
          by_cases hji : j = i
          · subst hji; rw [decide_eq_false (by omega)]; exact hDi.symm
          · exfalso
            have hm : s ∈ E'.nk := Eff.ca_mem hsome
            have hs' : s ∈ E.sm.nk := hs
            rcases Nat.lt_or_ge j i with hlt' | hge
            · exact (nkOk_spec hnk).2 j i _ _ hlt' (hsm j E' hj') (hsm i E hEi) s hm hs'
            · exact (nkOk_spec hnk).2 i j _ _ (by omega) (hsm i E hEi) (hsm j E' hj') s hs' hm
      · exact dOk_spec hd i _ (hsm i E hEi) x.1 (by simp [Eff.sm, hx])
    -- the state behind it
    have hD' : ∀ j, j ≠ i → (listed.setIfInBounds i true).getD j false = listed.getD j false := fun j hj => Go.getD_set_ne false (fun h => hj h.symm)
    have hi' : (listed.setIfInBounds i true).getD i false = true := by
      rw [Array.getD_eq_getD_getElem?]; simp [hsz, hlt]
    have hg' : E.g (runC (fun i => listed.getD i false) 0 (Es.map Eff.cg) g0) = runC (fun j => (listed.setIfInBounds i true).getD j false) 0 (Es.map Eff.cg) g0 := by
      rw [← Eff.cg_run]
      refine run_step (D' := fun j => (listed.setIfInBounds i true).getD j false) (i := i) (by rw [List.getElem?_map, hEi]; rfl) hD' hi' (fun j C' hj hij s h1 h2 => ?_) _
      rw [List.getElem?_map] at hj
      cases hj' : Es[j]? with
      | none => rw [hj'] at hj; cases hj
      | some E' =>
        rw [hj'] at hj
        cases hj
        have := hahead j E' hj' (by omega) (fun hI => hI.h2 s (Eff.cg_some.1 h2) (Eff.cg_some.1 h1)) (fun hI => hI.h2 s (Eff.cg_some.1 h1) (Eff.cg_some.1 h2))
        rw [this, decide_eq_false (by omega)]
    have hh' : E.h (runC (fun i => listed.getD i false) 0 (Es.map Eff.ch) h0) = runC (fun j => (listed.setIfInBounds i true).getD j false) 0 (Es.map Eff.ch) h0 := by
      rw [← Eff.ch_run]
      refine run_step (D' := fun j => (listed.setIfInBounds i true).getD j false) (i := i) (by rw [List.getElem?_map, hEi]; rfl) hD' hi' (fun j C' hj hij s h1 h2 => ?_) _
      rw [List.getElem?_map] at hj
      cases hj' : Es[j]? with
      | none => rw [hj'] at hj; cases hj
      | some E' =>
        rw [hj'] at hj
        cases hj
        have := hahead j E' hj' (by omega) (fun hI => hI.h5 s (Eff.ch_some.1 h2) (Eff.ch_some.1 h1)) (fun hI => hI.h5 s (Eff.ch_some.1 h1) (Eff.ch_some.1 h2))
        rw [this, decide_eq_false (by omega)]
    have ha' : E.al (runC (fun i => listed.getD i false) 0 (Es.map Eff.ca) al0) = runC (fun j => (listed.setIfInBounds i true).getD j false) 0 (Es.map Eff.ca) al0 := by
      rw [← Eff.ca_run]
      refine run_step (D' := fun j => (listed.setIfInBounds i true).getD j false) (i := i) (by rw [List.getElem?_map, hEi]; rfl) hD' hi' (fun j C' hj hij s h1 h2 => ?_) _
      rw [List.getElem?_map] at hj
      cases hj' : Es[j]? with
      | none => rw [hj'] at hj; cases hj
      | some E' =>
        rw [hj'] at hj
        cases hj
        exfalso
        exact (nkOk_spec hnk).2 i j _ _ hij (hsm i E hEi) (hsm j E' hj') s (Eff.ca_mem h1) (Eff.ca_mem h2)
    have hcl' : Closed ops (fun j => (listed.setIfInBounds i true).getD j false) := by
      intro j o' hj hDj e he hb
      by_cases hji : j = i
      · subst hji
        rw [ho'] at hj
        cases hj
        exact getD_set_true (hedge e (by simpa using he) hb)
      · simp only [hD' j hji] at hDj
        exact getD_set_true (hcl j o' hj hDj e he hb)
    have hleft' : left (fun j => (listed.setIfInBounds i true).getD j false) ops.length ≤ fuel := by
      have := left_set (D := fun j => listed.getD j false) (D' := fun j => (listed.setIfInBounds i true).getD j false) (i := i) hD' hi' hDi ops.length hlt
      omega
    have hdo := hD i o E ho' hEi _ _ _ a w hpD hs
    have hgo' : ∀ a' w', St c (E.g (runC (fun i => listed.getD i false) 0 (Es.map Eff.cg) g0)) (E.h (runC (fun i => listed.getD i false) 0 (Es.map Eff.ch) h0)) (E.al (runC (fun i => listed.getD i false) 0 (Es.map Eff.ca) al0)) a' w' →
        wpAnyIn (fc c.ro) 0 P .any ops.toArray Q fuel (listed.setIfInBounds i true) a' w' := fun a' w' hs' => by
      rw [hg', hh', ha'] at hs'
      exact ih _ a' w' (by simp [hsz]) hcl' (fun j hj => by rw [hD' j (by omega)]; exact hno j hj) hleft' hs'
    unfold wpOpIn
    rw [ho]
    simp only
    split
    · rename_i hw
      rw [if_pos hw] at hdo
      exact Oper.wpIn_mono hgo' (noQ_imp hdo)
    · rename_i hw
      rw [if_neg hw] at hdo
      exact ⟨fun _ _ => trivial, hgo' _ _ hdo⟩
/-- The last operations come in the text's order. -/
theorem any_tail {ops : List Oper} {Q : Exit → Act → World → Prop} {n : Nat} (hed : edgesOk 0 ops = true) (hrest : ∀ i, n ≤ i → i < ops.length → ∀ j, j < i → ((masks ops #[]).getD i 0).testBit j = true) :
    ∀ (k m : Nat) (fuel : Nat) (listed : Array Bool) (a : Act) (w : World), n ≤ m → m + k = ops.length → listed.size = ops.length → Closed ops (fun i => listed.getD i false) → (∀ j, listed.getD j false = decide (j < m)) → k ≤ fuel →
      wpListIn (fc c.ro) 0 P ops.toArray Q (ops.drop m) a w → wpAnyIn (fc c.ro) 0 P .any ops.toArray Q fuel listed a w := by
  have hmask : ∀ D, Closed ops D → ∀ i j, ((masks ops #[]).getD i 0).testBit j = true → (∀ o, ops[i]? = some o → ∀ e ∈ o.after.toList, Region.binds .any e = true → D e.on = true) → D j = true := by
    intro D hcl i j hj hi
    rw [Array.getD_eq_getD_getElem?] at hj
    cases hm : (masks ops #[])[i]? with
    | none => rw [hm] at hj; simp at hj
    | some m => rw [hm] at hj; exact masks_spec (ops := ops) ops #[] (by simp) (by simp) D hcl i m hm hi j hj
  intro k
  induction k with
  | zero =>
    intro m fuel listed a w hnm hmk hsz hcl hli hfu hw
    have hnil : Region.ready .any ops.toArray listed = [] := by
      cases hr : Region.ready .any ops.toArray listed with
      | nil => rfl
      | cons i rs =>
        have hi : i ∈ Region.ready .any ops.toArray listed := by rw [hr]; simp
        rw [mem_ready] at hi
        obtain ⟨h1, o, ho, _⟩ := hi
        have hlt : i < ops.length := by
          have := (Array.getElem?_eq_some_iff.1 ho).1
          simpa using this
        have this := hli i
        rw [decide_eq_true (by omega)] at this
        rw [Array.getD_eq_getD_getElem?, Array.getElem?_eq_getElem (by omega)] at h1 this
        simp at h1 this
        rw [h1] at this
        cases this
    rw [List.drop_of_length_le (by omega)] at hw
    cases fuel with
    | zero => exact ⟨hnil, hw⟩
    | succ f =>
      refine ⟨fun _ => hw, fun i hi => ?_⟩
      rw [hnil] at hi; cases hi
  | succ k ih =>
    intro m fuel listed a w hnm hmk hsz hcl hli hfu hw
    have hlt : m < ops.length := by omega
    have hmr : m ∈ Region.ready .any ops.toArray listed := by
      rw [mem_ready]
      have hl := hli m
      rw [decide_eq_false (by omega)] at hl
      refine ⟨?_, ops[m], by simp [hlt], fun e he hb => ?_⟩
      · rw [Array.getD_eq_getD_getElem?] at hl ⊢
        rw [Array.getElem?_eq_getElem (by omega)] at hl ⊢
        simpa using hl
      · have hon := edgesOk_spec ops 0 hed m ops[m] (List.getElem?_eq_getElem (by omega)) e (by simpa using he) hb
        rw [hli, decide_eq_true (by omega)]
    cases fuel with
    | zero => omega
    | succ f =>
      refine ⟨fun hr => (by rw [hr] at hmr; cases hmr), fun i hi => ?_⟩
      rw [mem_ready] at hi
      obtain ⟨h1, o, ho, hedge⟩ := hi
      have hlt2 : i < ops.length := by
        have := (Array.getElem?_eq_some_iff.1 ho).1
        simpa using this
      have ho3 : ops[i]? = some o := by simpa using ho
      have him : i = m := by
        have hge : m ≤ i := Decidable.byContradiction fun hge => by
          have this := hli i
          rw [decide_eq_true (by omega)] at this
          rw [Array.getD_eq_getD_getElem?, Array.getElem?_eq_getElem (by omega)] at h1 this
          simp at h1 this
          rw [h1] at this
          cases this
        refine Decidable.byContradiction fun hne => ?_
        have hb := hrest i (by omega) hlt2 m (by omega)
        have := hmask _ hcl i m hb fun o' ho'' e he hbd => by
          rw [ho3] at ho''
          cases ho''
          exact hedge e (by simpa using he) hbd
        rw [hli, decide_eq_false (by omega)] at this
        cases this
      subst him
      have edr : ops.drop i = o :: ops.drop (i + 1) := by
        rw [List.drop_eq_getElem_cons hlt]
        rw [List.getElem?_eq_getElem hlt] at ho3
        cases ho3; rfl
      rw [edr] at hw
      unfold wpListIn at hw
      have hcl' : Closed ops (fun j => (listed.setIfInBounds i true).getD j false) := by
        intro j o' hj hDj e he hb
        by_cases hji : j = i
        · subst hji
          rw [ho3] at hj
          cases hj
          exact getD_set_true (hedge e (by simpa using he) hb)
        · simp only [Go.getD_set_ne false (fun h => hji h.symm)] at hDj
          exact getD_set_true (hcl j o' hj hDj e he hb)
      have hli' : ∀ j, (listed.setIfInBounds i true).getD j false = decide (j < i + 1) := fun j => by
        by_cases hji : j = i
        · subst hji
          rw [Array.getD_eq_getD_getElem?]; simp [hsz, hlt]
        · rw [Go.getD_set_ne false (fun h => hji h.symm), hli]
          by_cases h2 : j < i
          · rw [decide_eq_true h2, decide_eq_true (by omega)]
          · rw [decide_eq_false h2, decide_eq_false (by omega)]
      have key := fun a w (hw2 : wpListIn (fc c.ro) 0 P ops.toArray Q (ops.drop (i + 1)) a w) => ih (i + 1) f (listed.setIfInBounds i true) a w (by omega) (by omega) (by simp [hsz]) hcl' hli' (by omega) hw2
      unfold wpOpIn
      rw [ho]
      simp only
      split
      · rename_i hwa
        rw [if_pos hwa] at hw
        exact Oper.wpIn_mono key hw
      · rename_i hwa
        rw [if_neg hwa] at hw
        exact ⟨hw.1, key _ _ hw.2⟩
end
/-- Ahead of the operations from the n-th on come all others. -/
def lastB (n : Nat) (ops : List Oper) : Bool := (List.range ops.length).all fun i => Nat.blt i n || (List.range i).all fun j => ((masks ops #[]).getD i 0).testBit j
theorem lastB_spec {n : Nat} {ops : List Oper} (h : lastB n ops = true) : ∀ i, n ≤ i → i < ops.length → ∀ j, j < i → ((masks ops #[]).getD i 0).testBit j = true := fun i h1 h2 j hj => by
  have h3 := List.all_eq_true.1 h i (List.mem_range.2 h2)
  rw [Bool.or_eq_true] at h3
  rcases h3 with h3 | h3
  · have : i < n := by simpa using h3
    omega
  · exact List.all_eq_true.1 h3 j (List.mem_range.2 hj)
def chkY (ops : List Oper) (sms : List Sm) (n N : Nat) : Bool := goAll (masks ops #[]) [] sms && dOk N sms && nkOk sms [] && edgesOk 0 ops && lastB n ops && Nat.ble n ops.length
section
variable {P : Program} {c : Base} {Q : Exit → Act → World → Prop} {g : Slots} {h : Keys} {al : Names}
/-- A region in whatever order, in which the last operations come in the text's order. -/
theorem C_drawY (hm : P.follows .mixedOrders = true) {id n : Nat} {ops : List Oper}
    (H : RSeq P c ops.toArray (fun sms g h al => chkY ops sms n c.N = true ∧ wl P c ops.toArray Q (ops.drop n) g h al) (ops.take n) [] g h al) : wc P c (.region id ops.toArray true) Q g h al := by
  intro a w hs
  obtain ⟨Es, h1, h2, h3, h4⟩ := RSeq.split (g0 := g) (h0 := h) (al0 := al) (ops.take n) [] H
  simp only [chkY, Bool.and_eq_true, List.nil_append] at h3
  obtain ⟨⟨⟨⟨⟨c1, c2⟩, c3⟩, c4⟩, c5⟩, c6⟩ := h3
  have hn : n ≤ ops.length := Nat.le_of_ble_eq_true c6
  have hle : n = Es.length := by rw [h1, List.length_take]; omega
  refine wpIn_region_any hm ?_
  have hsz : (Array.replicate ops.toArray.size false).size = ops.length := by simp
  have hfl : ∀ i, (Array.replicate ops.toArray.size false).getD i false = false := fun i => by
    rw [Array.getD_eq_getD_getElem?, Array.getElem?_replicate]
    split <;> rfl
  have hfalse : (fun i => (Array.replicate ops.toArray.size false).getD i false) = fun _ => false := funext hfl
  have h0 : ∀ {β : Type} (l : List (Chg β)) (i : Nat) (f : Nat → β), runC (fun _ => false) i l f = f := by
    intro β l
    induction l with
    | nil => intro i f; rfl
    | cons C l ih => intro i f; simp only [runC, cond_false]; exact ih _ _
  have htake : ∀ (i : Nat) (o : Oper) (E : Eff), ops[i]? = some o → Es[i]? = some E → (ops.take n)[i]? = some o := fun i o E ho hE => by
    have hi : i < Es.length := (List.getElem?_eq_some_iff.1 hE).1
    rw [List.getElem?_take, if_pos (by omega)]; exact ho
  refine any_pre (g0 := g) (h0 := h) (al0 := al) hn hle (fun i o E ho hE => (h2 i o E (htake i o E ho hE) hE).1) (fun i E hE => ?_) c1 c2 c3 c4 (lastB_spec c5) (fun fuel listed a w hsz hcl hli hfu hs => ?_) _ _ a _ hsz ?_ (fun j _ => hfl j) ?_ ?_
  · have hi : i < Es.length := (List.getElem?_eq_some_iff.1 hE).1
    have := (h2 i ops[i] E (htake i _ E (List.getElem?_eq_getElem (by omega)) hE) hE).2
    rw [runC_lt, runC_lt, runC_lt]
    simpa [List.map_take] using this
  · rw [runC_true, runC_true, runC_true] at hs
    exact any_tail c4 (lastB_spec c5) (ops.length - n) n fuel listed a w (Nat.le_refl _) (by omega) hsz hcl hli hfu (h4 a w (by simpa using hs))
  · rw [hfalse]; intro i o _ hD; cases hD
  · rw [hfalse]
    have : ∀ n, left (fun _ => false) n = n := by
      intro n
      induction n with
      | zero => rfl
      | succ n ih => simp only [left, ih]; rfl
    rw [this]; simp
  · rw [hfalse, h0, h0, h0]
    obtain ⟨η, s⟩ := hs
    exact ⟨η, s.ext (Ext.drew w)⟩
end
/-- The first operations end. -/
theorem R_endY {P : Program} {c : Base} {Q : Exit → Act → World → Prop} {g : Slots} {h : Keys} {al : Names} {A : Array Oper} {sms : List Sm} {n N : Nat} {ops rest : List Oper} (h1 : chkY ops sms n N = true) (h2 : wl P c A Q rest g h al) : RSeq P c A (fun sms g h al => chkY ops sms n N = true ∧ wl P c A Q rest g h al) [] sms g h al := ⟨h1, h2⟩
end An

/- Layer 5: two timelines, walked together. -/
namespace An.S
open Go Go.Proofs An
set_option maxHeartbeats 2000000
theorem ti88 : TyI Tryz.prog 88 1 false := ⟨by kernel_rfl, by kernel_rfl⟩
theorem ti152 : TyI Tryz.prog 152 1 false := ⟨by kernel_rfl, by kernel_rfl⟩
theorem ti154 : TyI Tryz.prog 154 2 true := ⟨by kernel_rfl, by kernel_rfl⟩
theorem sl23 : SlI Tryz.prog 23 3 1 false := ⟨Tryz.underlying23, ti3⟩
theorem sl199 : SlI Tryz.prog 199 88 1 false := ⟨Tryz.underlying199, ti88⟩
theorem fo154_0 : fieldO Tryz.prog 154 0 = some 0 := by kernel_rfl
theorem fo154_1 : fieldO Tryz.prog 154 1 = some 1 := by kernel_rfl
theorem fi112 : FnI Tryz.prog 112 := ⟨_, Tryz.func112, by kernel_rfl, rfl⟩
theorem fi155 : FnI Tryz.prog 155 := ⟨_, Tryz.func155, by kernel_rfl, rfl⟩
theorem fi160 : FnI Tryz.prog 160 := ⟨_, Tryz.func160, by kernel_rfl, rfl⟩
theorem fi161 : FnI Tryz.prog 161 := ⟨_, Tryz.func161, by kernel_rfl, rfl⟩
theorem el88 : ElI Tryz.prog 88 1 24 false (.slice none 0 0) := ⟨ti88, by kernel_rfl, by kernel_rfl⟩
theorem zr154 : (Tryz.prog.info? 154).bind (·.zero) = some (.agg #[.pointer none, .pointer none]) ∧ ∀ F w, (tS [⟨1, false, (tE (.pointer none))⟩, ⟨1, false, (tE (.pointer none))⟩]).p F w (.agg #[.pointer none, .pointer none]) := ⟨by kernel_rfl, fun _ _ => ⟨_, rfl, rfl, ⟨fun _ => rfl, rfl⟩, ⟨fun _ => rfl, rfl⟩, trivial⟩⟩
theorem zf88 : Flat 1 false (.slice none 0 0) := xg1 rfl
/-- The numbers of the functions and types of Lays.n189 in this program. -/
def laySortR : Go.Shelf.Ren := ⟨fun n => match n with | 125 => 138 | 128 => 190 | 129 => 191 | 189 => 160 | 215 => 197 | 216 => 236 | 257 => 198 | 294 => 230 | 295 => 231 | 296 => 232 | 297 => 233 | 298 => 234 | 299 => 235 | 300 => 237 | 301 => 238 | 328 => 253 | 329 => 214 | 330 => 215 | 331 => 254 | 332 => 255 | 343 => 264 | n => n, fun n => match n with | 0 => 0 | 3 => 3 | 4 => 4 | 5 => 5 | 9 => 9 | 28 => 23 | 46 => 176 | 51 => 218 | 53 => 142 | 131 => 215 | 182 => 210 | 183 => 211 | 218 => 231 | 222 => 235 | 228 => 251 | 229 => 252 | n => n, fun n => n⟩
theorem laySort : Go.Proofs.Lays.n189 Tryz.prog laySortR where
  mixed := by kernel_rfl
  f125 := by kernel_rfl
  f128 := by kernel_rfl
  f129 := by kernel_rfl
  f189 := by kernel_rfl
  f215 := by kernel_rfl
  f216 := by kernel_rfl
  f257 := by kernel_rfl
  f294 := by kernel_rfl
  f295 := by kernel_rfl
  f296 := by kernel_rfl
  f297 := by kernel_rfl
  f298 := by kernel_rfl
  f299 := by kernel_rfl
  f300 := by kernel_rfl
  f301 := by kernel_rfl
  f328 := by kernel_rfl
  f329 := by kernel_rfl
  f330 := by kernel_rfl
  f331 := by kernel_rfl
  f332 := by kernel_rfl
  f343 := by kernel_rfl
  t0 := by kernel_rfl
  a0 := fun w => by kernel_rfl
  z0 := fun w => by kernel_rfl
  v0 := fun w => by kernel_rfl
  t3 := by kernel_rfl
  a3 := fun w => by kernel_rfl
  z3 := fun w => by kernel_rfl
  v3 := fun w => by kernel_rfl
  t4 := by kernel_rfl
  a4 := fun w => by kernel_rfl
  z4 := fun w => by kernel_rfl
  v4 := fun w => by kernel_rfl
  t5 := by kernel_rfl
  a5 := fun w => by kernel_rfl
  z5 := fun w => by kernel_rfl
  v5 := fun w => by kernel_rfl
  t9 := by kernel_rfl
  a9 := fun w => by kernel_rfl
  z9 := fun w => by kernel_rfl
  v9 := fun w => by kernel_rfl
  t28 := by kernel_rfl
  a28 := fun w => by kernel_rfl
  z28 := fun w => by kernel_rfl
  v28 := fun w => by kernel_rfl
  t46 := by kernel_rfl
  a46 := fun w => by kernel_rfl
  z46 := fun w => by kernel_rfl
  v46 := fun w => by kernel_rfl
  t51 := by kernel_rfl
  a51 := fun w => by kernel_rfl
  z51 := fun w => by kernel_rfl
  v51 := fun w => by kernel_rfl
  t53 := by kernel_rfl
  a53 := fun w => by kernel_rfl
  z53 := fun w => by kernel_rfl
  v53 := fun w => by kernel_rfl
  t131 := by kernel_rfl
  a131 := fun w => by kernel_rfl
  z131 := fun w => by kernel_rfl
  v131 := fun w => by kernel_rfl
  t182 := by kernel_rfl
  a182 := fun w => by kernel_rfl
  z182 := fun w => by kernel_rfl
  v182 := fun w => by kernel_rfl
  t183 := by kernel_rfl
  a183 := fun w => by kernel_rfl
  z183 := fun w => by kernel_rfl
  v183 := fun w => by kernel_rfl
  t218 := by kernel_rfl
  a218 := fun w => by kernel_rfl
  z218 := fun w => by kernel_rfl
  v218 := fun w => by kernel_rfl
  t222 := by kernel_rfl
  a222 := fun w => by kernel_rfl
  z222 := fun w => by kernel_rfl
  v222 := fun w => by kernel_rfl
  t228 := by kernel_rfl
  a228 := fun w => by kernel_rfl
  z228 := fun w => by kernel_rfl
  v228 := fun w => by kernel_rfl
  t229 := by kernel_rfl
  a229 := fun w => by kernel_rfl
  z229 := fun w => by kernel_rfl
  v229 := fun w => by kernel_rfl
/-- The numbers of the functions and types of Lays2.n20 in this program. -/
def layCompR : Go.Shelf.Ren := ⟨fun n => match n with | 20 => 161 | n => n, fun n => match n with | 0 => 0 | 3 => 3 | 4 => 4 | 22 => 23 | n => n, fun n => n⟩
theorem layComp : Go.Proofs.Lays2.n20 Tryz.prog layCompR where
  mixed := by kernel_rfl
  f20 := by kernel_rfl
  t0 := by kernel_rfl
  a0 := fun w => by kernel_rfl
  z0 := fun w => by kernel_rfl
  v0 := fun w => by kernel_rfl
  t3 := by kernel_rfl
  a3 := fun w => by kernel_rfl
  z3 := fun w => by kernel_rfl
  v3 := fun w => by kernel_rfl
  t4 := by kernel_rfl
  a4 := fun w => by kernel_rfl
  z4 := fun w => by kernel_rfl
  v4 := fun w => by kernel_rfl
  t22 := by kernel_rfl
  a22 := fun w => by kernel_rfl
  z22 := fun w => by kernel_rfl
  v22 := fun w => by kernel_rfl
  i3 := by kernel_rfl
theorem c_SortI (xs : List Int) (hn : xs.length < 4611686018427387904) : CtG Tryz.prog 160 [(1, ⟨3, 1, false, rV tI xs⟩)] [.own (.sl 1 1 0 xs.length)] (.val (tE (.tuple #[]))) [(1, ⟨3, 1, false, rV tI (srtI xs)⟩)] [] := sortI laySort 3 xs hn
theorem c_CompactI (xs : List Int) : CtG Tryz.prog 161 [(1, ⟨3, 1, false, rV tI xs⟩)] [.own (.sl 1 1 0 xs.length)] (.own (.sl 1 1 0 (Lib.compact xs).length)) [(1, ⟨3, 1, false, rV tI (Lib.compact xs)⟩)] [] := compactI layComp 3 xs
theorem srtI_len (xs : List Int) : (srtI xs).length = xs.length := List.length_mergeSort ..
theorem c_CompactS (xs : List Int) : CtG Tryz.prog 161 [(1, ⟨3, 1, false, rV tI (srtI xs)⟩)] [.own (.sl 1 1 0 xs.length)] (.own (.sl 1 1 0 (brd xs).length)) [(1, ⟨3, 1, false, rV tI (brd xs)⟩)] [] := by
  have h := c_CompactI (srtI xs)
  rw [srtI_len] at h; exact h
theorem onV_some {l xs : List Tst} {d : Int} (h : onL l d = xs) (h0 : 0 < xs.length ∧ (xs.getD 0 tst0).lo ≤ d) : onV l d = some (xs.getD 0 tst0).v := by rw [onV, h, if_pos h0]
theorem onV_none {l xs : List Tst} {d : Int} (h : onL l d = xs) (h0 : ¬ (0 < xs.length ∧ (xs.getD 0 tst0).lo ≤ d)) : onV l d = none := by rw [onV, h, if_neg h0]
theorem tlen_take {ls : List (List Tst)} {i : Nat} (hi : i < ls.length) : tlen (ls.take i) + (ls.getD i []).length ≤ tlen ls := by
  have e : tlen (ls.take (i + 1)) = tlen (ls.take i) + (ls.getD i []).length := by
    rw [List.take_succ_eq_append_getElem hi, tlen, List.map_append, List.sum_append, List.getD_eq_getElem?_getD, List.getElem?_eq_getElem hi]; simp [tlen]
  have e2 : tlen ls = tlen (ls.take (i + 1)) + tlen (ls.drop (i + 1)) := by
    rw [tlen, tlen, tlen, ← List.sum_append, ← List.map_append, List.take_append_drop]
  omega
theorem c_borders (ls : List (List Tst)) (hl : ls.length ≤ 1000) (ht : tlen ls ≤ 1000000) :
  Ct Tryz.prog 112 [tL 1 false (fun l => tL 8 true tTs l) ls] (tL 1 false tI (bds ls)) := by
 refine Ct.intro Tryz.func112 rfl Tryz.ntmps112 rfl ?_
 intro w F
 refine x6 ?_
 refine x8 ?_
 refine R1 x5 rfl (x7 (by kernel_rfl) (x3 (x6 ?_)))
 refine x8 ?_
 refine RE (d_assignN (k := 3) 3 1 false rfl (fun _ => rfl)) trivial trivial ⟨rfl, trivial⟩ (x7 (by kernel_rfl) (x3 (x6 (x6 ?_))))
 refine x8 ?_
 refine R1 x4 rfl (R1 (xb9 Tryz.underlying199) rfl (R1 x4 rfl (x7 (by kernel_rfl) (x3 (xa9 ?_)))))
 refine xd6 (fun (fm : (Nat) × (List Int)) => (fun (i : Nat) (xs : List Int) => i ≤ ls.length ∧ xs = (ls.take i).flatMap eds) fm.1 fm.2) (fun (fm : (Nat) × (List Int)) => (fun (i : Nat) (xs : List Int) => upd (upd (upd (upd (fun _ => none) 3 (some (.own (.sl 3 1 0 xs.length)))) 8 (some (.val (tL 1 false (fun l => tL 8 true tTs l) ls)))) 9 (some (.val (tI ls.length)))) 10 (some (.val (tI i)))) fm.1 fm.2) (fun (fm : (Nat) × (List Int)) => (fun (i : Nat) (xs : List Int) => upd (fun _ => none) 3 (some (⟨3, 1, false, rV tI xs⟩))) fm.1 fm.2) (nm [3]) (fun (fm : (Nat) × (List Int)) => (fun (i : Nat) (xs : List Int) => ls.length - i) fm.1 fm.2) ((0, [])) (by dsimp only; exact ⟨Nat.zero_le _, rfl⟩) (Sub.int rfl (by first | omega | rfl | (dsimp only; omega)) (Sub.int rfl (by first | omega | rfl | (dsimp only; omega)) (Sub.cons rfl (Sub.cons rfl Sub.nil)))) ((SubK.consI rfl ImpK.refl) SubK.nil) (SupG.val (SupG.val (SupG.val (SupG.own rfl SupG.nil)))) (SupH.cons rfl (supJ xe3) SupH.nil) (lkOk rfl) ?_
 intro fm hI
 obtain ⟨i, xs⟩ := fm
 replace hI : i ≤ ls.length ∧ xs = (ls.take i).flatMap eds := hI
 show wc _ _ _ _ (upd (upd (upd (upd (fun _ => none) 3 (some (.own (.sl 3 1 0 xs.length)))) 8 (some (.val (tL 1 false (fun l => tL 8 true tTs l) ls)))) 9 (some (.val (tI ls.length)))) 10 (some (.val (tI i)))) (upd (fun _ => none) 3 (some (⟨3, 1, false, rV tI xs⟩))) _
 obtain ⟨hi, hx⟩ := hI
 refine x6 ?_
 refine x8 ?_
 refine R2 xd5 rfl rfl (x7 (by kernel_rfl) (x3 (x6 ?_)))
 refine xc2 rfl (fun h151 => ?_) (fun h151 => ?_)
 ·
  refine xa4 (x3 (x6 (xa9 (x6 ?_))))
  refine x8 ?_
  refine R2 (xb8 sl199 (i) (by omega) (gD (l := ls) (n := i) (d := []) (by omega))) rfl rfl (R1 (xc1 ti88) rfl (R1 x5 rfl (x7 (by kernel_rfl) (x3 (x6 ?_)))))
  refine x8 ?_
  refine R1 x4 rfl (R1 (xb9 Tryz.underlying88) rfl (R1 x4 rfl (x7 (by kernel_rfl) (x3 (xa9 ?_)))))
  refine C_len (s := 14) rfl (fun hl0 => ?_)
  have htk := tlen_take (ls := ls) (i := i) (by omega)
  refine xd6 (fun (fm : (Nat) × (List Int)) => (fun (j : Nat) (xs : List Int) => j ≤ (ls.getD i []).length ∧ xs = (ls.take i).flatMap eds ++ eds ((ls.getD i []).take j)) fm.1 fm.2) (fun (fm : (Nat) × (List Int)) => (fun (j : Nat) (xs : List Int) => upd (upd (upd (upd (upd (upd (upd (fun _ => none) 3 (some (.own (.sl 3 1 0 xs.length)))) 8 (some (.val (tL 1 false (fun l => tL 8 true tTs l) ls)))) 9 (some (.val (tI ls.length)))) 10 (some (.val (tI i)))) 14 (some (.val (tL 8 true tTs (ls.getD i []))))) 15 (some (.val (tI (ls.getD i []).length)))) 16 (some (.val (tI j)))) fm.1 fm.2) (fun (fm : (Nat) × (List Int)) => (fun (j : Nat) (xs : List Int) => upd (fun _ => none) 3 (some (⟨3, 1, false, rV tI xs⟩))) fm.1 fm.2) (nm [3]) (fun (fm : (Nat) × (List Int)) => (fun (j : Nat) (xs : List Int) => (ls.getD i []).length - j) fm.1 fm.2) ((0, xs)) (by dsimp only; exact ⟨Nat.zero_le _, by rw [List.take_zero, hx]; simp [eds]⟩) (Sub.int rfl (by first | omega | rfl | (dsimp only; omega)) (Sub.int rfl (by first | omega | rfl | (dsimp only; omega)) (Sub.cons rfl (Sub.int rfl (by first | omega | rfl | (dsimp only; omega)) (Sub.int rfl (by first | omega | rfl | (dsimp only; omega)) (Sub.cons rfl (Sub.cons rfl Sub.nil))))))) ((SubK.consI rfl ImpK.refl) SubK.nil) (SupG.val (SupG.val (SupG.val (SupG.val (SupG.val (SupG.val (SupG.own rfl SupG.nil))))))) (SupH.cons rfl (supJ xe3) SupH.nil) (lkOk rfl) ?_
  intro fm hI2
  obtain ⟨j, xs⟩ := fm
  replace hI2 : j ≤ (ls.getD i []).length ∧ xs = (ls.take i).flatMap eds ++ eds ((ls.getD i []).take j) := hI2
  show wc _ _ _ _ (upd (upd (upd (upd (upd (upd (upd (fun _ => none) 3 (some (.own (.sl 3 1 0 xs.length)))) 8 (some (.val (tL 1 false (fun l => tL 8 true tTs l) ls)))) 9 (some (.val (tI ls.length)))) 10 (some (.val (tI i)))) 14 (some (.val (tL 8 true tTs (ls.getD i []))))) 15 (some (.val (tI (ls.getD i []).length)))) 16 (some (.val (tI j)))) (upd (fun _ => none) 3 (some (⟨3, 1, false, rV tI xs⟩))) _
  obtain ⟨hj, hx2⟩ := hI2
  have hxl : xs.length = 2 * tlen (ls.take i) + 2 * j := by rw [hx2, List.length_append, flat_len, eds_len, List.length_take, Nat.min_eq_left hj]
  refine x6 ?_
  refine x8 ?_
  refine R2 xd5 rfl rfl (x7 (by kernel_rfl) (x3 (x6 ?_)))
  refine xc2 rfl (fun h152 => ?_) (fun h152 => ?_)
  ·
   refine xa4 (x3 (x6 (xa9 (x6 ?_))))
   refine x8 ?_
   refine R2 (xb8 sl88 (j) (by omega) (gD (l := (ls.getD i [])) (n := j) (d := tst0) (by omega))) rfl rfl (R1 (xc1 ti103) rfl (RE (xc9 (k := 7) (n := 8) (agg := true) zr103.1 zr103.2 rfl) trivial trivial ⟨rfl, trivial⟩ (RE (xb0 (es := 8) (agg := true) (0) ti103 rfl rfl rfl) ⟨rfl, rfl, trivial⟩ ⟨rfl, trivial⟩ trivial (x7 (by kernel_rfl) (x3 ?_)))))
   refine x8 ?_
   refine R1 x4 rfl (R1 (x9 fo103_0 rfl) rfl (xa5 (0) ti3 rfl rfl rfl (At.g 0 rfl rfl) rfl (R1 (x9 fo103_1 rfl) rfl (xa5 (0) ti3 rfl rfl rfl (At.g 1 rfl rfl) rfl (R2 (xf4 (n := 2) (f := fun n : Int => tI n) [((ls.getD i []).getD j tst0).lo, ((ls.getD i []).getD j tst0).hi] Tryz.underlying23 el3 zf3 rfl (fun _ => inferInstance) rfl rfl rfl) rfl rfl (RE (xf1 (k := 3) (k' := 26) (f := fun n : Int => tI n) (ys := [((ls.getD i []).getD j tst0).lo, ((ls.getD i []).getD j tst0).hi]) (ts' := rV tI (xs ++ [((ls.getD i []).getD j tst0).lo, ((ls.getD i []).getD j tst0).hi])) Tryz.underlying23 el3 zf3 rfl rfl (fun _ => inferInstance) rV_len (by simp; omega) (by simp; omega) (by simp [rV]) (n' := xs.length + 2) rfl) ⟨rfl, rfl, trivial⟩ ⟨rfl, trivial⟩ ⟨rfl, trivial⟩ (R1 x5 rfl ?_)))))))
   refine x7 (by kernel_rfl) (xc6 (x3 ?_))
   refine x8 ?_
   refine R2 (xc4 (wr64 (by omega) (by omega))) rfl rfl (R1 x4 rfl (x7 (by kernel_rfl) ?_))
   exact K_famR (l := [3]) (fun j => cond (Nat.beq j 3) 26 (j)) ((j + 1, xs ++ [((ls.getD i []).getD j tst0).lo, ((ls.getD i []).getD j tst0).hi])) ⟨(by dsimp only; exact ⟨by omega, by rw [eds_snoc (by omega), ← List.append_assoc, ← hx2]⟩), (by dsimp only; omega)⟩ (SubR.int rfl (by first | omega | rfl | (dsimp only; omega)) (SubR.int rfl (by first | omega | rfl | (dsimp only; omega)) (SubR.cons rfl (SubR.int rfl (by first | omega | rfl | (dsimp only; omega)) (SubR.int rfl (by first | omega | rfl | (dsimp only; omega)) (SubR.cons rfl ((SubR.consI rfl (Imp.of (by dsimp only; rw [List.length_append]; rfl))) SubR.nil))))))) ((SubKR.consI rfl (ImpK.of xf8.symm)) SubKR.nil) (SupG.val (SupG.val (SupG.val (SupG.val (SupG.val (SupG.val (SupG.own rfl SupG.nil))))))) (SupH.cons rfl (supJ xe3) SupH.nil) (lkOk rfl) rfl rfl (fun _ h => by cases h)
  ·
   refine xd1 (xc0 (xc0 (xd8 (xc6 (x3 ?_)))))
   refine x8 ?_
   refine R2 (xc4 (wr64 (by omega) (by omega))) rfl rfl (R1 x4 rfl (x7 (by kernel_rfl) ?_))
   have hje : j = (ls.getD i []).length := by omega
   subst hje
   exact xc7 ((i + 1, xs)) ⟨(by dsimp only; exact ⟨by omega, by rw [flat_snoc (by omega), hx2, List.take_length]⟩), (by dsimp only; omega)⟩ (Sub.int rfl (by first | omega | rfl | (dsimp only; omega)) (Sub.int rfl (by first | omega | rfl | (dsimp only; omega)) (Sub.cons rfl (Sub.cons rfl Sub.nil)))) ((SubK.consI rfl ImpK.refl) SubK.nil) (SupG.val (SupG.val (SupG.val (SupG.own rfl SupG.nil)))) (SupH.cons rfl (supJ xe3) SupH.nil) (lkOk rfl)
 ·
  refine xd1 (xc0 (xc0 (xd8 (x3 (x6 ?_)))))
  have hie : i = ls.length := by omega
  subst hie
  rw [List.take_length] at hx
  have hxl : xs.length = 2 * tlen ls := by rw [hx, flat_len]
  have hsl := srtI_len xs
  refine x8 ?_
  refine R1 x4 rfl (RE (xh1 (fun _ => 3) (c_SortI xs (by omega)) fi160 rfl (krC (ρ := fun _ => 3) (k := 1) xf8 (krN (ρ := fun _ => 3))) (krC (ρ := fun _ => 3) (k := 1) xf8 (krN (ρ := fun _ => 3))) ⟨⟨rfl, xe3⟩, trivial⟩ rfl) ⟨rfl, trivial⟩ ⟨rfl, trivial⟩ trivial (x7 (by kernel_rfl) (x3 (x6 ?_))))
  refine x8 ?_
  refine R1 x4 rfl (RE (xh1 (fun _ => 3) (c_CompactS xs) fi161 rfl (krC (ρ := fun _ => 3) (k := 1) xf8 (krN (ρ := fun _ => 3))) (krC (ρ := fun _ => 3) (k := 1) xf8 (krN (ρ := fun _ => 3))) ⟨⟨rfl, xe3⟩, trivial⟩ rfl) ⟨rfl, trivial⟩ ⟨rfl, trivial⟩ trivial (RE (d_assignS (f := tI) (xs := brd xs) (fun _ h => h) (rV_all rfl) rfl) ⟨rfl, trivial⟩ ⟨rfl, trivial⟩ trivial (x7 (by kernel_rfl) (x3 (xa2 ?_)))))
  exact xa3 Plain.mk' rfl rfl (Le.of (by rw [hx]; rfl))
theorem c_on (l : List Tst) (d : Int) :
  Ct Tryz.prog 155 [tL 8 true tTs l, tI d] (tT [tO 6 true tVa (onV l d), tL 8 true tTs (onL l d)]) := by
 refine Ct.intro Tryz.func155 rfl Tryz.ntmps155 rfl ?_
 intro w F
 refine x6 ?_
 refine x8 ?_
 refine R1 x5 rfl (R1 x5 rfl (x7 (by kernel_rfl) (x3 (x6 (xa9 ?_)))))
 refine xd6 (fun (xs : List Tst) => onL xs d = onL l d) (fun (xs : List Tst) => upd (upd (fun _ => none) 0 (some (.val (tL 8 true tTs xs)))) 1 (some (.val (tI d)))) (fun (xs : List Tst) => fun _ => none) (nm []) (fun (xs : List Tst) => xs.length) (l) rfl (Sub.int rfl (by first | omega | rfl | (dsimp only; omega)) (Sub.cons rfl Sub.nil)) SubK.nil (SupG.val (SupG.val SupG.nil)) SupH.nil (lkOk rfl) ?_
 intro xs hI
 refine C_len (s := 0) rfl (fun hl0 => ?_)
 refine x6 (x6 ?_)
 refine x8 ?_
 refine R1 x4 rfl (R1 (xb9 Tryz.underlying88) rfl (R2 d_gtr rfl rfl (R1 x4 rfl ?_)))
 refine RGcaseD (t := 9) rfl (fun h124 => ?_) (fun h124 => ?_)
 ·
  refine RGon (decide_eq_true h124) rfl x4 rfl ⟨rfl, trivial⟩ trivial trivial (RGon (decide_eq_true h124) rfl (xb8 sl88 (0) (by omega) (gD (l := xs) (n := 0) (d := tst0) (by omega))) rfl ⟨rfl, rfl, trivial⟩ trivial trivial (RGon (decide_eq_true h124) rfl (xh0 fo103_1 (At.f 1 rfl rfl) rfl) rfl ⟨rfl, trivial⟩ trivial trivial (RGon (decide_eq_true h124) rfl (xc1 ti3) rfl ⟨rfl, trivial⟩ trivial trivial (RGon (decide_eq_true h124) rfl x4 rfl ⟨rfl, trivial⟩ trivial trivial (RGon (decide_eq_true h124) rfl xg2 rfl ⟨rfl, rfl, trivial⟩ trivial trivial (R2 (xa8 (decide_eq_true h124)) rfl rfl (x7 (by kernel_rfl) ?_)))))))
  refine x3 ?_
  refine xc2 rfl (fun h124_2 => ?_) (fun h124_2 => ?_)
  ·
   refine xa4 (x3 (xa9 ?_))
   refine x8 ?_
   refine R1 x4 rfl (R2 (d_sliceFrom sl88 1 rfl (by omega) rfl) rfl rfl (R1 x5 rfl (x7 (by kernel_rfl) (xc6 ?_))))
   exact xc7 (xs.drop 1) ⟨(by rw [on_next (by omega) (by omega)]; exact hI), (by rw [List.length_drop]; omega)⟩ (Sub.int rfl (by first | omega | rfl | (dsimp only; omega)) (Sub.cons rfl Sub.nil)) SubK.nil (SupG.val (SupG.val SupG.nil)) SupH.nil (lkOk rfl)
  ·
   refine xd1 (xc0 (xc0 (xd8 (x3 (x6 (x6 ?_))))))
   have hst : onL l d = xs := by rw [← hI]; exact on_stop (by omega)
   refine x8 ?_
   refine R1 x4 rfl (R1 (xb9 Tryz.underlying88) rfl (R2 d_gtr rfl rfl (R1 x4 rfl ?_)))
   refine RGcaseD (t := 22) rfl (fun h127 => ?_) (fun h127 => ?_)
   ·
    refine RGon (decide_eq_true h127) rfl x4 rfl ⟨rfl, trivial⟩ trivial trivial (RGon (decide_eq_true h127) rfl (xb8 sl88 (0) (by omega) (gD (l := xs) (n := 0) (d := tst0) (by omega))) rfl ⟨rfl, rfl, trivial⟩ trivial trivial (RGon (decide_eq_true h127) rfl (xh0 fo103_0 (At.f 0 rfl rfl) rfl) rfl ⟨rfl, trivial⟩ trivial trivial (RGon (decide_eq_true h127) rfl (xc1 ti3) rfl ⟨rfl, trivial⟩ trivial trivial (RGon (decide_eq_true h127) rfl x4 rfl ⟨rfl, trivial⟩ trivial trivial (RGon (decide_eq_true h127) rfl xg2 rfl ⟨rfl, rfl, trivial⟩ trivial trivial (R2 (xa8 (decide_eq_true h127)) rfl rfl (x7 (by kernel_rfl) ?_)))))))
    refine x3 ?_
    refine xc2 rfl (fun h127_2 => ?_) (fun h127_2 => ?_)
    ·
     refine x6 ?_
     refine x8 ?_
     refine R1 x4 rfl (R2 (xb8 sl88 (0) (by omega) (gD (l := xs) (n := 0) (d := tst0) (by omega))) rfl rfl (R1 (xh0 fo103_2 (At.f 2 rfl rfl) rfl) rfl (R1 x4 rfl (R1 x5 rfl (R1 x5 rfl (x7 (by kernel_rfl) (x3 ?_)))))))
     refine xa2 (xa6 ?_)
     exact xf2 Plain.mk' rfl rfl rfl (leO (n := 6) (agg := true) (f := tVa) (onV_some hst ⟨by omega, by omega⟩)) (Le.of (by rw [hst]))
    ·
     refine xa4 (x3 (x6 ?_))
     refine x8 ?_
     refine R1 x4 rfl (R1 x5 rfl (R1 x5 rfl (x7 (by kernel_rfl) (x3 (xa2 ?_)))))
     exact xf2 Plain.mk' rfl rfl rfl (leO0 (onV_none hst (by omega))) (Le.of (by rw [hst]))
   ·
    refine RGoff (decide_eq_false h127) rfl rfl (RGoff (decide_eq_false h127) rfl rfl (RGoff (decide_eq_false h127) rfl rfl (RGoff (decide_eq_false h127) rfl rfl (RGoff (decide_eq_false h127) rfl rfl (RGoff (decide_eq_false h127) rfl rfl (R2 (xa7 (decide_eq_false h127)) rfl rfl (x7 (by kernel_rfl) ?_)))))))
    refine x3 (C_bF rfl rfl (xa4 (x3 (x6 ?_))))
    refine x8 ?_
    refine R1 x4 rfl (R1 x5 rfl (R1 x5 rfl (x7 (by kernel_rfl) (x3 (xa2 ?_)))))
    exact xf2 Plain.mk' rfl rfl rfl (leO0 (onV_none hst (by omega))) (Le.of (by rw [hst]))
 ·
  refine RGoff (decide_eq_false h124) rfl rfl (RGoff (decide_eq_false h124) rfl rfl (RGoff (decide_eq_false h124) rfl rfl (RGoff (decide_eq_false h124) rfl rfl (RGoff (decide_eq_false h124) rfl rfl (RGoff (decide_eq_false h124) rfl rfl (R2 (xa7 (decide_eq_false h124)) rfl rfl (x7 (by kernel_rfl) ?_)))))))
  refine x3 (C_bF rfl rfl (xd1 (xc0 (xc0 (xd8 (x3 (x6 ?_)))))))
  refine x6 ?_
  have hst : onL l d = xs := by rw [← hI]; exact on_stop (by omega)
  refine x8 ?_
  refine R1 x4 rfl (R1 (xb9 Tryz.underlying88) rfl (R2 d_gtr rfl rfl (R1 x4 rfl ?_)))
  refine RGcaseD (t := 22) rfl (fun h127 => ?_) (fun h127 => ?_)
  ·
   refine RGon (decide_eq_true h127) rfl x4 rfl ⟨rfl, trivial⟩ trivial trivial (RGon (decide_eq_true h127) rfl (xb8 sl88 (0) (by omega) (gD (l := xs) (n := 0) (d := tst0) (by omega))) rfl ⟨rfl, rfl, trivial⟩ trivial trivial (RGon (decide_eq_true h127) rfl (xh0 fo103_0 (At.f 0 rfl rfl) rfl) rfl ⟨rfl, trivial⟩ trivial trivial (RGon (decide_eq_true h127) rfl (xc1 ti3) rfl ⟨rfl, trivial⟩ trivial trivial (RGon (decide_eq_true h127) rfl x4 rfl ⟨rfl, trivial⟩ trivial trivial (RGon (decide_eq_true h127) rfl xg2 rfl ⟨rfl, rfl, trivial⟩ trivial trivial (R2 (xa8 (decide_eq_true h127)) rfl rfl (x7 (by kernel_rfl) ?_)))))))
   refine x3 ?_
   refine xc2 rfl (fun h127_2 => ?_) (fun h127_2 => ?_)
   ·
    refine x6 ?_
    refine x8 ?_
    refine R1 x4 rfl (R2 (xb8 sl88 (0) (by omega) (gD (l := xs) (n := 0) (d := tst0) (by omega))) rfl rfl (R1 (xh0 fo103_2 (At.f 2 rfl rfl) rfl) rfl (R1 x4 rfl (R1 x5 rfl (R1 x5 rfl (x7 (by kernel_rfl) (x3 ?_)))))))
    refine xa2 (xa6 ?_)
    exact xf2 Plain.mk' rfl rfl rfl (leO (n := 6) (agg := true) (f := tVa) (onV_some hst ⟨by omega, by omega⟩)) (Le.of (by rw [hst]))
   ·
    refine xa4 (x3 (x6 ?_))
    refine x8 ?_
    refine R1 x4 rfl (R1 x5 rfl (R1 x5 rfl (x7 (by kernel_rfl) (x3 (xa2 ?_)))))
    exact xf2 Plain.mk' rfl rfl rfl (leO0 (onV_none hst (by omega))) (Le.of (by rw [hst]))
  ·
   refine RGoff (decide_eq_false h127) rfl rfl (RGoff (decide_eq_false h127) rfl rfl (RGoff (decide_eq_false h127) rfl rfl (RGoff (decide_eq_false h127) rfl rfl (RGoff (decide_eq_false h127) rfl rfl (RGoff (decide_eq_false h127) rfl rfl (R2 (xa7 (decide_eq_false h127)) rfl rfl (x7 (by kernel_rfl) ?_)))))))
   refine x3 (C_bF rfl rfl (xa4 (x3 (x6 ?_))))
   refine x8 ?_
   refine R1 x4 rfl (R1 x5 rfl (R1 x5 rfl (x7 (by kernel_rfl) (x3 (xa2 ?_)))))
   exact xf2 Plain.mk' rfl rfl rfl (leO0 (onV_none hst (by omega))) (Le.of (by rw [hst]))
theorem c_together (a b : List Tst) :
  CtG Tryz.prog 109 [] [.val (tL 8 true tTs a), .val (tL 8 true tTs b)] (.own (.fn 154 [.ptr 2 0, .ptr 3 0])) [(2, ⟨88, 1, false, [.val (tL 8 true tTs a)]⟩), (3, ⟨88, 1, false, [.val (tL 8 true tTs b)]⟩)] [2, 3] := by
 refine CtG.intro [] Tryz.func109 rfl Tryz.ntmps109 rfl rfl trivial ?_
 intro w F η
 refine x6 ?_
 refine x8 ?_
 refine RE (xd2 (k := 2) ti88 rfl) ⟨rfl, trivial⟩ trivial ⟨rfl, trivial⟩ (RE (xd2 (k := 3) ti88 rfl) ⟨rfl, trivial⟩ trivial ⟨rfl, trivial⟩ (R1 x5 rfl (x7 (by kernel_rfl) (x3 (x6 ?_)))))
 refine x8 ?_
 refine R2 (d_makeFunc (ps := [.ptr 2 0, .ptr 3 0]) rfl) rfl rfl (R1 x5 rfl (x7 (by kernel_rfl) (x3 (xa2 ?_))))
 exact xh9 LentC.mk' rfl rfl Imp.refl ⟨rfl, rfl, trivial⟩ rfl ⟨⟨rfl, (SupX.lit rfl)⟩, ⟨rfl, (SupX.lit rfl)⟩, trivial⟩ rfl
abbrev tPr (x y : Option Va) : Ty := tS [⟨1, false, tO 6 true tVa x⟩, ⟨1, false, tO 6 true tVa y⟩]
def tgY (a b : List Tst) (k : Nat) : List Ty := [tSn ⟨(bds [a, b]).getD k 0, (bds [a, b]).getD (k + 1) 0⟩, tPr (valT a ((bds [a, b]).getD k 0)) (valT b ((bds [a, b]).getD k 0))]
theorem tg_le {a b : List Tst} {k : Nat} {x y : Option Va} (h1 : x = valT a ((bds [a, b]).getD k 0)) (h2 : y = valT b ((bds [a, b]).getD k 0)) : LeL [tSn ⟨(bds [a, b]).getD k 0, (bds [a, b]).getD (k + 1) 0⟩, tPr x y] (tgY a b k) := by
  subst h1; subst h2; exact ⟨Le.refl, Le.refl, trivial⟩
theorem i_together (a b : List Tst) (ha : ascT a) (hb : ascT b) (hla : a.length ≤ 200000) (hlb : b.length ≤ 200000) :
    ItC Tryz.prog 154 [(1, ⟨88, 1, false, [.val (tL 8 true tTs a)]⟩), (2, ⟨88, 1, false, [.val (tL 8 true tTs b)]⟩)] [.ptr 1 0, .ptr 2 0] ((bds [a, b]).length - 1) (tgY a b) := by
  refine ItC.intro (K := 99) [1, 2] Tryz.func154 rfl Tryz.ntmps154 rfl rfl ⟨⟨rfl, (SupX.lit rfl)⟩, ⟨rfl, (SupX.lit rfl)⟩, trivial⟩ rfl ?_
  intro w F η l V J Jc hB
  refine x6 ?_
  have htl : tlen [a, b] ≤ 400000 := by simp [tlen]; omega
  refine x8 ?_
  refine RE (xb3 (0) ti88 rfl rfl) ⟨rfl, trivial⟩ ⟨rfl, trivial⟩ trivial (RE (xb3 (0) ti88 rfl rfl) ⟨rfl, trivial⟩ ⟨rfl, trivial⟩ trivial (R2 (xf4 (n := 2) (f := fun l => tL 8 true tTs l) [a, b] Tryz.underlying199 el88 zf88 rfl (fun _ => inferInstance) rfl rfl rfl) rfl rfl (R1 (xa0 (c_borders [a, b] (by simp) (by omega)) fi112 rfl) rfl (R1 x5 rfl (x7 (by kernel_rfl) (x3 (x6 ?_)))))))
  refine x8 ?_
  refine R1 x5 rfl (x7 (by kernel_rfl) (x3 (xa9 ?_)))
  have htl : tlen [a, b] ≤ 400000 := by simp [tlen]; omega
  have hdl := bds_len (ls := [a, b])
  refine xd6 (fun (fm : (Nat) × (List Tst) × (List Tst)) => (fun (i : Nat) (xa : List Tst) (xb : List Tst) => (i = 0 ∨ i + 1 ≤ (bds [a, b]).length) ∧ ogI a b xa xb ((bds [a, b]).getD (i - 1) 0)) fm.1 fm.2.1 fm.2.2) (fun (fm : (Nat) × (List Tst) × (List Tst)) => (fun (i : Nat) (xa : List Tst) (xb : List Tst) => upd (upd (upd (upd (upd (fun _ => none) 0 (some (.val (tE (.func (.yield l) #[] #[]))))) 1 (some (.own (.ptr 1 0)))) 2 (some (.own (.ptr 2 0)))) 4 (some (.val (tL 1 false tI (bds [a, b]))))) 5 (some (.val (tI ((i : Int) + 1))))) fm.1 fm.2.1 fm.2.2) (fun (fm : (Nat) × (List Tst) × (List Tst)) => (fun (i : Nat) (xa : List Tst) (xb : List Tst) => upd (upd (upd (fun _ => none) 1 (some (⟨88, 1, false, [.val (tL 8 true tTs xa)]⟩))) 2 (some (⟨88, 1, false, [.val (tL 8 true tTs xb)]⟩))) 99 (some (⟨2 * i, 1, false, []⟩))) fm.1 fm.2.1 fm.2.2) (nm [1, 2, 99]) (fun (fm : (Nat) × (List Tst) × (List Tst)) => (fun (i : Nat) (xa : List Tst) (xb : List Tst) => (bds [a, b]).length - i) fm.1 fm.2.1 fm.2.2) ((0, a, b)) (by dsimp only; exact ⟨.inl rfl, ogI.zero ha hb _⟩) (Sub.int rfl (by first | omega | rfl | (dsimp only; omega)) (Sub.cons rfl (Sub.cons rfl (Sub.cons rfl (Sub.cons rfl Sub.nil))))) ((SubK.consI rfl ImpK.refl) ((SubK.consI rfl ImpK.refl) ((SubK.consI rfl ImpK.refl) SubK.nil))) (SupG.val (SupG.val (SupG.own rfl (SupG.own rfl (SupG.val SupG.nil))))) (SupH.cons rfl (supJL rfl) (SupH.cons rfl (supJL rfl) (SupH.cons rfl (supJL rfl) SupH.nil))) (lkOk rfl) ?_
  intro fm hI
  obtain ⟨i, xa, xb⟩ := fm
  replace hI : (i = 0 ∨ i + 1 ≤ (bds [a, b]).length) ∧ ogI a b xa xb ((bds [a, b]).getD (i - 1) 0) := hI
  show wc _ _ _ _ (upd (upd (upd (upd (upd (fun _ => none) 0 (some (.val (tE (.func (.yield l) #[] #[]))))) 1 (some (.own (.ptr 1 0)))) 2 (some (.own (.ptr 2 0)))) 4 (some (.val (tL 1 false tI (bds [a, b]))))) 5 (some (.val (tI ((i : Int) + 1))))) (upd (upd (upd (fun _ => none) 1 (some (⟨88, 1, false, [.val (tL 8 true tTs xa)]⟩))) 2 (some (⟨88, 1, false, [.val (tL 8 true tTs xb)]⟩))) 99 (some (⟨2 * i, 1, false, []⟩))) _
  obtain ⟨hi, hog⟩ := hI
  refine x6 (x6 ?_)
  refine x8 ?_
  refine R1 x4 rfl (R1 x4 rfl (R1 (xb9 Tryz.underlying23) rfl (R2 xd5 rfl rfl (x7 (by kernel_rfl) (x3 ?_)))))
  refine xc2 rfl (fun h137 => ?_) (fun h137 => ?_)
  ·
    refine xa4 (x3 (x6 (xa9 (x6 ?_))))
    have hle : (bds [a, b]).getD (i - 1) 0 ≤ ((bds [a, b]).getD i 0) := by
      rcases Nat.eq_zero_or_pos i with h0 | h0
      · subst h0; exact Int.le_refl _
      · have := pw_lt (bds_pw (ls := [a, b])) (show i - 1 < i by omega) (by omega); omega
    obtain ⟨hv1, hv2, hog2⟩ := hog.next hle
    refine x8 ?_
    refine RE (xc9 (k := 6) (n := 2) (agg := true) zr154.1 zr154.2 rfl) trivial trivial ⟨rfl, trivial⟩ (x7 (by kernel_rfl) (x3 (x6 ?_)))
    refine xe1 mixed ?_
    refine RE (xb3 (0) ti88 rfl rfl) ⟨rfl, trivial⟩ ⟨rfl, trivial⟩ trivial (R1 x4 rfl (R1 x4 rfl (R2 (xe4 (wr64 (by omega) (by omega))) rfl rfl (R2 (xb8 sl23 (i) (by omega) (gD (l := (bds [a, b])) (n := i) (d := 0) (by omega))) rfl rfl (R1 (xc1 ti3) rfl (R2 (xa0 (c_on xa ((bds [a, b]).getD i 0)) fi155 rfl) rfl rfl (R1 x4 rfl ?_)))))))
    refine R1 (xb7 rfl) rfl (R1 (xb7 rfl) rfl (R1 (x9 fo154_0 rfl) rfl (R_storeF (0) ti152 rfl rfl rfl rfl (Up.g 0 rfl rfl rfl) rfl rfl (RE (xb0 (es := 1) (agg := false) (0) ti88 rfl rfl rfl) ⟨rfl, rfl, trivial⟩ ⟨rfl, trivial⟩ trivial (xd9 (by kernel_rfl) (x3 (x6 ?_)))))))
    refine xe1 mixed ?_
    refine RE (xb3 (0) ti88 rfl rfl) ⟨rfl, trivial⟩ ⟨rfl, trivial⟩ trivial (R1 x4 rfl (R1 x4 rfl (R2 (xe4 (wr64 (by omega) (by omega))) rfl rfl (R2 (xb8 sl23 (i) (by omega) (gD (l := (bds [a, b])) (n := i) (d := 0) (by omega))) rfl rfl (R1 (xc1 ti3) rfl (R2 (xa0 (c_on xb ((bds [a, b]).getD i 0)) fi155 rfl) rfl rfl (R1 x4 rfl ?_)))))))
    refine R1 (xb7 rfl) rfl (R1 (xb7 rfl) rfl (R1 (x9 fo154_1 rfl) rfl (R_storeF (0) ti152 rfl rfl rfl rfl (Up.g 1 rfl rfl rfl) rfl rfl (RE (xb0 (es := 1) (agg := false) (0) ti88 rfl rfl rfl) ⟨rfl, rfl, trivial⟩ ⟨rfl, trivial⟩ trivial (xd9 (by kernel_rfl) (x3 (x6 ?_)))))))
    refine C_drawY (n := 12) mixed ?_
    refine R1 x4 rfl (R1 x4 rfl (R1 x4 rfl (R2 (xe4 (wr64 (by omega) (by omega))) rfl rfl (R2 (xb8 sl23 (i) (by omega) (gD (l := (bds [a, b])) (n := i) (d := 0) (by omega))) rfl rfl (R1 (xc1 ti3) rfl (R1 x4 rfl (R1 x4 rfl ?_)))))))
    refine R2 (xb8 sl23 (i + 1) (by omega) (gD (l := (bds [a, b])) (n := i + 1) (d := 0) (by omega))) rfl rfl (R1 (xc1 ti3) rfl (R2 (xe0 (r := tS [⟨1, false, tI ((bds [a, b]).getD i 0)⟩, ⟨1, false, tI ((bds [a, b]).getD (i + 1) 0)⟩]) (ts := [(0, tI ((bds [a, b]).getD i 0)), (1, tI ((bds [a, b]).getD (i + 1) 0))]) bu99 zr99.2 ⟨_, rfl⟩ rfl ⟨_, _, _, _, rfl, Up.f (fs := [⟨1, false, (tE (.int .i64 0))⟩, ⟨1, false, (tE (.int .i64 0))⟩]) (f := ⟨1, false, (tE (.int .i64 0))⟩) (fs' := [⟨1, false, tI ((bds [a, b]).getD i 0)⟩, ⟨1, false, (tE (.int .i64 0))⟩]) 0 rfl rfl rfl, inferInstance, ⟨_, _, _, _, rfl, Up.f (fs := [⟨1, false, tI ((bds [a, b]).getD i 0)⟩, ⟨1, false, (tE (.int .i64 0))⟩]) (f := ⟨1, false, (tE (.int .i64 0))⟩) (fs' := [⟨1, false, tI ((bds [a, b]).getD i 0)⟩, ⟨1, false, tI ((bds [a, b]).getD (i + 1) 0)⟩]) 1 rfl rfl rfl, inferInstance, Le.refl⟩⟩) rfl rfl (RE (xb3 (0) ti154 rfl rfl) ⟨rfl, trivial⟩ ⟨rfl, trivial⟩ trivial (R_endY (by kernel_rfl) ?_))))
    refine wl_yield (ts := [tSn ⟨((bds [a, b]).getD i 0), ((bds [a, b]).getD (i + 1) 0)⟩, tPr (onV xa ((bds [a, b]).getD i 0)) (onV xb ((bds [a, b]).getD i 0))]) hB (wanted_none rfl) rfl rfl ⟨rfl, rfl, trivial⟩ rfl rfl (by omega) (tg_le hv1 hv2) ?_ ?_
    ·
      refine wl_op xe7 ⟨rfl, trivial⟩ trivial trivial rfl (wl_nil (x3 (C_bF rfl rfl (xa4 (xc6 (x3 ?_))))))
      refine x8 ?_
      refine R1 x4 rfl (R2 (xc4 (wr64 (by omega) (by omega))) rfl rfl (R1 x5 rfl (x7 (by kernel_rfl) ?_)))
      exact xc7 ((i + 1, onL xa ((bds [a, b]).getD i 0), onL xb ((bds [a, b]).getD i 0))) ⟨(by dsimp only; exact ⟨.inr (by omega), hog2⟩), (by dsimp only; omega)⟩ (Sub.int rfl (by first | omega | rfl | (dsimp only; omega)) (Sub.cons rfl (Sub.cons rfl (Sub.cons rfl (Sub.cons rfl Sub.nil))))) ((SubK.consI rfl ImpK.refl) ((SubK.consI rfl ImpK.refl) ((SubK.consI rfl ImpK.refl) SubK.nil))) (SupG.val (SupG.val (SupG.own rfl (SupG.own rfl (SupG.val SupG.nil))))) (SupH.cons rfl (supJL rfl) (SupH.cons rfl (supJL rfl) (SupH.cons rfl (supJL rfl) SupH.nil))) (lkOk rfl)
    ·
      refine wl_op xe7 ⟨rfl, trivial⟩ trivial trivial rfl (wl_nil (x3 (C_bT rfl rfl (xa2 (xc8 (xa6 (xa6 ?_)))))))
      refine xc8 ?_
      exact E_it hB rfl trivial rfl (.inl rfl) rfl (.inr ⟨i, by omega, rfl⟩)
  ·
    refine xd1 (xc0 (xc0 (xd8 ?_)))
    exact E_it hB rfl trivial rfl (.inr rfl) rfl (.inl (by omega))
end An.S

/- Layer 5: sums over timelines whose values have one denominator. Plain data, but for what the walks define. -/
namespace An.S
open Go
theorem sum_nxT {f : Tst → Int} {l : List Tst} {i : Nat} (hi : i < l.length) : ((l.take (i + 1)).map f).sum = ((l.take i).map f).sum + f (l.getD i tst0) := by
  rw [List.take_succ_eq_append_getElem hi, List.map_append, List.sum_append, List.getD_eq_getElem?_getD, List.getElem?_eq_getElem hi]; simp
def dyG (a b : Int) (s : Tst) : Int := min s.hi b - max s.lo a
/-- A value, as so many parts. -/
def wt (D : Int) (v : Va) : Int := (v.f.rat * (D : Rat)).num
theorem int_div (n : Int) : (n : Rat) = Rat.divInt n 1 := by
  have := Rat.num_divInt_den (n : Rat)
  rw [Rat.num_intCast, Rat.den_intCast] at this; exact this.symm
theorem wt_is {D k : Int} (hD : 0 < D) {v : Va} (h : v.f.rat = Rat.divInt k D) : wt D v = k := by
  have e : Rat.divInt k D * (D : Rat) = (k : Rat) := by
    rw [int_div D, int_div k, Rat.divInt_mul_divInt]
    exact (Rat.divInt_eq_divInt_iff (by omega) (by decide)).2 (by rw [Int.mul_one, Int.mul_one])
  rw [wt, h, e, Rat.num_intCast]
theorem mulG (D : Int) (a n : Int) : Rat.divInt a D * (n : Rat) = Rat.divInt (a * n) D := by
  rw [int_div n, Rat.divInt_mul_divInt, Int.mul_one]
theorem addG {D : Int} (hD : 0 < D) (a b : Int) : Rat.divInt a D + Rat.divInt b D = Rat.divInt (a + b) D := by
  rw [Rat.divInt_add_divInt a b (by omega) (by omega)]
  exact (Rat.divInt_eq_divInt_iff (Int.ne_of_gt (Int.mul_pos hD hD)) (by omega)).2 (by rw [← Int.add_mul, Int.mul_assoc])
theorem short_dv {n d : Int} (hd : 0 < d) (h1 : -9223372036854775808 ≤ n) (h2 : n ≤ 9223372036854775807) (h3 : d ≤ 9223372036854775807) : short (Rat.divInt n d) := by
  have l16 : ∀ {n : Int}, -9223372036854775808 ≤ n → n ≤ 9223372036854775807 → len16 n ≤ 256 := fun h1 h2 => Nat.le_trans (len16_64 h1 h2) (by decide)
  have e := lowest_eq (n := n) hd
  have e1 : (wh (Rat.divInt n d).num).l.length = (wh (n / (Int.gcd n d : Int))).l.length := congrArg (fun f : Fr => f.n.l.length) e
  have e2 : (wh ((Rat.divInt n d).den : Int)).l.length = (wh (d / (Int.gcd n d : Int))).l.length := congrArg (fun f : Fr => f.d.l.length) e
  refine ⟨?_, ?_⟩
  · show (wh (Rat.divInt n d).num).l.length ≤ 256
    rw [e1]; exact len16_div (l16 h1 h2)
  · show (wh ((Rat.divInt n d).den : Int)).l.length ≤ 256
    rw [e2]; exact len16_div (l16 (by omega) h3)
/-- Weights and days. -/
def wsG (w : Va → Int) (xs : List Tst) : Int := (xs.map fun s => w s.v * (s.hi - s.lo)).sum
theorem wsG_snoc {w : Va → Int} {xs : List Tst} {s : Tst} : wsG w (xs ++ [s]) = wsG w xs + w s.v * (s.hi - s.lo) := by simp [wsG]
theorem splitG {l : List Tst} (h : 0 < l.length) : l = l.take (l.length - 1) ++ [l.getD (l.length - 1) tst0] := by
  have e : l.take (l.length - 1 + 1) = l.take (l.length - 1) ++ [l[l.length - 1]] := List.take_succ_eq_append_getElem (by omega)
  rw [show l.length - 1 + 1 = l.length by omega, List.take_length] at e
  rw [List.getD_eq_getElem?_getD, List.getElem?_eq_getElem (by omega)]; exact e
theorem setG {l : List Tst} {x : Tst} (h : 0 < l.length) : l.set (l.length - 1) x = l.take (l.length - 1) ++ [x] := by
  have e := List.set_eq_take_append_cons_drop (l := l) (i := l.length - 1) (a := x)
  rw [if_pos (by omega), show l.length - 1 + 1 = l.length by omega, List.drop_length] at e
  exact e
theorem wsG_pst1 {w : Va → Int} {acc : List Tst} {s : Tst} : wsG w (pst1 acc s) = wsG w acc + if s.hi ≤ s.lo then 0 else w s.v * (s.hi - s.lo) := by
  rw [pst1]
  split
  · omega
  · split
    · rename_i hm
      have h1 : wsG w acc = wsG w (acc.take (acc.length - 1)) + w (acc.getD (acc.length - 1) tst0).v * ((acc.getD (acc.length - 1) tst0).hi - (acc.getD (acc.length - 1) tst0).lo) := by rw [← wsG_snoc, ← splitG hm.1]
      rw [setG hm.1, wsG_snoc, h1, ← hm.2.2, hm.2.1]
      simp only [Int.mul_sub]; omega
    · rw [wsG_snoc]
theorem wsG_pst {w : Va → Int} : ∀ (ps acc : List Tst), wsG w (pst acc ps) = wsG w acc + (ps.map fun s => if s.hi ≤ s.lo then 0 else w s.v * (s.hi - s.lo)).sum
  | [], acc => by simp [pst]
  | s :: r, acc => by
    have ih := wsG_pst (w := w) r (pst1 acc s)
    rw [wsG_pst1] at ih
    simp only [pst, List.foldl_cons, List.map_cons, List.sum_cons] at *
    omega
def gS1 (w : Va → Int) (a b : Int) (s : Tst) : Int := if dyG a b s ≤ 0 then 0 else w s.v * dyG a b s
/-- The sum of the days from a to b. -/
def gS (w : Va → Int) (l : List Tst) (a b : Int) : Int := (l.map (gS1 w a b)).sum
theorem wsG_cut {w : Va → Int} {l : List Tst} {a b : Int} : wsG w (cutT l a b) = gS w l a b := by
  rw [cutT, wsG_pst]
  simp only [wsG, List.map_nil, List.sum_nil, Int.zero_add, List.map_map, gS]
  congr 1
  refine List.map_congr_left fun s _ => ?_
  have e1 : (clip a b s).hi = min s.hi b := rfl
  have e2 : (clip a b s).lo = max s.lo a := rfl
  show (if (clip a b s).hi ≤ (clip a b s).lo then (0 : Int) else w s.v * ((clip a b s).hi - (clip a b s).lo)) = gS1 w a b s
  by_cases h : (clip a b s).hi ≤ (clip a b s).lo
  · rw [if_pos h, gS1, if_pos (by simp only [dyG]; omega)]
  · rw [if_neg h, gS1, if_neg (by simp only [dyG]; omega)]; rfl
/-- The days of a list of steps. -/
def dsG (xs : List Tst) : Int := (xs.map fun s => s.hi - s.lo).sum
theorem dsG_le : ∀ {xs : List Tst} {c e : Int}, ascT xs → (∀ s ∈ xs, c ≤ s.lo ∧ s.hi ≤ e) → c ≤ e → 0 ≤ dsG xs ∧ dsG xs ≤ e - c
  | [], c, e, _, _, h => by simp [dsG]; omega
  | s :: r, c, e, ha, hb, h => by
    have hs := ha.1 s (List.mem_cons_self ..)
    have hsb := hb s (List.mem_cons_self ..)
    have hp := List.pairwise_cons.1 ha.2
    have ih := dsG_le (xs := r) (c := s.hi) (e := e) ⟨fun x hx => ha.1 x (List.mem_cons_of_mem _ hx), hp.2⟩ (fun x hx => ⟨hp.1 x hx, (hb x (List.mem_cons_of_mem _ hx)).2⟩) hsb.2
    have e1 : dsG (s :: r) = (s.hi - s.lo) + dsG r := rfl
    omega
theorem wsG_bd {w : Va → Int} {B : Int} : ∀ {xs : List Tst}, (∀ s ∈ xs, s.lo < s.hi ∧ -B ≤ w s.v ∧ w s.v ≤ B) → -(B * dsG xs) ≤ wsG w xs ∧ wsG w xs ≤ B * dsG xs
  | [], _ => by simp [dsG, wsG]
  | s :: r, h => by
    obtain ⟨h1, h2, h3⟩ := h s (List.mem_cons_self ..)
    have ih := wsG_bd (w := w) (B := B) (xs := r) fun x hx => h x (List.mem_cons_of_mem _ hx)
    have e1 : dsG (s :: r) = (s.hi - s.lo) + dsG r := rfl
    have e2 : wsG w (s :: r) = w s.v * (s.hi - s.lo) + wsG w r := rfl
    rw [e1, e2, Int.mul_add]
    have m1 := Int.mul_le_mul_of_nonneg_right h2 (show 0 ≤ s.hi - s.lo by omega)
    have m2 := Int.mul_le_mul_of_nonneg_right h3 (show 0 ≤ s.hi - s.lo by omega)
    rw [Int.neg_mul] at m1
    omega
/-- Steps whose values have the denominator D, and no more than B parts. -/
def wtOk (D B : Int) (l : List Tst) : Prop := ∀ s ∈ l, s.v.f.rat = Rat.divInt (wt D s.v) D ∧ -B ≤ wt D s.v ∧ wt D s.v ≤ B
theorem sum_G {D B : Int} {l : List Tst} (hD : 0 < D) (hDb : D ≤ 9223372036854775807) (hB0 : 0 ≤ B) (hB : B ≤ 140737488355327) (ha : ascT l) (hb : ∀ s ∈ l, 0 ≤ s.lo ∧ s.hi ≤ 65536) (hw : wtOk D B l) : ∀ i, i ≤ l.length → sumT (l.take i) = some (Rat.divInt (wsG (wt D) (l.take i)) D)
  | 0, _ => by
    rw [List.take_zero]
    show some ((0 : Int) : Rat) = some (Rat.divInt 0 D)
    rw [Rat.zero_divInt]; rfl
  | i + 1, hi => by
    have ih := sum_G hD hDb hB0 hB ha hb hw i (by omega)
    have hm := xf5 (l := l) (i := i) (by omega)
    have h1 := ha.1 _ hm
    have h2 := hb _ hm
    obtain ⟨w1, w2, w3⟩ := hw _ hm
    have sub : ∀ s ∈ l.take (i + 1), s ∈ l := fun s hs => List.mem_of_mem_take hs
    have hd := dsG_le (xs := l.take (i + 1)) (c := 0) (e := 65536) ⟨fun s hs => ha.1 s (sub s hs), ha.2.sublist (List.take_sublist ..)⟩ (fun s hs => hb s (sub s hs)) (by decide)
    have hbd := wsG_bd (w := wt D) (B := B) (xs := l.take (i + 1)) fun s hs => ⟨ha.1 s (sub s hs), (hw s (sub s hs)).2⟩
    have e : wsG (wt D) (l.take (i + 1)) = wsG (wt D) (l.take i) + wt D (l.getD i tst0).v * ((l.getD i tst0).hi - (l.getD i tst0).lo) := sum_nxT (by omega)
    have big : B * dsG (l.take (i + 1)) ≤ 9223372036854775807 := by
      have h3 := Int.mul_le_mul hB hd.2 hd.1 (by decide)
      omega
    have m1 := Int.mul_le_mul_of_nonneg_right w2 (show 0 ≤ (l.getD i tst0).hi - (l.getD i tst0).lo by omega)
    have m2 := Int.mul_le_mul_of_nonneg_right w3 (show 0 ≤ (l.getD i tst0).hi - (l.getD i tst0).lo by omega)
    have m3 := Int.mul_le_mul hB (show (l.getD i tst0).hi - (l.getD i tst0).lo ≤ 65536 by omega) (by omega) (by decide)
    rw [Int.neg_mul] at m1
    rw [sum_next (by omega), ih, sumStep, w1, mulG, addG hD, ← e, if_pos ⟨short_dv hD (by omega) (by omega) hDb, short_dv hD (by omega) (by omega) hDb⟩]
theorem cut_pieces {l : List Tst} {a b : Int} {P : Va → Prop} (h : ∀ s ∈ l, (0 ≤ s.lo ∧ s.hi ≤ 65536) ∧ P s.v) : ∀ s ∈ cutT l a b, (0 ≤ s.lo ∧ s.hi ≤ 65536) ∧ P s.v := by
  refine pst_all (P := fun s => (0 ≤ s.lo ∧ s.hi ≤ 65536) ∧ P s.v) (fun x s hx hs e => ⟨⟨hx.1.1, hs.1.2⟩, hx.2⟩) _ _ (fun s hs => by cases hs) fun s hs hlt => ?_
  obtain ⟨x, hx, rfl⟩ := List.mem_map.1 hs
  have h1 := h x hx
  refine ⟨?_, h1.2⟩
  simp only [clip] at *
  omega
/-- The sum of the days from a to b, as a fraction. -/
theorem sum_cut {D B : Int} {l : List Tst} {a b : Int} (hD : 0 < D) (hDb : D ≤ 9223372036854775807) (hB0 : 0 ≤ B) (hB : B ≤ 140737488355327) (hr : ascT l) (hb : ∀ s ∈ l, 0 ≤ s.lo ∧ s.hi ≤ 65536) (hw : wtOk D B l) : sumT (cutT l a b) = some (Rat.divInt (gS (wt D) l a b) D) := by
  have hp := cut_pieces (a := a) (b := b) (P := fun v => v.f.rat = Rat.divInt (wt D v) D ∧ -B ≤ wt D v ∧ wt D v ≤ B) fun s hs => ⟨hb s hs, hw s hs⟩
  have := sum_G (l := cutT l a b) hD hDb hB0 hB (cut_val hr).1 (fun s hs => (hp s hs).1) (fun s hs => (hp s hs).2) _ (Nat.le_refl _)
  rwa [List.take_length, wsG_cut] at this
end An.S

/- Layer 5: timelines whose values have one kind and one denominator. Plain data, but for what the walks define. -/
namespace An.S
open Go
theorem dig_frG (q : Rat) : (fr q).dig := ⟨xe9 xb6 _, xe9 xb6 _⟩
/-- A value of the kind K, of at most B parts. -/
def gOk (K : Nat) (D B : Int) (v : Va) : Prop := (v.valid = true ∧ v.kind = K ∧ v.i = 0 ∧ v.f = fr v.f.rat ∧ short v.f.rat) ∧ v.f.rat = Rat.divInt (wt D v) D ∧ -B ≤ wt D v ∧ wt D v ≤ B
theorem gOk.dig {K : Nat} {D B : Int} {v : Va} (h : gOk K D B v) : v.f.dig := by rw [h.1.2.2.2.1]; exact dig_frG _
theorem gOk.mk {K : Nat} {D B k : Int} (hK : K = 2 ∨ K = 3) (hD : 0 < D) (hDb : D ≤ 9223372036854775807) (h1 : -B ≤ k) (h2 : k ≤ B) (hB : B ≤ 9223372036854775807) : gOk K D B ⟨K, fr (Rat.divInt k D), 0⟩ := by
  have hs : short (Rat.divInt k D) := short_dv hD (by omega) (by omega) hDb
  have hw : wt D ⟨K, fr (Rat.divInt k D), 0⟩ = k := wt_is hD (rat_fr _)
  refine ⟨⟨?_, rfl, rfl, by rw [rat_fr], by rw [rat_fr]; exact hs⟩, ?_, ?_, ?_⟩
  · rw [Va.valid, if_pos hK]
    simp only [Bool.and_eq_true, decide_eq_true_eq]
    exact ⟨trivial, valid_fr hs⟩
  · rw [hw]; exact rat_fr _
  · rw [hw]; exact h1
  · rw [hw]; exact h2
theorem gOk.mono {K : Nat} {D B B' : Int} {v : Va} (h : gOk K D B v) (hB : B ≤ B') : gOk K D B' v := ⟨h.1, h.2.1, by have := h.2.2.1; omega, by have := h.2.2.2; omega⟩
def isG (K : Nat) (D B : Int) (l : List Tst) : Prop := tRight l = true ∧ ∀ s ∈ l, gOk K D B s.v
section
variable {K : Nat} {D B : Int} {l a b : List Tst}
theorem isG.dig (h : isG K D B l) : ∀ s ∈ l, s.v.f.dig := fun s hs => (h.2 s hs).dig
theorem isG.bd (h : isG K D B l) : ∀ s ∈ l, 0 ≤ s.lo ∧ s.lo < s.hi ∧ s.hi ≤ 65536 := fun s hs => by
  obtain ⟨i, hi, rfl⟩ := exists_getD hs
  have := xi4 h.1 hi
  exact ⟨this.1, this.2.1, this.2.2.1⟩
theorem isG.asc (h : isG K D B l) : ascT l := xi7 h.1
theorem isG.nb (h : isG K D B l) : nbT l := tRight_nb h.1
theorem isG.wt (h : isG K D B l) : wtOk D B l := fun s hs => (h.2 s hs).2
theorem isG.out (h : isG K D B l) : ∀ s ∈ l, 0 ≤ s.lo ∧ s.hi ≤ 65536 := fun s hs => by have := h.bd s hs; omega
theorem isG.mono {B' : Int} (h : isG K D B l) (hB : B ≤ B') : isG K D B' l := ⟨h.1, fun s hs => (h.2 s hs).mono hB⟩
theorem isG_of (h : ascT l) (hn : nbT l) (hv : ∀ s ∈ l, (0 ≤ s.lo ∧ s.hi ≤ 65536) ∧ gOk K D B s.v) : isG K D B l :=
  ⟨right_of (K := K) h hn fun s hs => ⟨(hv s hs).1.1, (hv s hs).1.2, (hv s hs).2.1.1, (hv s hs).2.1.2.1⟩, fun s hs => (hv s hs).2⟩
theorem isG.pst1 {s : Tst} (h : isG K D B l) (h0 : 0 ≤ s.lo) (h1 : s.hi ≤ 65536) (hv : gOk K D B s.v) (hl : 0 < l.length → (l.getD (l.length - 1) tst0).hi ≤ s.lo) : isG K D B (An.pst1 l s) := by
  refine ⟨pst1_right h.1 h0 h1 hv.1.1 fun hp => ⟨hl hp, ?_⟩, ?_⟩
  · have := (h.2 _ (xf5 (l := l) (i := l.length - 1) (by omega))).1.2.1
    rw [this, hv.1.2.1]
  · intro x hx
    rw [An.pst1] at hx
    split at hx
    · exact h.2 x hx
    · split at hx
      · rcases List.mem_or_eq_of_mem_set hx with h' | h'
        · exact h.2 x h'
        · subst h'; exact h.2 (l.getD (l.length - 1) tst0) (xf5 (by omega))
      · rcases List.mem_append.1 hx with h' | h'
        · exact h.2 x h'
        · rw [List.mem_singleton.1 h']; exact hv
/-- Put together out of pieces. -/
theorem isG_pst {ps : List Tst} (hp : ps.Pairwise fun s t => s.lo < s.hi → s.hi ≤ t.lo) (hv : ∀ s ∈ ps, s.lo < s.hi → (0 ≤ s.lo ∧ s.hi ≤ 65536) ∧ gOk K D B s.v) : isG K D B (pst [] ps) := by
  have h := pst_val ps [] ⟨fun s hs => (by cases hs), .nil⟩ trivial hp fun x hx => by cases hx
  exact isG_of h.1 h.2.1 (pst_all (P := fun s => (0 ≤ s.lo ∧ s.hi ≤ 65536) ∧ gOk K D B s.v) (fun x s hx hs e => ⟨⟨hx.1.1, hs.1.2⟩, hx.2⟩) _ _ (fun s hs => by cases hs) hv)
theorem isG.cut {x y : Int} (h : isG K D B l) : isG K D B (cutT l x y) := by
  refine isG_pst (h.asc.2.map (clip x y) fun s t hst _ => by simp only [clip]; omega) fun s hs _ => ?_
  obtain ⟨z, hz, rfl⟩ := List.mem_map.1 hs
  have := h.bd z hz
  exact ⟨by simp only [clip]; omega, h.2 z hz⟩
theorem bds_bd (ha : isG K D B a) (hb : isG K D B b) {x : Int} (hx : x ∈ bds [a, b]) : 0 ≤ x ∧ x ≤ 65536 := by
  obtain ⟨l, hl, s, hs, he⟩ := bds_mem.1 hx
  have : 0 ≤ s.lo ∧ s.lo < s.hi ∧ s.hi ≤ 65536 := by
    rcases List.mem_cons.1 hl with rfl | hl
    · exact ha.bd s hs
    · rw [List.mem_singleton.1 hl] at hs; exact hb.bd s hs
  omega
theorem segL_mem {g : Int → Option Va} : ∀ {ds : List Int} {s : Tst}, s ∈ segL g ds → s.lo ∈ ds ∧ s.hi ∈ ds ∧ g s.lo = some s.v
  | [], s, h => by cases h
  | [x], s, h => by cases h
  | x :: y :: r, s, h => by
    rw [segL] at h
    rcases List.mem_append.1 h with h | h
    · cases hg : g x with
      | none => rw [hg] at h; cases h
      | some v =>
        rw [hg] at h
        rw [List.mem_singleton.1 h]
        exact ⟨by simp, by simp, hg⟩
    · have := segL_mem h
      exact ⟨List.mem_cons_of_mem _ this.1, List.mem_cons_of_mem _ this.2.1, this.2.2⟩
theorem isG.join (ha : isG K D B a) (hb : isG K D B b) : isG K D B (jnT a b) := by
  refine isG_pst ((segL_pw bds_pw).2.imp (S := fun s t : Tst => s.lo < s.hi → s.hi ≤ t.lo) fun h' _ => h') fun s hs _ => ?_
  obtain ⟨h1, h2, h3⟩ := segL_mem hs
  have b1 := bds_bd ha hb h1
  have b2 := bds_bd ha hb h2
  refine ⟨⟨b1.1, b2.2⟩, ?_⟩
  rw [jnG] at h3
  rcases Option.or_eq_some_iff.1 h3 with h4 | ⟨_, h4⟩
  · obtain ⟨t, ht, _, e⟩ := valT_some h4
    rw [← e]; exact hb.2 t ht
  · obtain ⟨t, ht, _, e⟩ := valT_some h4
    rw [← e]; exact ha.2 t ht
theorem isG.same {D' B' : Int} {K' : Nat} (ha : isG K D B a) (hb : isG K' D' B' b) (h : ∀ d, valT a d = valT b d) : a = b := tl_same ha.1 hb.1 h
/-- What Sum returns. -/
theorem isG.sum {x y : Int} (hK : K = 2 ∨ K = 3) (hD : 0 < D) (hDb : D ≤ 9223372036854775807) (hB0 : 0 ≤ B) (hB : B ≤ 140737488355327) (h : isG K D B l) (hxy : Sn.ok ⟨x, y⟩ = true) : sumC l x y ∧ sumT (cutT l x y) = some (Rat.divInt (gS (An.S.wt D) l x y) D) := by
  refine ⟨⟨⟨h.1, hxy⟩, ?_⟩, sum_cut hD hDb hB0 hB h.asc h.out h.wt⟩
  rcases Nat.eq_zero_or_pos l.length with h0 | h0
  · exact .inl h0
  · have := (h.2 _ (xf5 (l := l) h0)).1.2.1
    rcases hK with rfl | rfl
    · exact .inr (.inl this)
    · exact .inr (.inr this)
end
end An.S

/- Layer 4: sets are swept day by day. Plain data. -/
namespace An.S
open Go
/-- The i-th border of a set. -/
def bd (l : List Sn) (i : Nat) : Int := if i % 2 = 0 then (l.getD (i / 2) sn0).lo else (l.getD (i / 2) sn0).hi
/-- The next day at which something changes, if the borders i and j come next. -/
def cday1 (a : List Sn) (i : Nat) : Int := if i < 2 * a.length then min 65536 (bd a i) else 65536
def cday (a b : List Sn) (i j : Nat) : Int := if j < 2 * b.length then min (cday1 a i) (bd b j) else cday1 a i
def cnxt (a : List Sn) (i : Nat) (d : Int) : Nat := if i < 2 * a.length ∧ bd a i = d then i + 1 else i
abbrev Ch := Int × Nat × Nat
def ch0 : Ch := (0, 0, 0)
def chL (a b : List Sn) : Nat → Nat → Nat → List Ch
  | 0, _, _ => []
  | f + 1, i, j => if i < 2 * a.length ∨ j < 2 * b.length then (cday a b i j, cnxt a i (cday a b i j), cnxt b j (cday a b i j)) :: chL a b f (cnxt a i (cday a b i j)) (cnxt b j (cday a b i j)) else []
def chAll (a b : List Sn) : List Ch := chL a b (2 * a.length + 2 * b.length) 0 0
theorem bd_le {l : List Sn} {i : Nat} (h : sVal l = true) (hi : i < 2 * l.length) : 0 ≤ bd l i ∧ bd l i ≤ 65536 := by
  have := sVal_at h (i := i / 2) (by omega)
  rw [bd]; split <;> omega
theorem bd_succ {l : List Sn} {i : Nat} (h : sVal l = true) (hi : i + 1 < 2 * l.length) : bd l i < bd l (i + 1) := by
  rcases Nat.mod_two_eq_zero_or_one i with h0 | h0
  · have := sVal_at h (i := i / 2) (by omega)
    rw [bd, bd, if_pos h0, if_neg (by omega), show (i + 1) / 2 = i / 2 by omega]; exact this.2.1
  · have := (sOkA_iff.1 (sVal_iff.1 h ((i + 1) / 2) (by omega))).2.2.resolve_left (by omega)
    rw [bd, bd, if_neg (by omega), if_pos (by omega)]
    rw [show (i + 1) / 2 - 1 = i / 2 by omega] at this; exact this
theorem bd_lt {l : List Sn} (h : sVal l = true) : ∀ {j i : Nat}, i < j → j < 2 * l.length → bd l i < bd l j
  | j + 1, i, hij, hj => by
    have h1 := bd_succ h hj
    rcases Nat.lt_or_ge i j with h2 | h2
    · have := bd_lt h h2 (by omega); omega
    · have : i = j := by omega
      subst this; exact h1
/-- One of two borders is reached. -/
theorem cday_is {a b : List Sn} {i j : Nat} (ha : sVal a = true) (hb : sVal b = true) (h : i < 2 * a.length ∨ j < 2 * b.length) : (i < 2 * a.length → cday a b i j ≤ bd a i) ∧ (j < 2 * b.length → cday a b i j ≤ bd b j) ∧ (i < 2 * a.length ∧ cday a b i j = bd a i ∨ j < 2 * b.length ∧ cday a b i j = bd b j) := by
  have h1 := fun hi => bd_le (i := i) ha hi
  have h2 := fun hj => bd_le (i := j) hb hj
  simp only [cday, cday1]
  by_cases hi : i < 2 * a.length
  · have h1 := h1 hi
    by_cases hj : j < 2 * b.length
    · have h2 := h2 hj
      rw [if_pos hj, if_pos hi]; omega
    · rw [if_neg hj, if_pos hi]; omega
  · have hj : j < 2 * b.length := h.resolve_left hi
    have h2 := h2 hj
    rw [if_pos hj, if_neg hi]; omega
theorem cnxt_adv {a b : List Sn} {i j : Nat} (ha : sVal a = true) (hb : sVal b = true) (h : i < 2 * a.length ∨ j < 2 * b.length) : i ≤ cnxt a i (cday a b i j) ∧ cnxt a i (cday a b i j) ≤ i + 1 ∧ j ≤ cnxt b j (cday a b i j) ∧ cnxt b j (cday a b i j) ≤ j + 1 ∧ i + j < cnxt a i (cday a b i j) + cnxt b j (cday a b i j) := by
  have := (cday_is ha hb h).2.2
  generalize cday a b i j = d at *
  simp only [cnxt]
  rcases this with h1 | h1
  · rw [if_pos ⟨h1.1, h1.2.symm⟩]; split <;> omega
  · rw [if_pos (c := j < 2 * b.length ∧ bd b j = d) ⟨h1.1, h1.2.symm⟩]; split <;> omega
theorem cnxt_le {a : List Sn} {i : Nat} {d : Int} (h : i ≤ 2 * a.length) : cnxt a i d ≤ 2 * a.length := by rw [cnxt]; split <;> omega
theorem drop_cons {α : Type} {l r : List α} {x : α} {k : Nat} (h : l.drop k = x :: r) : k < l.length ∧ l[k]? = some x ∧ l.drop (k + 1) = r := by
  have hk : k < l.length := by
    rcases Nat.lt_or_ge k l.length with h1 | h1
    · exact h1
    · rw [List.drop_eq_nil_of_le h1] at h; cases h
  rw [List.drop_eq_getElem_cons hk, List.cons.injEq] at h
  exact ⟨hk, by rw [List.getElem?_eq_getElem hk, h.1], h.2⟩
/-- The round k, with the borders i and j next. -/
def CI (a b : List Sn) (k i j : Nat) : Prop := i ≤ 2 * a.length ∧ j ≤ 2 * b.length ∧ k ≤ (chAll a b).length ∧ ∃ f, chL a b f i j = (chAll a b).drop k ∧ 2 * a.length + 2 * b.length ≤ f + (i + j)
theorem CI.next {a b : List Sn} {k i j : Nat} (ha : sVal a = true) (hb : sVal b = true) (h : CI a b k i j) (hij : i < 2 * a.length ∨ j < 2 * b.length) : k < (chAll a b).length ∧ (chAll a b).getD k ch0 = (cday a b i j, cnxt a i (cday a b i j), cnxt b j (cday a b i j)) ∧ CI a b (k + 1) (cnxt a i (cday a b i j)) (cnxt b j (cday a b i j)) ∧ i + j < cnxt a i (cday a b i j) + cnxt b j (cday a b i j) := by
  obtain ⟨h1, h2, h3, f, h4, h5⟩ := h
  have hadv := cnxt_adv ha hb hij
  cases f with
  | zero => omega
  | succ f =>
    rw [chL, if_pos hij] at h4
    obtain ⟨e1, e2, e3⟩ := drop_cons h4.symm
    refine ⟨e1, by rw [List.getD_eq_getElem?_getD, e2]; rfl, ⟨cnxt_le h1, cnxt_le h2, e1, f, e3.symm, by omega⟩, hadv.2.2.2.2⟩
theorem CI.stop {a b : List Sn} {k i j : Nat} (h : CI a b k i j) (hij : ¬ (i < 2 * a.length ∨ j < 2 * b.length)) : (chAll a b).length ≤ k := by
  obtain ⟨_, _, _, f, h4, _⟩ := h
  have : chL a b f i j = [] := by cases f with
    | zero => rfl
    | succ f => rw [chL, if_neg hij]
  rw [this] at h4
  have := congrArg List.length h4
  simp at this; omega
theorem CI.zero {a b : List Sn} : CI a b 0 0 0 := ⟨Nat.zero_le _, Nat.zero_le _, Nat.zero_le _, _, rfl, by omega⟩
/-- What is chosen. -/
structure Ck where
  xs : List Sn
  lo : Int
  ins : Bool
def ck1 (kp : Bool → Bool → Bool) (s : Ck) (c : Ch) : Ck :=
  ⟨if s.ins && !kp (c.2.1 % 2 == 1) (c.2.2 % 2 == 1) then s.xs ++ [⟨if kp (c.2.1 % 2 == 1) (c.2.2 % 2 == 1) && !s.ins then c.1 else s.lo, c.1⟩] else s.xs, if kp (c.2.1 % 2 == 1) (c.2.2 % 2 == 1) && !s.ins then c.1 else s.lo, kp (c.2.1 % 2 == 1) (c.2.2 % 2 == 1)⟩
def ckRun (kp : Bool → Bool → Bool) (a b : List Sn) : Ck := (chAll a b).foldl (ck1 kp) ⟨[], 0, false⟩
end An.S

/- Layer 4: what is chosen is the set of the days that are wanted; sets with the same days are the same. Plain data. -/
namespace An.S
open Go
def mem (l : List Sn) (d : Int) : Bool := l.any fun s => decide (s.lo ≤ d) && decide (d < s.hi)
theorem mem_iff {l : List Sn} {d : Int} : mem l d = true ↔ ∃ s ∈ l, s.lo ≤ d ∧ d < s.hi := by simp [mem]
theorem mem_no {l : List Sn} {d : Int} : mem l d = false ↔ ∀ s ∈ l, ¬ (s.lo ≤ d ∧ d < s.hi) := by
  rw [← Bool.not_eq_true, mem_iff]; simp only [not_exists, not_and]
theorem mem_snoc {l : List Sn} {s : Sn} {d : Int} : mem (l ++ [s]) d = (mem l d || (decide (s.lo ≤ d) && decide (d < s.hi))) := by simp [mem]
/-- The border i is the first one behind the day D. -/
def Pos (l : List Sn) (i : Nat) (D : Int) : Prop := i ≤ 2 * l.length ∧ (∀ k, k < i → bd l k ≤ D) ∧ ∀ k, i ≤ k → k < 2 * l.length → D < bd l k
theorem exists_getS {l : List Sn} {s : Sn} (hs : s ∈ l) : ∃ i, i < l.length ∧ s = l.getD i sn0 := by
  obtain ⟨i, hi, e⟩ := List.getElem_of_mem hs
  exact ⟨i, hi, by rw [List.getD_eq_getElem?_getD, List.getElem?_eq_getElem hi]; exact e.symm⟩
theorem mem_getS {l : List Sn} {i : Nat} (hi : i < l.length) : l.getD i sn0 ∈ l := by
  rw [List.getD_eq_getElem?_getD, List.getElem?_eq_getElem hi]; exact List.getElem_mem hi
theorem bd_even (l : List Sn) (p : Nat) : bd l (2 * p) = (l.getD p sn0).lo := by rw [bd, if_pos (by omega), show 2 * p / 2 = p by omega]
theorem bd_odd (l : List Sn) (p : Nat) : bd l (2 * p + 1) = (l.getD p sn0).hi := by rw [bd, if_neg (by omega), show (2 * p + 1) / 2 = p by omega]
theorem Pos.mem {l : List Sn} {i : Nat} {D : Int} (h : Pos l i D) : mem l D = (i % 2 == 1) := by
  obtain ⟨h1, h2, h3⟩ := h
  rw [Bool.eq_iff_iff, mem_iff, beq_iff_eq]
  constructor
  · rintro ⟨s, hs, h4, h5⟩
    obtain ⟨p, hp, rfl⟩ := exists_getS hs
    rw [← bd_even] at h4; rw [← bd_odd] at h5
    have a1 : ¬ i ≤ 2 * p := fun h' => by have := h3 _ h' (by omega); omega
    have a2 : ¬ 2 * p + 1 < i := fun h' => by have := h2 _ h'; omega
    omega
  · intro h4
    have e : i = 2 * (i / 2) + 1 := by omega
    refine ⟨l.getD (i / 2) sn0, mem_getS (by omega), ?_, ?_⟩
    · rw [← bd_even]; exact h2 _ (by omega)
    · rw [← bd_odd]; exact h3 _ (by omega) (by omega)
theorem Pos.stay {l : List Sn} {i : Nat} {D d e : Int} (hv : sVal l = true) (h : Pos l i D) (hd : D ≤ d) (he : d < e) (hb : i < 2 * l.length → e ≤ bd l i) : Pos l i d := by
  refine ⟨h.1, fun k hk => by have := h.2.1 k hk; omega, fun k hk hk2 => ?_⟩
  have h1 := hb (by omega)
  rcases Nat.lt_or_ge i k with h2 | h2
  · have := bd_lt hv h2 hk2; omega
  · have : k = i := by omega
    subst this; omega
theorem Pos.next {l : List Sn} {i : Nat} {D e : Int} (hv : sVal l = true) (h : Pos l i D) (he : D < e) (hb : i < 2 * l.length → e ≤ bd l i) : Pos l (cnxt l i e) e := by
  refine ⟨cnxt_le h.1, fun k hk => ?_, fun k hk hk2 => ?_⟩
  · rw [cnxt] at hk
    split at hk
    · rename_i hc
      rcases Nat.lt_or_ge k i with h2 | h2
      · have := h.2.1 k h2; omega
      · have : k = i := by omega
        subst this; omega
    · have := h.2.1 k hk; omega
  · rw [cnxt] at hk
    split at hk
    · rename_i hc
      have := bd_lt hv (show i < k by omega) hk2; omega
    · rename_i hc
      have h1 := hb (by omega)
      rcases Nat.lt_or_ge i k with h2 | h2
      · have := bd_lt hv h2 hk2; omega
      · have : k = i := by omega
        subst this
        have : ¬ bd l k = e := fun h' => hc ⟨hk2, h'⟩
        omega
theorem Pos.zero {l : List Sn} (hv : sVal l = true) : Pos l 0 (-1) := ⟨Nat.zero_le _, fun k hk => by omega, fun k _ hk2 => by have := bd_le hv hk2; omega⟩
theorem sVal_lt {l : List Sn} (h : sVal l = true) {i j : Nat} (hij : i < j) (hj : j < l.length) : (l.getD i sn0).hi < (l.getD j sn0).lo := by
  have := bd_lt h (show 2 * i + 1 < 2 * j by omega) (by omega)
  rwa [bd_odd, bd_even] at this
theorem lastS_no {l : List Sn} {d : Int} (h : sVal l = true) (hl : 0 < l.length → (lastS l).hi ≤ d) : mem l d = false := mem_no.2 fun s hs h' => by
  obtain ⟨i, hi, rfl⟩ := exists_getS hs
  have h1 := hl (by omega)
  have h2 := sVal_at h hi
  rcases Nat.lt_or_ge i (l.length - 1) with h3 | h3
  · have h4 := sVal_lt h h3 (by omega)
    have h5 := sVal_at h (i := l.length - 1) (by omega)
    have h6 : (l.getD (l.length - 1) sn0).hi ≤ d := h1
    omega
  · have : i = l.length - 1 := by omega
    subst this
    have h6 : (l.getD (l.length - 1) sn0).hi ≤ d := h1
    omega
structure CkI (kp : Bool → Bool → Bool) (a b : List Sn) (s : Ck) (i j : Nat) (D : Int) : Prop where
  d0 : -1 ≤ D
  pa : Pos a i D
  pb : Pos b j D
  ins : s.ins = kp (i % 2 == 1) (j % 2 == 1)
  val : sVal s.xs = true
  last : 0 < s.xs.length → (lastS s.xs).hi ≤ D ∧ (s.ins = true → (lastS s.xs).hi < s.lo)
  lo : s.ins = true → 0 ≤ s.lo ∧ s.lo ≤ D
  all : ∀ d, d ≤ D → (mem s.xs d || (s.ins && decide (s.lo ≤ d))) = kp (mem a d) (mem b d)
theorem CkI.next {kp : Bool → Bool → Bool} {a b : List Sn} {s : Ck} {i j : Nat} {D : Int} (ha : sVal a = true) (hb : sVal b = true) (h : CkI kp a b s i j D) (hij : i < 2 * a.length ∨ j < 2 * b.length) : CkI kp a b (ck1 kp s (cday a b i j, cnxt a i (cday a b i j), cnxt b j (cday a b i j))) (cnxt a i (cday a b i j)) (cnxt b j (cday a b i j)) (cday a b i j) := by
  obtain ⟨c1, c2, c3⟩ := cday_is ha hb hij
  have hD : D < cday a b i j := by
    rcases c3 with c3 | c3
    · have := h.pa.2.2 i (Nat.le_refl _) c3.1; omega
    · have := h.pb.2.2 j (Nat.le_refl _) c3.1; omega
  have hE : cday a b i j ≤ 65536 := by
    rcases c3 with c3 | c3
    · have := bd_le ha c3.1; omega
    · have := bd_le hb c3.1; omega
  generalize cday a b i j = e at *
  have pa := h.pa.next ha hD c1
  have pb := h.pb.next hb hD c2
  have mid : ∀ d, D < d → d < e → kp (mem a d) (mem b d) = s.ins := fun d h1 h2 => by
    rw [(h.pa.stay ha (by omega) h2 c1).mem, (h.pb.stay hb (by omega) h2 c2).mem, h.ins]
  have now : kp (mem a e) (mem b e) = kp (cnxt a i e % 2 == 1) (cnxt b j e % 2 == 1) := by rw [pa.mem, pb.mem]
  have hno : ∀ d, D ≤ d → mem s.xs d = false := fun d hd => lastS_no h.val fun h0 => by have := (h.last h0).1; omega
  obtain ⟨xs, lo, ins⟩ := s
  have hd0 := h.d0
  have hd1 : -1 ≤ e := by omega
  obtain ⟨_, _, _, h3, h4, h5, h6, h7⟩ := h
  simp only at *
  cases hn : kp (cnxt a i e % 2 == 1) (cnxt b j e % 2 == 1) <;> cases ins
  · -- outside, outside
    have e1 : ck1 kp ⟨xs, lo, false⟩ (e, cnxt a i e, cnxt b j e) = ⟨xs, lo, false⟩ := by simp [ck1, hn]
    rw [e1]
    refine ⟨hd1, pa, pb, hn.symm, h4, fun h0 => ⟨by have := (h5 h0).1; show (lastS xs).hi ≤ e; omega, fun h' => by cases h'⟩, fun h' => (by cases h'), fun d hd => ?_⟩
    show (mem xs d || (false && decide (lo ≤ d))) = _
    rcases Int.lt_or_le D d with hd2 | hd2
    · rw [hno d (by omega)]
      rcases Int.lt_or_le d e with hd3 | hd3
      · rw [mid d hd2 hd3]; rfl
      · rw [show d = e by omega, now, hn]; rfl
    · exact h7 d hd2
  · -- ends
    have e1 : ck1 kp ⟨xs, lo, true⟩ (e, cnxt a i e, cnxt b j e) = ⟨xs ++ [⟨lo, e⟩], lo, false⟩ := by simp [ck1, hn]
    rw [e1]
    obtain ⟨l0, l1⟩ := h6 rfl
    refine ⟨hd1, pa, pb, hn.symm, sVal_snoc h4 ⟨l0, by show lo < e; omega, hE⟩ fun h0 => (h5 h0).2 rfl, fun _ => ⟨?_, fun h' => by cases h'⟩, fun h' => (by cases h'), fun d hd => ?_⟩
    · show (lastS (xs ++ [⟨lo, e⟩])).hi ≤ e
      rw [lastS, getD_snocS, List.length_append, List.length_singleton, if_neg (by omega), if_pos (by omega)]
      exact Int.le_refl _
    · show (mem (xs ++ [⟨lo, e⟩]) d || (false && _)) = _
      rw [mem_snoc]
      rcases Int.lt_or_le D d with hd2 | hd2
      · rw [hno d (by omega)]
        rcases Int.lt_or_le d e with hd3 | hd3
        · rw [mid d hd2 hd3]; simp; omega
        · rw [show d = e by omega, now, hn]; simp
      · rw [← h7 d hd2, show decide (d < e) = true from decide_eq_true (by omega)]; simp
  · -- begins
    have e1 : ck1 kp ⟨xs, lo, false⟩ (e, cnxt a i e, cnxt b j e) = ⟨xs, e, true⟩ := by simp [ck1, hn]
    rw [e1]
    refine ⟨hd1, pa, pb, hn.symm, h4, fun h0 => ⟨by have := (h5 h0).1; show (lastS xs).hi ≤ e; omega, fun _ => by have := (h5 h0).1; show (lastS xs).hi < e; omega⟩, fun _ => ⟨by show 0 ≤ e; omega, Int.le_refl _⟩, fun d hd => ?_⟩
    show (mem xs d || (true && decide (e ≤ d))) = _
    rcases Int.lt_or_le D d with hd2 | hd2
    · rw [hno d (by omega)]
      rcases Int.lt_or_le d e with hd3 | hd3
      · rw [mid d hd2 hd3]; simp; omega
      · rw [show d = e by omega, now, hn]; simp
    · rw [← h7 d hd2, show decide (e ≤ d) = false from decide_eq_false (by omega)]; simp
  · -- inside, inside
    have e1 : ck1 kp ⟨xs, lo, true⟩ (e, cnxt a i e, cnxt b j e) = ⟨xs, lo, true⟩ := by simp [ck1, hn]
    rw [e1]
    obtain ⟨l0, l1⟩ := h6 rfl
    refine ⟨hd1, pa, pb, hn.symm, h4, fun h0 => ⟨by have := (h5 h0).1; show (lastS xs).hi ≤ e; omega, (h5 h0).2⟩, fun _ => ⟨l0, by show lo ≤ e; omega⟩, fun d hd => ?_⟩
    show (mem xs d || (true && decide (lo ≤ d))) = _
    rcases Int.lt_or_le D d with hd2 | hd2
    · rw [hno d (by omega)]
      rcases Int.lt_or_le d e with hd3 | hd3
      · rw [mid d hd2 hd3]; simp; omega
      · rw [show d = e by omega, now, hn]; simp; omega
    · exact h7 d hd2
/-! Sets with the same days are the same. -/
def setS (l : List Sn) : Prop := (∀ s ∈ l, okS s) ∧ l.Pairwise fun s t => s.hi < t.lo
theorem mem_cons {s : Sn} {r : List Sn} {d : Int} : mem (s :: r) d = ((decide (s.lo ≤ d) && decide (d < s.hi)) || mem r d) := by simp [mem]
/-! Worked days. -/
theorem mem_append {a b : List Sn} {d : Int} : mem (a ++ b) d = (mem a d || mem b d) := by simp [mem]
end An.S

/- Layer 5: days looked for, days covered, days that differ. Plain data, but for what the walks define. -/
namespace An.S
open Go
/-- The index of the first step that has days from d on. -/
def fndT (l : List Tst) (d : Int) : Nat := (l.takeWhile fun s => decide (s.hi ≤ d)).length
theorem fndT_is {d : Int} : ∀ {l : List Tst} {p : Nat}, p ≤ l.length → (∀ i, i < p → (l.getD i tst0).hi ≤ d) → (p < l.length → d < (l.getD p tst0).hi) → p = fndT l d
  | [], p, hp, _, _ => by simp at hp; subst hp; rfl
  | s :: r, 0, _, _, h => by
    have h1 : d < s.hi := h (by simp)
    rw [fndT, List.takeWhile_cons, if_neg (by simp; omega)]; rfl
  | s :: r, p + 1, hp, h1, h2 => by
    have h3 : s.hi ≤ d := h1 0 (by omega)
    have ih := fndT_is (d := d) (l := r) (p := p) (by simpa using hp) (fun i hi => by have := h1 (i + 1) (by omega); simpa using this) (fun hp2 => by have := h2 (by simpa using hp2); simpa using this)
    rw [fndT, List.takeWhile_cons, if_pos (by simp; omega), List.length_cons, ← fndT, ← ih]
theorem hiT_mono {l : List Tst} (h : tRight l = true) {i j : Nat} (hij : i ≤ j) (hj : j < l.length) : (l.getD i tst0).hi ≤ (l.getD j tst0).hi := by
  rcases Nat.lt_or_ge i j with h1 | h1
  · have := tRight_lt h h1 hj
    have := (xi4 h hj).2.1; omega
  · rw [show i = j by omega]; exact Int.le_refl _
theorem fndT_le {l : List Tst} {d : Int} : fndT l d ≤ l.length := (List.takeWhile_sublist _).length_le
theorem onL_drop {d : Int} : ∀ l : List Tst, onL l d = l.drop (fndT l d)
  | [] => rfl
  | s :: r => by
    by_cases h : s.hi ≤ d
    · have e1 : onL (s :: r) d = onL r d := by rw [onL, List.dropWhile_cons_of_pos (by simpa using h)]; rfl
      have e2 : fndT (s :: r) d = fndT r d + 1 := by rw [fndT, List.takeWhile_cons, if_pos (by simpa using h), List.length_cons, ← fndT]
      rw [e1, e2, List.drop_succ_cons, onL_drop r]
    · have e1 : onL (s :: r) d = s :: r := by rw [onL, List.dropWhile_cons_of_neg (by simpa using h)]
      have e2 : fndT (s :: r) d = 0 := by rw [fndT, List.takeWhile_cons, if_neg (by simpa using h)]; rfl
      rw [e1, e2, List.drop_zero]
theorem atT_is {l : List Tst} {d : Int} (h : tRight l = true) : valT l d = if fndT l d < l.length ∧ (l.getD (fndT l d) tst0).lo ≤ d then some (l.getD (fndT l d) tst0).v else none := by
  rw [← onV_val (xi7 h), onV, onL_drop, List.length_drop]
  have e : (l.drop (fndT l d)).getD 0 tst0 = l.getD (fndT l d) tst0 := by
    rw [List.getD_eq_getElem?_getD, List.getD_eq_getElem?_getD, List.getElem?_drop, Nat.add_zero]
  rw [e]
  by_cases h1 : fndT l d < l.length ∧ (l.getD (fndT l d) tst0).lo ≤ d
  · rw [if_pos h1, if_pos ⟨by omega, h1.2⟩]
  · rw [if_neg h1, if_neg (fun h' => h1 ⟨by omega, h'.2⟩)]
/-- What At returns. -/
def atR (l : List Tst) (d : Int) : Option Va := if tRight l = true then valT l d else none
/-- The days of the steps. -/
def spT (s : Tst) : Sn := ⟨s.lo, s.hi⟩
def cvS (l : List Tst) : List Sn := l.map spT
def cvL (l : List Tst) (i : Nat) : List Sn := (l.take i).map spT ++ List.replicate (l.length - i) sn0
theorem cvL_len {l : List Tst} {i : Nat} (hi : i ≤ l.length) : (cvL l i).length = l.length := by simp [cvL]; omega
theorem cvL_set {l : List Tst} {i : Nat} (hi : i < l.length) : (cvL l i).set i (spT (l.getD i tst0)) = cvL l (i + 1) := by
  have h1 : ((l.take i).map spT).length = i := by simp; omega
  rw [cvL, List.set_append_right _ _ (by omega), h1, Nat.sub_self, show l.length - i = (l.length - (i + 1)) + 1 by omega, List.replicate_succ, List.set_cons_zero, cvL, List.take_succ_eq_append_getElem hi, List.map_append, List.append_assoc, List.getD_eq_getElem?_getD, List.getElem?_eq_getElem hi]
  rfl
theorem cvL_all (l : List Tst) : cvL l l.length = cvS l := by simp [cvL, cvS]
theorem cvS_asc {l : List Tst} (h : tRight l = true) : ascS (cvS l) := by
  refine ⟨fun s hs => ?_, (tRight_pair h).map spT fun s t hst => hst⟩
  obtain ⟨x, hx, rfl⟩ := List.mem_map.1 hs
  obtain ⟨i, hi, rfl⟩ := exists_getD hx
  have := xi4 h hi
  exact ⟨this.1, this.2.1, this.2.2.1⟩
theorem mkS_asc {l : List Sn} (h : ascS l) : mkS l = mrg l := by rw [mkS, ascS_pos h, ascS_srt h]
/-- What Covers returns. -/
def cvT (l : List Tst) : List Sn := mkS (cvS l)
/-- When Join, when Diff are right. -/
def jnC (a b : List Tst) : Prop := (tRight a = true ∧ tRight b = true) ∧ ¬ (0 < a.length ∧ 0 < b.length ∧ (a.getD 0 tst0).v.kind ≠ (b.getD 0 tst0).v.kind)
instance (a b : List Tst) : Decidable (jnC a b) := inferInstanceAs (Decidable (_ ∧ _))
/-- The days on which two timelines differ: pieces in order. -/
def gdf (a b : List Tst) (d : Int) : Option Va := if dfB a b d then some An.va0 else none
theorem dfK_map (a b : List Tst) : ∀ k, dfK a b k = cvS (segN (gdf a b) (bds [a, b]) k)
  | 0 => rfl
  | k + 1 => by
    rw [dfK_next, segN_next, cvS, List.map_append, ← cvS, ← dfK_map a b k]
    congr 1
    rw [dfI, segI, gdf]
    by_cases h : dfB a b ((bds [a, b]).getD k 0) = true
    · rw [if_pos h, if_pos h]; rfl
    · rw [if_neg h, if_neg h]; rfl
theorem dfT_map (a b : List Tst) : dfT a b = cvS (segL (gdf a b) (bds [a, b])) := by rw [dfT, dfK_map, segL_N]
/-- The set of the days on which two timelines differ. -/
def dfS (a b : List Tst) : List Sn := mkS (dfT a b)
theorem bds_in {a b : List Tst} (ha : tRight a = true) (hb : tRight b = true) {x : Int} (hx : x ∈ bds [a, b]) : 0 ≤ x ∧ x ≤ 65536 := by
  obtain ⟨l, hl, s, hs, he⟩ := bds_mem.1 hx
  have : 0 ≤ s.lo ∧ s.lo < s.hi ∧ s.hi ≤ 65536 := by
    rcases List.mem_cons.1 hl with rfl | hl
    · obtain ⟨i, hi, rfl⟩ := exists_getD hs
      have := xi4 ha hi; omega
    · rw [List.mem_singleton.1 hl] at hs
      obtain ⟨i, hi, rfl⟩ := exists_getD hs
      have := xi4 hb hi; omega
  omega
theorem dfT_asc {a b : List Tst} (ha : tRight a = true) (hb : tRight b = true) : ascS (dfT a b) := by
  rw [dfT_map]
  have hp := segL_pw (g := gdf a b) (bds_pw (ls := [a, b]))
  refine ⟨fun s hs => ?_, hp.2.map spT fun s t hst => hst⟩
  obtain ⟨x, hx, rfl⟩ := List.mem_map.1 hs
  have h1 := segL_mem hx
  have b1 := bds_in ha hb h1.1
  have b2 := bds_in ha hb h1.2.1
  exact ⟨b1.1, hp.1 x hx, b2.2⟩
end An.S

/- Arrays of structs that are written out, and their elements; the empty slice that is written out, as one's own. For any program. -/
namespace An
open Go
theorem BuI.array {P : Program} {T E len n : Nat} {agg : Bool} {z : Value} (hu : P.underlying T = some (.array len E)) (te : TyI P E n agg) (hz : (P.info? T).bind (·.zero) = some z) : BuI P T (fun i => some (i * n, n)) z := by
  refine ⟨fun parts w cs hf => ?_⟩
  simp only [Instr.build, Sem.run_bind, run_zero hz, Result.andThen_ok, run_underlying hu, te.size_run w]
  rw [hf]
  simp
section
variable {P : Program} {c : Base} {d ty : Nat} {pos : String} {af : Array Edge} {gd : Option (Nat × Bool)}
end
end An

/- Layer 5: joins, parts, days. -/
namespace An.S
open Go Go.Proofs An
set_option maxHeartbeats 2000000
theorem ti93 : TyI Tryz.prog 93 1 false := ⟨by kernel_rfl, by kernel_rfl⟩
theorem fi104 : FnI Tryz.prog 104 := ⟨_, Tryz.func104, by kernel_rfl, rfl⟩
theorem fi105 : FnI Tryz.prog 105 := ⟨_, Tryz.func105, by kernel_rfl, rfl⟩
theorem fi109 : FnI Tryz.prog 109 := ⟨_, Tryz.func109, by kernel_rfl, rfl⟩
theorem fi110 : FnI Tryz.prog 110 := ⟨_, Tryz.func110, by kernel_rfl, rfl⟩
theorem fi154 : FnI Tryz.prog 154 := ⟨_, Tryz.func154, by kernel_rfl, rfl⟩
theorem zr88 : (Tryz.prog.info? 88).bind (·.zero) = some (.slice none 0 0) ∧ ∀ F w, (tE (.slice none 0 0)).p F w (.slice none 0 0) := ⟨by kernel_rfl, fun _ _ => rfl⟩
theorem zr93 : (Tryz.prog.info? 93).bind (·.zero) = some (.slice none 0 0) ∧ ∀ F w, (tE (.slice none 0 0)).p F w (.slice none 0 0) := ⟨by kernel_rfl, fun _ _ => rfl⟩
theorem not_none {o : Option Va} (h : (!o.isNone) = true) : ∃ v, o = some v := by
  cases o with
  | none => cases h
  | some v => exact ⟨v, rfl⟩
theorem is_none {o : Option Va} (h : (!o.isNone) = false) : o = none := by
  cases o with
  | none => rfl
  | some v => cases h
theorem jnG_or {a b : List Tst} {d : Int} (h : (valT b d).isNone = false) : jnG a b d = valT b d := by
  rw [jnG]
  cases hv : valT b d with
  | none => rw [hv] at h; cases h
  | some v => rfl
theorem jnG_len {a b : List Tst} {d : Int} {v : Va} (ha : tRight a = true) (hb : tRight b = true) (h : jnG a b d = some v) : v.f.n.l.length ≤ 256 ∧ v.f.d.l.length ≤ 256 := by
  rw [jnG] at h
  rcases Option.or_eq_some_iff.1 h with h4 | ⟨_, h4⟩
  · obtain ⟨t, ht, _, e⟩ := valT_some h4
    rw [← e]; exact va_len (xi9 hb t ht)
  · obtain ⟨t, ht, _, e⟩ := valT_some h4
    rw [← e]; exact va_len (xi9 ha t ht)
theorem c_TJoin (a b : List Tst) (hla : a.length ≤ 200000) (hlb : b.length ≤ 200000) (hDa : ∀ s ∈ a, s.v.f.dig) (hDb : ∀ s ∈ b, s.v.f.dig) :
  Ct Tryz.prog 58 [tL 8 true tTs a, tL 8 true tTs b] (tT [tL 8 true tTs (if jnC a b then jnT a b else []), tI (if jnC a b then 0 else 2)]) := by
 refine Ct.intro Tryz.func58 rfl Tryz.ntmps58 rfl ?_
 intro w F
 refine x6 ?_
 refine x8 ?_
 refine R1 x5 rfl (R1 x5 rfl (x7 (by kernel_rfl) (x3 ?_)))
 refine xh2 (fun (_j : Unit) => jnC a b) (fun (_j : Unit) => upd (upd (fun _ => none) 0 (some (.val (tL 8 true tTs a)))) 1 (some (.val (tL 8 true tTs b)))) (fun (_j : Unit) => fun _ => none) (nm []) ?_ ?_
 ·
  refine x6 ?_
  refine xe1 mixed ?_
  refine R1 x4 rfl (R1 (xa0 (c_TRight a hDa) fi103 rfl) rfl (R1 xe7 rfl (R1 x4 rfl ?_)))
  refine RGcase (t := 13) rfl (fun h162 => ?_) (fun h162 => ?_)
  ·
   refine RGoff h162 rfl rfl (RGoff h162 rfl rfl (RGoff h162 rfl rfl (R2 (xa8 h162) rfl rfl (R1 x4 rfl (RGoff1 rfl rfl (RGoff1 rfl rfl (RGoff1 rfl rfl ?_)))))))
   refine RGoff1 rfl rfl (RGoffU rfl rfl (RGoffU rfl rfl (RGoffU rfl rfl (RGoff1 rfl rfl (RGoff1 rfl rfl (RGoffU rfl rfl (RGoffU rfl rfl ?_)))))))
   refine RGoffU rfl rfl (RGoffU rfl rfl (RGoffU rfl rfl (RGoffU rfl rfl (RGoffU rfl rfl (RGoffU rfl rfl (RGoffU rfl rfl (RGoffU rfl rfl ?_)))))))
   refine RGoffU rfl rfl (RGoff1 rfl rfl (R2 (xa8 rfl) rfl rfl (xd9 (by kernel_rfl) (x3 (C_bT rfl rfl (x6 ?_))))))
   refine x8 ?_
   refine R1 x5 rfl (R1 x5 rfl (x7 (by kernel_rfl) (x3 (xa2 (xa6 ?_)))))
   exact xf2 Plain.mk' rfl rfl rfl (leNil (by rw [if_neg (fun h => by rw [h.1.1] at h162; cases h162)])) (Le.int (by rw [if_neg (fun h => by rw [h.1.1] at h162; cases h162)]))
  ·
   refine RGon h162 rfl x4 rfl ⟨rfl, trivial⟩ trivial trivial (RGon h162 rfl (xa0 (c_TRight b hDb) fi103 rfl) rfl ⟨rfl, trivial⟩ trivial trivial (RGon h162 rfl xe7 rfl ⟨rfl, trivial⟩ trivial trivial (R2 (xa7 h162) rfl rfl (R1 x4 rfl ?_))))
   refine RGcase (t := 18) rfl (fun h162_2 => ?_) (fun h162_2 => ?_)
   ·
    refine RGoff h162_2 rfl rfl (RGoff h162_2 rfl rfl (RGoff h162_2 rfl rfl (RGoff h162_2 rfl rfl (RGoffU rfl rfl (RGoffU rfl rfl (RGoffU rfl rfl (RGoff h162_2 rfl rfl ?_)))))))
    refine RGoff h162_2 rfl rfl (RGoffU rfl rfl (RGoffU rfl rfl (RGoffU rfl rfl (RGoffU rfl rfl (RGoffU rfl rfl (RGoffU rfl rfl (RGoffU rfl rfl ?_)))))))
    refine RGoffU rfl rfl (RGoffU rfl rfl (RGoffU rfl rfl (RGoffU rfl rfl (RGoff h162_2 rfl rfl (R2 (xa8 h162_2) rfl rfl (xd9 (by kernel_rfl) (x3 ?_)))))))
    refine C_bT rfl rfl (x6 ?_)
    refine x8 ?_
    refine R1 x5 rfl (R1 x5 rfl (x7 (by kernel_rfl) (x3 (xa2 (xa6 ?_)))))
    exact xf2 Plain.mk' rfl rfl rfl (leNil (by rw [if_neg (fun h => by rw [h.1.2] at h162_2; cases h162_2)])) (Le.int (by rw [if_neg (fun h => by rw [h.1.2] at h162_2; cases h162_2)]))
   ·
    refine RGon h162_2 rfl x4 rfl ⟨rfl, trivial⟩ trivial trivial (RGon h162_2 rfl (xb9 Tryz.underlying88) rfl ⟨rfl, trivial⟩ trivial trivial (RGon h162_2 rfl d_gtr rfl ⟨rfl, rfl, trivial⟩ trivial trivial (RGon h162_2 rfl x4 rfl ⟨rfl, trivial⟩ trivial trivial ?_)))
    refine RGcaseD (t := 22) rfl (fun h162_3 => ?_) (fun h162_3 => ?_)
    ·
     refine RGon (decide_eq_true h162_3) rfl x4 rfl ⟨rfl, trivial⟩ trivial trivial (RGon (decide_eq_true h162_3) rfl (xb9 Tryz.underlying88) rfl ⟨rfl, trivial⟩ trivial trivial (RGon (decide_eq_true h162_3) rfl d_gtr rfl ⟨rfl, rfl, trivial⟩ trivial trivial (RGon h162_2 rfl (xa8 (decide_eq_true h162_3)) rfl ⟨rfl, rfl, trivial⟩ trivial trivial (RGon h162_2 rfl x4 rfl ⟨rfl, trivial⟩ trivial trivial ?_))))
     refine RGcaseD (t := 27) rfl (fun h162_4 => ?_) (fun h162_4 => ?_)
     ·
      refine RGon (decide_eq_true h162_4) rfl x4 rfl ⟨rfl, trivial⟩ trivial trivial (RGon (decide_eq_true h162_4) rfl (xb8 sl88 (0) (by omega) (gD (l := a) (n := 0) (d := tst0) (by omega))) rfl ⟨rfl, rfl, trivial⟩ trivial trivial (RGon (decide_eq_true h162_4) rfl (xh0 fo103_2 (At.f 2 rfl rfl) rfl) rfl ⟨rfl, trivial⟩ trivial trivial (RGon (decide_eq_true h162_4) rfl (xh0 fo53_0 (At.f 0 rfl rfl) rfl) rfl ⟨rfl, trivial⟩ trivial trivial (RGon (decide_eq_true h162_4) rfl (xc1 ti5) rfl ⟨rfl, trivial⟩ trivial trivial (RGon (decide_eq_true h162_4) rfl x4 rfl ⟨rfl, trivial⟩ trivial trivial (RGon (decide_eq_true h162_4) rfl (xb8 sl88 (0) (by omega) (gD (l := b) (n := 0) (d := tst0) (by omega))) rfl ⟨rfl, rfl, trivial⟩ trivial trivial (RGon (decide_eq_true h162_4) rfl (xh0 fo103_2 (At.f 2 rfl rfl) rfl) rfl ⟨rfl, trivial⟩ trivial trivial ?_)))))))
      refine RGon (decide_eq_true h162_4) rfl (xh0 fo53_0 (At.f 0 rfl rfl) rfl) rfl ⟨rfl, trivial⟩ trivial trivial (RGon (decide_eq_true h162_4) rfl (xc1 ti5) rfl ⟨rfl, trivial⟩ trivial trivial (RGon (decide_eq_true h162_4) rfl d_neq rfl ⟨rfl, rfl, trivial⟩ trivial trivial (RGon h162_2 rfl (xa8 (decide_eq_true h162_4)) rfl ⟨rfl, rfl, trivial⟩ trivial trivial (R2 (xa7 h162_2) rfl rfl (xd9 (by kernel_rfl) (x3 ?_))))))
      refine xc2 rfl (fun h162_5 => ?_) (fun h162_5 => ?_)
      ·
       refine x6 ?_
       refine x8 ?_
       refine R1 x5 rfl (R1 x5 rfl (x7 (by kernel_rfl) (x3 (xa2 (xa6 ?_)))))
       exact xf2 Plain.mk' rfl rfl rfl (leNil (by rw [if_neg (fun h => h.2 ⟨by omega, by omega, by omega⟩)])) (Le.int (by rw [if_neg (fun h => h.2 ⟨by omega, by omega, by omega⟩)]))
      ·
       refine xa4 ?_
       exact xc7 (()) ⟨⟨by simpa using h162, by simpa using h162_2⟩, by omega⟩ (Sub.cons rfl (Sub.cons rfl Sub.nil)) SubK.nil (SupG.val (SupG.val SupG.nil)) SupH.nil (lkOk rfl)
     ·
      refine RGoff (decide_eq_false h162_4) rfl rfl (RGoff (decide_eq_false h162_4) rfl rfl (RGoff (decide_eq_false h162_4) rfl rfl (RGoff (decide_eq_false h162_4) rfl rfl (RGoff (decide_eq_false h162_4) rfl rfl (RGoff (decide_eq_false h162_4) rfl rfl (RGoff (decide_eq_false h162_4) rfl rfl (RGoff (decide_eq_false h162_4) rfl rfl ?_)))))))
      refine RGoff (decide_eq_false h162_4) rfl rfl (RGoff (decide_eq_false h162_4) rfl rfl (RGoff (decide_eq_false h162_4) rfl rfl (RGon h162_2 rfl (xa7 (decide_eq_false h162_4)) rfl ⟨rfl, rfl, trivial⟩ trivial trivial (R2 (xa7 h162_2) rfl rfl (xd9 (by kernel_rfl) (x3 (C_bF rfl rfl ?_)))))))
      refine xa4 ?_
      exact xc7 (()) ⟨⟨by simpa using h162, by simpa using h162_2⟩, by omega⟩ (Sub.cons rfl (Sub.cons rfl Sub.nil)) SubK.nil (SupG.val (SupG.val SupG.nil)) SupH.nil (lkOk rfl)
    ·
     refine RGoff (decide_eq_false h162_3) rfl rfl (RGoff (decide_eq_false h162_3) rfl rfl (RGoff (decide_eq_false h162_3) rfl rfl (RGon h162_2 rfl (xa7 (decide_eq_false h162_3)) rfl ⟨rfl, rfl, trivial⟩ trivial trivial (RGon h162_2 rfl x4 rfl ⟨rfl, trivial⟩ trivial trivial (RGoff0 rfl rfl (RGoff0 rfl rfl (RGoff0 rfl rfl ?_)))))))
     refine RGoff0 rfl rfl (RGoff0 rfl rfl (RGoff0 rfl rfl (RGoff0 rfl rfl (RGoff0 rfl rfl (RGoff0 rfl rfl (RGoff0 rfl rfl (RGoff0 rfl rfl ?_)))))))
     refine RGon h162_2 rfl (xa7 rfl) rfl ⟨rfl, rfl, trivial⟩ trivial trivial (R2 (xa7 h162_2) rfl rfl (xd9 (by kernel_rfl) (x3 (C_bF rfl rfl (xa4 ?_)))))
     exact xc7 (()) ⟨⟨by simpa using h162, by simpa using h162_2⟩, by omega⟩ (Sub.cons rfl (Sub.cons rfl Sub.nil)) SubK.nil (SupG.val (SupG.val SupG.nil)) SupH.nil (lkOk rfl)
 ·
  intro _j hok
  refine x6 ?_
  refine x8 ?_
  refine RE (xc9 (k := 6) (n := 1) (agg := false) zr88.1 zr88.2 rfl) trivial trivial ⟨rfl, trivial⟩ (x7 (by kernel_rfl) (x3 (x6 (x6 (C_nilC (q := 6) 60 103 8 true 0 rfl rfl rfl rfl (fun h => by cases h) rfl rfl ?_)))))
  refine x8 ?_
  refine R1 x4 rfl (R1 x4 rfl (RE (xh1 (fun j => cond (Nat.beq j 2) 43 (1043)) (c_together a b) fi109 rfl (krN (ρ := fun j => cond (Nat.beq j 2) 43 (1043))) (krC (ρ := fun j => cond (Nat.beq j 2) 43 (1043)) (k := 2) rfl (krC (ρ := fun j => cond (Nat.beq j 2) 43 (1043)) (k := 3) rfl (krN (ρ := fun j => cond (Nat.beq j 2) 43 (1043))))) ⟨⟨rfl, (SupX.lit rfl)⟩, ⟨rfl, (SupX.lit rfl)⟩, trivial⟩ rfl) ⟨rfl, rfl, trivial⟩ trivial ⟨rfl, rfl, trivial⟩ (x7 (by kernel_rfl) (x3 (xa9 ?_)))))
  refine C_range (caps := [.ptr 1 0, .ptr 2 0]) (κ := Empty) (fun j => cond (Nat.beq j 2) 1043 (cond (Nat.beq j 1) 43 (j))) rfl (fun _ h => h) trivial (i_together a b (xi7 hok.1.1) (xi7 hok.1.2) hla hlb) fi154 rfl ⟨rfl, rfl, trivial⟩ rfl rfl (fun _ _ => rfl) (upd (fun _ => none) 6 (some (.own (.ptr 6 0)))) [6, 60] [6] (Sub.cons rfl Sub.nil) (SupG.own rfl SupG.nil) rfl (lkOk rfl) (fun (k : Nat) (xs : List Tst) => xs = jnK a b k ∧ xs.length ≤ k) (fun (k : Nat) (xs : List Tst) => upd (upd (fun _ => none) 6 (some (⟨88, 1, false, [.own (.sl 60 8 0 xs.length)]⟩))) 60 (some (⟨103, 8, true, rV tTs xs⟩))) (fun k x => (SupH.cons rfl (supJ xe3) (SupH.cons rfl (supJL rfl) SupH.nil))) (fun k x y hy => by simp only [List.mem_cons, List.not_mem_nil, or_false] at hy; rcases hy with rfl | rfl <;> rfl) (fun _ _ => False) (fun i => i.elim) (fun _ _ h => h.elim) ([]) ⟨rfl, Nat.le_refl _⟩ ((SubK.consI rfl ImpK.refl) ((SubK.consI rfl ImpK.refl) SubK.nil)) ?_ ?_ ?_
  ·
   intro D lp o1 o2 O W lη lb V0 k xs hk hI
   obtain ⟨hx, hxl⟩ := hI
   have hdl := bds_len (ls := [a, b])
   have htl : tlen [a, b] ≤ 400000 := by simp [tlen]; omega
   apply rnd_mk
   ·
    refine x6 ?_
    refine x8 ?_
    refine RE (xc9 (k := 7) (n := 2) (agg := true) zr99.1 zr99.2 rfl) trivial trivial ⟨rfl, trivial⟩ (RE (xb0 (es := 2) (agg := true) (0) ti99 rfl rfl rfl) ⟨rfl, rfl, trivial⟩ ⟨rfl, trivial⟩ trivial (x7 (by kernel_rfl) (x3 ?_)))
    refine x8 ?_
    refine RE (xc9 (k := 8) (n := 2) (agg := true) zr154.1 zr154.2 rfl) trivial trivial ⟨rfl, trivial⟩ (RE (xb0 (es := 2) (agg := true) (0) ti154 rfl rfl rfl) ⟨rfl, rfl, trivial⟩ ⟨rfl, trivial⟩ trivial (x7 (by kernel_rfl) ?_))
    exact K_thenF fun _ _ h => h
   ·
    refine xa9 (x6 ?_)
    refine x8 ?_
    refine R1 (x9 fo154_1 rfl) rfl (xa5 (0) ti152 rfl rfl rfl (At.g 1 rfl rfl) rfl (R1 x5 rfl (x7 (by kernel_rfl) (x3 ?_))))
    refine xh2 (fun (_j : Unit) => True) (fun (_j : Unit) => upd (upd (upd (fun _ => none) 6 (some (.own (.ptr 6 0)))) 7 (some (.own (.ptr 7 0)))) 9 (some (.val (tO 6 true tVa (jnG a b ((bds [a, b]).getD k 0)))))) (fun (_j : Unit) => upd (upd (upd (fun _ => none) 6 (some (⟨88, 1, false, [.own (.sl 60 8 0 xs.length)]⟩))) 7 (some (⟨99, 2, true, [.val (tSn ⟨((bds [a, b]).getD k 0), ((bds [a, b]).getD (k + 1) 0)⟩)]⟩))) 60 (some (⟨103, 8, true, rV tTs xs⟩))) (nm [6, 7, 60]) ?_ ?_
    ·
     refine x6 ?_
     refine x8 ?_
     refine R1 x4 rfl (R1 (d_eqlNil Tryz.underlying152) rfl (x7 (by kernel_rfl) (x3 ?_)))
     refine xg6 rfl (fun h168 => ?_) (fun h168 => ?_)
     ·
      refine x8 ?_
      refine R1 (x9 fo154_0 rfl) rfl (xa5 (0) ti152 rfl rfl rfl (At.g 0 rfl rfl) rfl (R1 x5 rfl (x7 (by kernel_rfl) ?_)))
      exact xc7 (()) trivial ((Sub.consI rfl (Imp.of (by rw [jnG, Option.isNone_iff_eq_none.1 h168, Option.none_or]))) (Sub.cons rfl (Sub.cons rfl Sub.nil))) ((SubK.consI rfl ImpK.refl) ((SubK.consI rfl ImpK.refl) ((SubK.consI rfl ImpK.refl) SubK.nil))) (SupG.val (SupG.own rfl (SupG.own rfl SupG.nil))) (SupH.cons rfl (supJ xe3) (SupH.cons rfl (supJL rfl) (SupH.cons rfl (supJL rfl) SupH.nil))) (lkOk rfl)
     ·
      refine xa4 ?_
      exact xc7 (()) trivial ((Sub.consI rfl (Imp.of (by rw [jnG_or h168]))) (Sub.cons rfl (Sub.cons rfl Sub.nil))) ((SubK.consI rfl ImpK.refl) ((SubK.consI rfl ImpK.refl) ((SubK.consI rfl ImpK.refl) SubK.nil))) (SupG.val (SupG.own rfl (SupG.own rfl SupG.nil))) (SupH.cons rfl (supJ xe3) (SupH.cons rfl (supJL rfl) (SupH.cons rfl (supJL rfl) SupH.nil))) (lkOk rfl)
    ·
     intro _j hj168
     refine x6 ?_
     refine x8 ?_
     refine R1 x4 rfl (R1 (d_neqNil Tryz.underlying152) rfl (x7 (by kernel_rfl) (x3 ?_)))
     refine xg6 rfl (fun h171 => ?_) (fun h171 => ?_)
     ·
      obtain ⟨v, hv⟩ := not_none h171
      refine xe1 mixed ?_
      refine RE (xb3 (ts := [.own (.sl 60 8 0 xs.length)]) (0) ti88 rfl rfl) ⟨rfl, trivial⟩ ⟨rfl, trivial⟩ trivial (R1 (x9 fo99_0 rfl) rfl (xa5 (0) ti3 rfl rfl rfl (At.g 0 rfl rfl) rfl (R1 (x9 fo99_1 rfl) rfl (xa5 (0) ti3 rfl rfl rfl (At.g 1 rfl rfl) rfl (R1 x4 rfl (R1 (d_checkO hv) rfl (R1 (xc1 ti53) rfl ?_)))))))
      refine R3 (xe0 (r := tS [⟨1, false, tI ((bds [a, b]).getD k 0)⟩, ⟨1, false, tI ((bds [a, b]).getD (k + 1) 0)⟩, ⟨6, true, tVa v⟩]) (ts := [(0, tI ((bds [a, b]).getD k 0)), (1, tI ((bds [a, b]).getD (k + 1) 0)), (2, tVa v)]) bu103 zr103.2 ⟨_, rfl⟩ rfl ⟨_, _, _, _, rfl, Up.f (fs := [⟨1, false, (tE (.int .i64 0))⟩, ⟨1, false, (tE (.int .i64 0))⟩, ⟨6, true, (tS [⟨1, false, (tE (.int .u8 0))⟩, ⟨4, true, (tS [⟨2, true, (tS [⟨1, false, (tE (.bool false))⟩, ⟨1, false, (tLm [])⟩])⟩, ⟨2, true, (tS [⟨1, false, (tE (.bool false))⟩, ⟨1, false, (tLm [])⟩])⟩])⟩, ⟨1, false, (tE (.int .i64 0))⟩])⟩]) (f := ⟨1, false, (tE (.int .i64 0))⟩) (fs' := [⟨1, false, tI ((bds [a, b]).getD k 0)⟩, ⟨1, false, (tE (.int .i64 0))⟩, ⟨6, true, (tS [⟨1, false, (tE (.int .u8 0))⟩, ⟨4, true, (tS [⟨2, true, (tS [⟨1, false, (tE (.bool false))⟩, ⟨1, false, (tLm [])⟩])⟩, ⟨2, true, (tS [⟨1, false, (tE (.bool false))⟩, ⟨1, false, (tLm [])⟩])⟩])⟩, ⟨1, false, (tE (.int .i64 0))⟩])⟩]) 0 rfl rfl rfl, inferInstance, ⟨_, _, _, _, rfl, Up.f (fs := [⟨1, false, tI ((bds [a, b]).getD k 0)⟩, ⟨1, false, (tE (.int .i64 0))⟩, ⟨6, true, (tS [⟨1, false, (tE (.int .u8 0))⟩, ⟨4, true, (tS [⟨2, true, (tS [⟨1, false, (tE (.bool false))⟩, ⟨1, false, (tLm [])⟩])⟩, ⟨2, true, (tS [⟨1, false, (tE (.bool false))⟩, ⟨1, false, (tLm [])⟩])⟩])⟩, ⟨1, false, (tE (.int .i64 0))⟩])⟩]) (f := ⟨1, false, (tE (.int .i64 0))⟩) (fs' := [⟨1, false, tI ((bds [a, b]).getD k 0)⟩, ⟨1, false, tI ((bds [a, b]).getD (k + 1) 0)⟩, ⟨6, true, (tS [⟨1, false, (tE (.int .u8 0))⟩, ⟨4, true, (tS [⟨2, true, (tS [⟨1, false, (tE (.bool false))⟩, ⟨1, false, (tLm [])⟩])⟩, ⟨2, true, (tS [⟨1, false, (tE (.bool false))⟩, ⟨1, false, (tLm [])⟩])⟩])⟩, ⟨1, false, (tE (.int .i64 0))⟩])⟩]) 1 rfl rfl rfl, inferInstance, ⟨_, _, _, _, rfl, Up.f (fs := [⟨1, false, tI ((bds [a, b]).getD k 0)⟩, ⟨1, false, tI ((bds [a, b]).getD (k + 1) 0)⟩, ⟨6, true, (tS [⟨1, false, (tE (.int .u8 0))⟩, ⟨4, true, (tS [⟨2, true, (tS [⟨1, false, (tE (.bool false))⟩, ⟨1, false, (tLm [])⟩])⟩, ⟨2, true, (tS [⟨1, false, (tE (.bool false))⟩, ⟨1, false, (tLm [])⟩])⟩])⟩, ⟨1, false, (tE (.int .i64 0))⟩])⟩]) (f := ⟨6, true, (tS [⟨1, false, (tE (.int .u8 0))⟩, ⟨4, true, (tS [⟨2, true, (tS [⟨1, false, (tE (.bool false))⟩, ⟨1, false, (tLm [])⟩])⟩, ⟨2, true, (tS [⟨1, false, (tE (.bool false))⟩, ⟨1, false, (tLm [])⟩])⟩])⟩, ⟨1, false, (tE (.int .i64 0))⟩])⟩) (fs' := [⟨1, false, tI ((bds [a, b]).getD k 0)⟩, ⟨1, false, tI ((bds [a, b]).getD (k + 1) 0)⟩, ⟨6, true, tVa v⟩]) 2 rfl rfl rfl, inferInstance, Le.refl⟩⟩⟩) rfl rfl rfl (R1 (xf4 (n := 1) (f := tTs) [(⟨((bds [a, b]).getD k 0), ((bds [a, b]).getD (k + 1) 0), v⟩ : Tst)] Tryz.underlying88 el103 zf103 rfl (fun _ => inferInstance) rfl rfl rfl) rfl ?_)
      have hcl : ∀ s ∈ [(⟨((bds [a, b]).getD k 0), ((bds [a, b]).getD (k + 1) 0), v⟩ : Tst)], s.v.f.n.l.length ≤ 1000000 ∧ s.v.f.d.l.length ≤ 1000000 := by
       intro s hs
       rw [List.mem_singleton.1 hs]
       have h := jnG_len hok.1.1 hok.1.2 hv
       exact ⟨by show v.f.n.l.length ≤ _; omega, by show v.f.d.l.length ≤ _; omega⟩
      refine RE (xh1 (fun j => cond (Nat.beq j 1) 60 (64)) (c_paste xs [(⟨((bds [a, b]).getD k 0), ((bds [a, b]).getD (k + 1) 0), v⟩ : Tst)] (by omega) (by simp) hcl) fi108 rfl (krC (ρ := fun j => cond (Nat.beq j 1) 60 (64)) (k := 1) xf8 (krN (ρ := fun j => cond (Nat.beq j 1) 60 (64)))) (krC (ρ := fun j => cond (Nat.beq j 1) 60 (64)) (k := 90) xf8 (krN (ρ := fun j => cond (Nat.beq j 1) 60 (64)))) ⟨⟨rfl, xe3⟩, trivial⟩ rfl) ⟨rfl, rfl, trivial⟩ ⟨rfl, trivial⟩ ⟨rfl, trivial⟩ (RE (xb0 (es := 1) (agg := false) (e := .own (.sl 64 8 0 (pst xs [(⟨((bds [a, b]).getD k 0), ((bds [a, b]).getD (k + 1) 0), v⟩ : Tst)]).length)) (0) ti88 rfl rfl rfl) ⟨rfl, rfl, trivial⟩ ⟨rfl, trivial⟩ trivial (xd9 (by kernel_rfl) (xc6 ?_)))
      exact K_ren (g' := fun _ => none) [6, 60] (fun j => cond (Nat.beq j 60) 64 (j)) SubR.nil ((SubKR.consI rfl (ImpK.of xf8.symm)) ((SubKR.consI rfl (ImpK.of rfl)) SubKR.nil)) SupG.nil (SupH.cons rfl (supJ xe3) (SupH.cons rfl (supJL rfl) SupH.nil)) (lkOk rfl) rfl rfl (fun _ h => by cases h) (K_rnd ((pst xs [(⟨((bds [a, b]).getD k 0), ((bds [a, b]).getD (k + 1) 0), v⟩ : Tst)])) ⟨by rw [jnK_some hv, ← hx], by rw [hx, ← jnK_some hv]; exact jnK_len⟩ SubK.refl (SupH.cons rfl (supJ xe3) (SupH.cons rfl (supJL rfl) SupH.nil)) (lkOk rfl))
     ·
      have hv0 := is_none h171
      refine xa4 (xc6 ?_)
      exact K_rnd (xs) ⟨by rw [jnK_none hv0]; exact hx, by omega⟩ ((SubK.consI rfl ImpK.refl) ((SubK.consI rfl ImpK.refl) SubK.nil)) (SupH.cons rfl (supJ xe3) (SupH.cons rfl (supJL rfl) SupH.nil)) (lkOk rfl)
  ·
   intro D hD xs hI
   obtain ⟨hx, hxl⟩ := hI
   rw [jnK_all] at hx
   refine xc6 (x3 (x6 ?_))
   refine x8 ?_
   refine RE (Does.giveL (k := 60) (es := 8) (off := 0) (len := xs.length) (xs := xs) (f := tTs) (ts := rV tTs xs) (xb3 (ts := [.own (.sl 60 8 0 xs.length)]) (0) ti88 rfl rfl) (fun _ h => h) (rV_all rfl) rfl) ⟨rfl, trivial⟩ ⟨rfl, rfl, trivial⟩ trivial (R1 x5 rfl (R1 x5 rfl (x7 (by kernel_rfl) (x3 (xa2 ?_)))))
   exact xf2 (Plain.loop Plain.mk' hD) rfl rfl rfl (Le.of (by rw [if_pos hok, hx])) (Le.int (by rw [if_pos hok]))
  ·
   intro D hD e i; exact i.elim
theorem wo_next {x y : Int} {l : List Tst} {i : Nat} (hi : i < l.length) : (l.take (i + 1)).flatMap (woP x y) = (l.take i).flatMap (woP x y) ++ woP x y (l.getD i tst0) := by
  rw [List.take_succ_eq_append_getElem hi, List.flatMap_append, List.getD_eq_getElem?_getD, List.getElem?_eq_getElem hi]; simp
theorem wo_len {x y : Int} : ∀ {l : List Tst}, (l.flatMap (woP x y)).length = 2 * l.length
  | [] => rfl
  | s :: r => by rw [List.flatMap_cons, List.length_append, wo_len (l := r)]; simp [woP]; omega
theorem c_Without (l : List Tst) (x y : Int) (hl : l.length ≤ 200000) (hD : ∀ s ∈ l, s.v.f.dig) :
  Ct Tryz.prog 57 [tL 8 true tTs l, tI x, tI y] (tT [tL 8 true tTs (if tRight l = true ∧ Sn.ok ⟨x, y⟩ = true then woT l x y else []), tI (if tRight l = true ∧ Sn.ok ⟨x, y⟩ = true then 0 else 2)]) := by
 refine Ct.intro Tryz.func57 rfl Tryz.ntmps57 rfl ?_
 intro w F
 refine x6 ?_
 refine x8 ?_
 refine R1 x5 rfl (R1 x5 rfl (x7 (by kernel_rfl) (x3 (x6 (x6 ?_)))))
 refine x8 ?_
 refine R1 x4 rfl (R1 (xa0 (c_TRight l hD) fi103 rfl) rfl (R1 xe7 rfl (R1 x4 rfl ?_)))
 refine RGcase (t := 16) rfl (fun h107 => ?_) (fun h107 => ?_)
 ·
  refine RGoff h107 rfl rfl (RGoff h107 rfl rfl (RGoff h107 rfl rfl (RGoff h107 rfl rfl (R2 (xa8 h107) rfl rfl (x7 (by kernel_rfl) (x3 (C_bT rfl rfl ?_)))))))
  refine x6 ?_
  refine x8 ?_
  refine R1 x5 rfl (R1 x5 rfl (x7 (by kernel_rfl) (x3 (xa2 (xa6 ?_)))))
  exact xf2 Plain.mk' rfl rfl rfl (leNil (by rw [if_neg fun h => by rw [h.1] at h107; cases h107])) (Le.int (by rw [if_neg fun h => by rw [h.1] at h107; cases h107]))
 ·
  refine RGon h107 rfl x4 rfl ⟨rfl, trivial⟩ trivial trivial (RGon h107 rfl x4 rfl ⟨rfl, trivial⟩ trivial trivial (RGon h107 rfl (xa0 (c_isPart _ _) fi107 rfl) rfl ⟨rfl, rfl, trivial⟩ trivial trivial (RGon h107 rfl xe7 rfl ⟨rfl, trivial⟩ trivial trivial (R2 (xa7 h107) rfl rfl (x7 (by kernel_rfl) (x3 ?_))))))
  refine xg6 rfl (fun h107_2 => ?_) (fun h107_2 => ?_)
  ·
   refine x6 ?_
   refine x8 ?_
   refine R1 x5 rfl (R1 x5 rfl (x7 (by kernel_rfl) (x3 (xa2 (xa6 ?_)))))
   exact xf2 Plain.mk' rfl rfl rfl (leNil (by rw [if_neg fun h => by rw [h.2] at h107_2; cases h107_2])) (Le.int (by rw [if_neg fun h => by rw [h.2] at h107_2; cases h107_2]))
  ·
   refine xa4 (x3 (x6 ?_))
   refine x8 ?_
   refine RE (d_assignN (k := 8) 103 8 true rfl (fun h => by cases h)) trivial trivial ⟨rfl, trivial⟩ (x7 (by kernel_rfl) (x3 (x6 (x6 ?_))))
   refine x8 ?_
   refine R1 x4 rfl (R1 (xb9 Tryz.underlying88) rfl (R1 x4 rfl (x7 (by kernel_rfl) (x3 (xa9 ?_)))))
   have hok : tRight l = true ∧ Sn.ok ⟨x, y⟩ = true := ⟨by simpa using h107, by simpa using h107_2⟩
   have hlen := fun s hs => va_len (xi9 hok.1 s hs)
   refine xd6 (fun (fm : (Nat) × (List Tst)) => (fun (i : Nat) (zs : List Tst) => i ≤ l.length ∧ zs = pst [] ((l.take i).flatMap (woP x y))) fm.1 fm.2) (fun (fm : (Nat) × (List Tst)) => (fun (i : Nat) (zs : List Tst) => upd (upd (upd (upd (upd (upd (fun _ => none) 1 (some (.val (tI x)))) 2 (some (.val (tI y)))) 8 (some (.own (.sl 8 8 0 zs.length)))) 22 (some (.val (tL 8 true tTs l)))) 23 (some (.val (tI l.length)))) 24 (some (.val (tI i)))) fm.1 fm.2) (fun (fm : (Nat) × (List Tst)) => (fun (i : Nat) (zs : List Tst) => upd (fun _ => none) 8 (some (⟨103, 8, true, rV tTs zs⟩))) fm.1 fm.2) (nm [8]) (fun (fm : (Nat) × (List Tst)) => (fun (i : Nat) (zs : List Tst) => l.length - i) fm.1 fm.2) ((0, [])) (by dsimp only; exact ⟨Nat.zero_le _, rfl⟩) (Sub.int rfl (by first | omega | rfl | (dsimp only; omega)) (Sub.int rfl (by first | omega | rfl | (dsimp only; omega)) (Sub.cons rfl (Sub.cons rfl (Sub.int rfl (by first | omega | rfl | (dsimp only; omega)) (Sub.int rfl (by first | omega | rfl | (dsimp only; omega)) Sub.nil)))))) ((SubK.consI rfl ImpK.refl) SubK.nil) (SupG.val (SupG.val (SupG.val (SupG.own rfl (SupG.val (SupG.val SupG.nil)))))) (SupH.cons rfl (supJ xe3) SupH.nil) (lkOk rfl) ?_
   intro fm hI
   obtain ⟨i, zs⟩ := fm
   replace hI : i ≤ l.length ∧ zs = pst [] ((l.take i).flatMap (woP x y)) := hI
   show wc _ _ _ _ (upd (upd (upd (upd (upd (upd (fun _ => none) 1 (some (.val (tI x)))) 2 (some (.val (tI y)))) 8 (some (.own (.sl 8 8 0 zs.length)))) 22 (some (.val (tL 8 true tTs l)))) 23 (some (.val (tI l.length)))) 24 (some (.val (tI i)))) (upd (fun _ => none) 8 (some (⟨103, 8, true, rV tTs zs⟩))) _
   obtain ⟨hi, hz⟩ := hI
   have hzl : zs.length ≤ 2 * i := by
    have h := pst_len ((l.take i).flatMap (woP x y)) []
    rw [← hz, wo_len, List.length_take] at h; simp at h; omega
   refine x6 ?_
   refine x8 ?_
   refine R2 xd5 rfl rfl (x7 (by kernel_rfl) (x3 (x6 ?_)))
   refine xc2 rfl (fun h111 => ?_) (fun h111 => ?_)
   ·
    refine xa4 (x3 (x6 (xa9 (x6 ?_))))
    refine x8 ?_
    refine R2 (xb8 sl88 (i) (by omega) (gD (l := l) (n := i) (d := tst0) (by omega))) rfl rfl (R1 (xc1 ti103) rfl (RE (xc9 (k := 10) (n := 8) (agg := true) zr103.1 zr103.2 rfl) trivial trivial ⟨rfl, trivial⟩ (RE (xb0 (es := 8) (agg := true) (0) ti103 rfl rfl rfl) ⟨rfl, rfl, trivial⟩ ⟨rfl, trivial⟩ trivial (x7 (by kernel_rfl) (x3 (x6 ?_))))))
    refine x8 ?_
    refine R1 (x9 fo103_0 rfl) rfl (xa5 (0) ti3 rfl rfl rfl (At.g 0 rfl rfl) rfl (R1 (x9 fo103_1 rfl) rfl (xa5 (0) ti3 rfl rfl rfl (At.g 1 rfl rfl) rfl (R1 x4 rfl (R2 d_min2 rfl rfl (R1 (x9 fo103_2 rfl) rfl (xa5 (0) ti53 rfl rfl rfl (At.g 2 rfl rfl) rfl ?_)))))))
    refine R3 (xe0 (r := tS [⟨1, false, tI (l.getD i tst0).lo⟩, ⟨1, false, tI (min (l.getD i tst0).hi x)⟩, ⟨6, true, tVa (l.getD i tst0).v⟩]) (ts := [(0, tI (l.getD i tst0).lo), (1, tI (min (l.getD i tst0).hi x)), (2, tVa (l.getD i tst0).v)]) bu103 zr103.2 ⟨_, rfl⟩ rfl ⟨_, _, _, _, rfl, Up.f (fs := [⟨1, false, (tE (.int .i64 0))⟩, ⟨1, false, (tE (.int .i64 0))⟩, ⟨6, true, (tS [⟨1, false, (tE (.int .u8 0))⟩, ⟨4, true, (tS [⟨2, true, (tS [⟨1, false, (tE (.bool false))⟩, ⟨1, false, (tLm [])⟩])⟩, ⟨2, true, (tS [⟨1, false, (tE (.bool false))⟩, ⟨1, false, (tLm [])⟩])⟩])⟩, ⟨1, false, (tE (.int .i64 0))⟩])⟩]) (f := ⟨1, false, (tE (.int .i64 0))⟩) (fs' := [⟨1, false, tI (l.getD i tst0).lo⟩, ⟨1, false, (tE (.int .i64 0))⟩, ⟨6, true, (tS [⟨1, false, (tE (.int .u8 0))⟩, ⟨4, true, (tS [⟨2, true, (tS [⟨1, false, (tE (.bool false))⟩, ⟨1, false, (tLm [])⟩])⟩, ⟨2, true, (tS [⟨1, false, (tE (.bool false))⟩, ⟨1, false, (tLm [])⟩])⟩])⟩, ⟨1, false, (tE (.int .i64 0))⟩])⟩]) 0 rfl rfl rfl, inferInstance, ⟨_, _, _, _, rfl, Up.f (fs := [⟨1, false, tI (l.getD i tst0).lo⟩, ⟨1, false, (tE (.int .i64 0))⟩, ⟨6, true, (tS [⟨1, false, (tE (.int .u8 0))⟩, ⟨4, true, (tS [⟨2, true, (tS [⟨1, false, (tE (.bool false))⟩, ⟨1, false, (tLm [])⟩])⟩, ⟨2, true, (tS [⟨1, false, (tE (.bool false))⟩, ⟨1, false, (tLm [])⟩])⟩])⟩, ⟨1, false, (tE (.int .i64 0))⟩])⟩]) (f := ⟨1, false, (tE (.int .i64 0))⟩) (fs' := [⟨1, false, tI (l.getD i tst0).lo⟩, ⟨1, false, tI (min (l.getD i tst0).hi x)⟩, ⟨6, true, (tS [⟨1, false, (tE (.int .u8 0))⟩, ⟨4, true, (tS [⟨2, true, (tS [⟨1, false, (tE (.bool false))⟩, ⟨1, false, (tLm [])⟩])⟩, ⟨2, true, (tS [⟨1, false, (tE (.bool false))⟩, ⟨1, false, (tLm [])⟩])⟩])⟩, ⟨1, false, (tE (.int .i64 0))⟩])⟩]) 1 rfl rfl rfl, inferInstance, ⟨_, _, _, _, rfl, Up.f (fs := [⟨1, false, tI (l.getD i tst0).lo⟩, ⟨1, false, tI (min (l.getD i tst0).hi x)⟩, ⟨6, true, (tS [⟨1, false, (tE (.int .u8 0))⟩, ⟨4, true, (tS [⟨2, true, (tS [⟨1, false, (tE (.bool false))⟩, ⟨1, false, (tLm [])⟩])⟩, ⟨2, true, (tS [⟨1, false, (tE (.bool false))⟩, ⟨1, false, (tLm [])⟩])⟩])⟩, ⟨1, false, (tE (.int .i64 0))⟩])⟩]) (f := ⟨6, true, (tS [⟨1, false, (tE (.int .u8 0))⟩, ⟨4, true, (tS [⟨2, true, (tS [⟨1, false, (tE (.bool false))⟩, ⟨1, false, (tLm [])⟩])⟩, ⟨2, true, (tS [⟨1, false, (tE (.bool false))⟩, ⟨1, false, (tLm [])⟩])⟩])⟩, ⟨1, false, (tE (.int .i64 0))⟩])⟩) (fs' := [⟨1, false, tI (l.getD i tst0).lo⟩, ⟨1, false, tI (min (l.getD i tst0).hi x)⟩, ⟨6, true, tVa (l.getD i tst0).v⟩]) 2 rfl rfl rfl, inferInstance, Le.refl⟩⟩⟩) rfl rfl rfl (RE (xc9 (k := 11) (n := 8) (agg := true) zr103.1 zr103.2 rfl) trivial trivial ⟨rfl, trivial⟩ (RE (xb0 (es := 8) (agg := true) (0) ti103 rfl rfl rfl) ⟨rfl, rfl, trivial⟩ ⟨rfl, trivial⟩ trivial (x7 (by kernel_rfl) (x3 (x6 ?_)))))
    refine x8 ?_
    refine R1 (x9 fo103_0 rfl) rfl (xa5 (0) ti3 rfl rfl rfl (At.g 0 rfl rfl) rfl (R1 x4 rfl (R2 d_max2 rfl rfl (R1 (x9 fo103_1 rfl) rfl (xa5 (0) ti3 rfl rfl rfl (At.g 1 rfl rfl) rfl (R1 (x9 fo103_2 rfl) rfl (xa5 (0) ti53 rfl rfl rfl (At.g 2 rfl rfl) rfl ?_)))))))
    refine R3 (xe0 (r := tS [⟨1, false, tI (max (l.getD i tst0).lo y)⟩, ⟨1, false, tI (l.getD i tst0).hi⟩, ⟨6, true, tVa (l.getD i tst0).v⟩]) (ts := [(0, tI (max (l.getD i tst0).lo y)), (1, tI (l.getD i tst0).hi), (2, tVa (l.getD i tst0).v)]) bu103 zr103.2 ⟨_, rfl⟩ rfl ⟨_, _, _, _, rfl, Up.f (fs := [⟨1, false, (tE (.int .i64 0))⟩, ⟨1, false, (tE (.int .i64 0))⟩, ⟨6, true, (tS [⟨1, false, (tE (.int .u8 0))⟩, ⟨4, true, (tS [⟨2, true, (tS [⟨1, false, (tE (.bool false))⟩, ⟨1, false, (tLm [])⟩])⟩, ⟨2, true, (tS [⟨1, false, (tE (.bool false))⟩, ⟨1, false, (tLm [])⟩])⟩])⟩, ⟨1, false, (tE (.int .i64 0))⟩])⟩]) (f := ⟨1, false, (tE (.int .i64 0))⟩) (fs' := [⟨1, false, tI (max (l.getD i tst0).lo y)⟩, ⟨1, false, (tE (.int .i64 0))⟩, ⟨6, true, (tS [⟨1, false, (tE (.int .u8 0))⟩, ⟨4, true, (tS [⟨2, true, (tS [⟨1, false, (tE (.bool false))⟩, ⟨1, false, (tLm [])⟩])⟩, ⟨2, true, (tS [⟨1, false, (tE (.bool false))⟩, ⟨1, false, (tLm [])⟩])⟩])⟩, ⟨1, false, (tE (.int .i64 0))⟩])⟩]) 0 rfl rfl rfl, inferInstance, ⟨_, _, _, _, rfl, Up.f (fs := [⟨1, false, tI (max (l.getD i tst0).lo y)⟩, ⟨1, false, (tE (.int .i64 0))⟩, ⟨6, true, (tS [⟨1, false, (tE (.int .u8 0))⟩, ⟨4, true, (tS [⟨2, true, (tS [⟨1, false, (tE (.bool false))⟩, ⟨1, false, (tLm [])⟩])⟩, ⟨2, true, (tS [⟨1, false, (tE (.bool false))⟩, ⟨1, false, (tLm [])⟩])⟩])⟩, ⟨1, false, (tE (.int .i64 0))⟩])⟩]) (f := ⟨1, false, (tE (.int .i64 0))⟩) (fs' := [⟨1, false, tI (max (l.getD i tst0).lo y)⟩, ⟨1, false, tI (l.getD i tst0).hi⟩, ⟨6, true, (tS [⟨1, false, (tE (.int .u8 0))⟩, ⟨4, true, (tS [⟨2, true, (tS [⟨1, false, (tE (.bool false))⟩, ⟨1, false, (tLm [])⟩])⟩, ⟨2, true, (tS [⟨1, false, (tE (.bool false))⟩, ⟨1, false, (tLm [])⟩])⟩])⟩, ⟨1, false, (tE (.int .i64 0))⟩])⟩]) 1 rfl rfl rfl, inferInstance, ⟨_, _, _, _, rfl, Up.f (fs := [⟨1, false, tI (max (l.getD i tst0).lo y)⟩, ⟨1, false, tI (l.getD i tst0).hi⟩, ⟨6, true, (tS [⟨1, false, (tE (.int .u8 0))⟩, ⟨4, true, (tS [⟨2, true, (tS [⟨1, false, (tE (.bool false))⟩, ⟨1, false, (tLm [])⟩])⟩, ⟨2, true, (tS [⟨1, false, (tE (.bool false))⟩, ⟨1, false, (tLm [])⟩])⟩])⟩, ⟨1, false, (tE (.int .i64 0))⟩])⟩]) (f := ⟨6, true, (tS [⟨1, false, (tE (.int .u8 0))⟩, ⟨4, true, (tS [⟨2, true, (tS [⟨1, false, (tE (.bool false))⟩, ⟨1, false, (tLm [])⟩])⟩, ⟨2, true, (tS [⟨1, false, (tE (.bool false))⟩, ⟨1, false, (tLm [])⟩])⟩])⟩, ⟨1, false, (tE (.int .i64 0))⟩])⟩) (fs' := [⟨1, false, tI (max (l.getD i tst0).lo y)⟩, ⟨1, false, tI (l.getD i tst0).hi⟩, ⟨6, true, tVa (l.getD i tst0).v⟩]) 2 rfl rfl rfl, inferInstance, Le.refl⟩⟩⟩) rfl rfl rfl (RE (xc9 (k := 12) (n := 8) (agg := true) zr103.1 zr103.2 rfl) trivial trivial ⟨rfl, trivial⟩ (RE (xb0 (es := 8) (agg := true) (0) ti103 rfl rfl rfl) ⟨rfl, rfl, trivial⟩ ⟨rfl, trivial⟩ trivial (x7 (by kernel_rfl) (x3 ?_))))
    refine x8 ?_
    refine R1 x4 rfl (RE (xb3 (0) ti103 rfl rfl) ⟨rfl, trivial⟩ ⟨rfl, trivial⟩ trivial (RE (xb3 (0) ti103 rfl rfl) ⟨rfl, trivial⟩ ⟨rfl, trivial⟩ trivial (R2 (xf4 (n := 2) (f := tTs) [(⟨(l.getD i tst0).lo, min (l.getD i tst0).hi x, (l.getD i tst0).v⟩ : Tst), (⟨max (l.getD i tst0).lo y, (l.getD i tst0).hi, (l.getD i tst0).v⟩ : Tst)] Tryz.underlying88 el103 zf103 rfl (fun _ => inferInstance) rfl rfl rfl) rfl rfl ?_)))
    have hcl : ∀ s ∈ (woP x y (l.getD i tst0)), s.v.f.n.l.length ≤ 1000000 ∧ s.v.f.d.l.length ≤ 1000000 := by
     intro s hs
     have h := hlen _ (xf5 (l := l) (i := i) (by omega))
     have e : s.v = (l.getD i tst0).v := by
      simp only [woP, List.mem_cons, List.not_mem_nil, or_false] at hs
      rcases hs with rfl | rfl <;> rfl
     rw [e]; exact ⟨by omega, by omega⟩
    refine RE (xh1 (fun j => cond (Nat.beq j 1) 8 (50)) (c_paste zs (woP x y (l.getD i tst0)) (by omega) (by simp [woP]) hcl) fi108 rfl (krC (ρ := fun j => cond (Nat.beq j 1) 8 (50)) (k := 1) xf8 (krN (ρ := fun j => cond (Nat.beq j 1) 8 (50)))) (krC (ρ := fun j => cond (Nat.beq j 1) 8 (50)) (k := 90) xf8 (krN (ρ := fun j => cond (Nat.beq j 1) 8 (50)))) ⟨⟨rfl, xe3⟩, trivial⟩ rfl) ⟨rfl, rfl, trivial⟩ ⟨rfl, trivial⟩ ⟨rfl, trivial⟩ (R1 x5 rfl (x7 (by kernel_rfl) (xc6 (x3 ?_))))
    refine x8 ?_
    refine R2 (xc4 (wr64 (by omega) (by omega))) rfl rfl (R1 x4 rfl (x7 (by kernel_rfl) ?_))
    exact K_famR (l := [8]) (fun j => cond (Nat.beq j 8) 50 (j)) ((i + 1, pst zs (woP x y (l.getD i tst0)))) ⟨(by dsimp only; exact ⟨by omega, by rw [wo_next (by omega), pst_app, ← hz]⟩), (by dsimp only; omega)⟩ (SubR.int rfl (by first | omega | rfl | (dsimp only; omega)) (SubR.int rfl (by first | omega | rfl | (dsimp only; omega)) (SubR.cons rfl (SubR.cons rfl (SubR.int rfl (by first | omega | rfl | (dsimp only; omega)) (SubR.int rfl (by first | omega | rfl | (dsimp only; omega)) SubR.nil)))))) ((SubKR.consI rfl (ImpK.of xf8.symm)) SubKR.nil) (SupG.val (SupG.val (SupG.val (SupG.own rfl (SupG.val (SupG.val SupG.nil)))))) (SupH.cons rfl (supJ xe3) SupH.nil) (lkOk rfl) rfl rfl (fun _ h => by cases h)
   ·
    refine xd1 (xc0 (xc0 (xd8 (x3 (x6 ?_)))))
    refine x8 ?_
    refine R1 x4 rfl (RE (d_assignS (f := tTs) (xs := zs) (fun _ h => h) (rV_all rfl) rfl) ⟨rfl, trivial⟩ ⟨rfl, trivial⟩ trivial (R1 x5 rfl (x7 (by kernel_rfl) (x3 (xa2 ?_)))))
    exact xf2 Plain.mk' rfl rfl rfl (Le.of (by rw [if_pos hok, hz, woT, show i = l.length by omega, List.take_length])) (Le.int (by rw [if_pos hok]))
theorem c_At1 (l : List Tst) (d : Int) (i : Nat) (hi : i < l.length) :
  CtG Tryz.prog 105 [(2, ⟨88, 1, false, [.val (tL 8 true tTs l)]⟩), (3, ⟨3, 1, false, [.val (tI d)]⟩)] [.val (tI i), .own (.ptr 2 0), .own (.ptr 3 0)] (.val (tB (decide (d < (l.getD i tst0).hi)))) [(2, ⟨88, 1, false, [.val (tL 8 true tTs l)]⟩), (3, ⟨3, 1, false, [.val (tI d)]⟩)] [] := by
 refine CtG.intro [2, 3] Tryz.func105 rfl Tryz.ntmps105 rfl rfl ⟨⟨rfl, (SupX.lit rfl)⟩, ⟨rfl, (SupX.lit rfl)⟩, trivial⟩ ?_
 intro w F η
 refine x6 ?_
 refine x8 ?_
 refine R1 x5 rfl (x7 (by kernel_rfl) (x3 (x6 ?_)))
 refine xe1 mixed ?_
 refine RE (xb3 (0) ti88 rfl rfl) ⟨rfl, trivial⟩ ⟨rfl, trivial⟩ trivial (R1 x4 rfl (R2 (xb8 sl88 (i) (by omega) (gD (l := l) (n := i) (d := tst0) (by omega))) rfl rfl (R1 (xh0 fo103_1 (At.f 1 rfl rfl) rfl) rfl (R1 (xc1 ti3) rfl (RE (xb3 (0) ti3 rfl rfl) ⟨rfl, trivial⟩ ⟨rfl, trivial⟩ trivial (R2 d_gtr rfl rfl (R1 x5 rfl ?_)))))))
 refine xd9 (by kernel_rfl) (x3 (xa2 ?_))
 exact xh9 LentC.mk' rfl rfl Imp.refl ⟨rfl, rfl, trivial⟩ rfl ⟨⟨rfl, (SupX.lit rfl)⟩, ⟨rfl, (SupX.lit rfl)⟩, trivial⟩ rfl
theorem c_SearchT (l : List Tst) (d : Int) (hv : tRight l = true) (hl : l.length ≤ 1000000) :
  CtG Tryz.prog 104 [(2, ⟨88, 1, false, [.val (tL 8 true tTs l)]⟩), (3, ⟨3, 1, false, [.val (tI d)]⟩)] [.val (tI l.length), .own (.fn 105 [.ptr 2 0, .ptr 3 0])] (.val (tI (fndT l d))) [(2, ⟨88, 1, false, [.val (tL 8 true tTs l)]⟩), (3, ⟨3, 1, false, [.val (tI d)]⟩)] [] := by
 refine CtG.intro [2, 3] Tryz.func104 rfl Tryz.ntmps104 rfl rfl ⟨⟨rfl, (SupX.lit rfl)⟩, ⟨rfl, (SupX.lit rfl)⟩, trivial⟩ ?_
 intro w F η
 refine x6 ?_
 refine x8 ?_
 refine R1 x5 rfl (x7 (by kernel_rfl) (x3 (x6 ?_)))
 refine x8 ?_
 refine R1 x4 rfl (R1 x5 rfl (R1 x5 rfl (x7 (by kernel_rfl) (x3 (x6 (xa9 ?_))))))
 refine xd6 (fun (fm : (Nat) × (Nat)) => (fun (p : Nat) (q : Nat) => p ≤ q ∧ q ≤ l.length ∧ (∀ i, i < p → (l.getD i tst0).hi ≤ d) ∧ ∀ i, q ≤ i → i < l.length → d < (l.getD i tst0).hi) fm.1 fm.2) (fun (fm : (Nat) × (Nat)) => (fun (p : Nat) (q : Nat) => upd (upd (upd (fun _ => none) 1 (some (.own (.fn 105 [.ptr 2 0, .ptr 3 0])))) 5 (some (.val (tI p)))) 6 (some (.val (tI q)))) fm.1 fm.2) (fun (fm : (Nat) × (Nat)) => (fun (p : Nat) (q : Nat) => upd (upd (fun _ => none) 2 (some (⟨88, 1, false, [.val (tL 8 true tTs l)]⟩))) 3 (some (⟨3, 1, false, [.val (tI d)]⟩))) fm.1 fm.2) (nm [2, 3]) (fun (fm : (Nat) × (Nat)) => (fun (p : Nat) (q : Nat) => q - p) fm.1 fm.2) ((0, l.length)) (by dsimp only; exact ⟨Nat.zero_le _, Nat.le_refl _, fun i hi => by omega, fun i hi hi2 => by omega⟩) (Sub.int rfl (by first | omega | rfl | (dsimp only; omega)) (Sub.int rfl (by first | omega | rfl | (dsimp only; omega)) (Sub.cons rfl Sub.nil))) ((SubK.consI rfl ImpK.refl) ((SubK.consI rfl ImpK.refl) SubK.nil)) (SupG.val (SupG.val (SupG.own rfl SupG.nil))) (SupH.cons rfl (supJL rfl) (SupH.cons rfl (supJL rfl) SupH.nil)) (lkOk rfl) ?_
 intro fm hI
 obtain ⟨p, q⟩ := fm
 replace hI : p ≤ q ∧ q ≤ l.length ∧ (∀ i, i < p → (l.getD i tst0).hi ≤ d) ∧ ∀ i, q ≤ i → i < l.length → d < (l.getD i tst0).hi := hI
 show wc _ _ _ _ (upd (upd (upd (fun _ => none) 1 (some (.own (.fn 105 [.ptr 2 0, .ptr 3 0])))) 5 (some (.val (tI p)))) 6 (some (.val (tI q)))) (upd (upd (fun _ => none) 2 (some (⟨88, 1, false, [.val (tL 8 true tTs l)]⟩))) 3 (some (⟨3, 1, false, [.val (tI d)]⟩))) _
 obtain ⟨hp, hq, h1, h2⟩ := hI
 refine x6 (x6 ?_)
 refine x8 ?_
 refine R1 x4 rfl (R1 x4 rfl (R2 xd5 rfl rfl (x7 (by kernel_rfl) (x3 ?_))))
 refine xc2 rfl (fun h62 => ?_) (fun h62 => ?_)
 ·
  refine xa4 (x3 (xa9 (x6 ?_)))
  refine x8 ?_
  refine R1 x4 rfl (R1 x4 rfl (R2 (xc4 (wr64 (by omega) (by omega))) rfl rfl (R1 (xb4 Tryz.underlying176 (isS Tryz.underlying3) (by first | exact wu64 (by omega) (by omega) | exact mu64)) rfl (R2 (d_shr (r := ((((p + q) / 2) : Nat) : Int)) (by decide) ((shrN (s := 1) rfl (by decide)).trans (by simp))) rfl rfl (R1 (xb4 Tryz.underlying3 (isS Tryz.underlying176) (wr64 (by omega) (by omega))) rfl (R1 x5 rfl (x7 (by kernel_rfl) ?_)))))))
  refine x3 (x6 ?_)
  refine x8 ?_
  refine R1 x4 rfl (R1 x4 rfl (RE (d_callCX (ps := [.val (tI _)]) (caps := [.ptr 2 0, .ptr 3 0]) (fun j => cond (Nat.beq j 2) 2 (3)) (c_At1 l d ((p + q) / 2) (by omega)) fi105 rfl (krC (ρ := fun j => cond (Nat.beq j 2) 2 (3)) (k := 2) rfl (krC (ρ := fun j => cond (Nat.beq j 2) 2 (3)) (k := 3) rfl (krN (ρ := fun j => cond (Nat.beq j 2) 2 (3))))) (krC (ρ := fun j => cond (Nat.beq j 2) 2 (3)) (k := 2) rfl (krC (ρ := fun j => cond (Nat.beq j 2) 2 (3)) (k := 3) rfl (krN (ρ := fun j => cond (Nat.beq j 2) 2 (3))))) ⟨⟨rfl, (SupX.lit rfl)⟩, ⟨rfl, (SupX.lit rfl)⟩, trivial⟩ rfl) ⟨rfl, rfl, trivial⟩ ⟨rfl, rfl, trivial⟩ trivial (R1 xe7 rfl (x7 (by kernel_rfl) (x3 ?_)))))
  refine C_ifn rfl (fun h65 => ?_) (fun h65 => ?_)
  ·
   refine x8 ?_
   refine R1 x4 rfl (R2 (xc4 (wr64 (by omega) (by omega))) rfl rfl (R1 x5 rfl (x7 (by kernel_rfl) (xc6 ?_))))
   exact xc7 ((((p + q) / 2) + 1, q)) ⟨(by dsimp only; exact ⟨by omega, hq, fun i hi => by have := hiT_mono hv (show i ≤ ((p + q) / 2) by omega) (by omega); omega, h2⟩), (by dsimp only; omega)⟩ (Sub.int rfl (by first | omega | rfl | (dsimp only; omega)) (Sub.int rfl (by first | omega | rfl | (dsimp only; omega)) (Sub.cons rfl Sub.nil))) ((SubK.consI rfl ImpK.refl) ((SubK.consI rfl ImpK.refl) SubK.nil)) (SupG.val (SupG.val (SupG.own rfl SupG.nil))) (SupH.cons rfl (supJL rfl) (SupH.cons rfl (supJL rfl) SupH.nil)) (lkOk rfl)
  ·
   refine x8 ?_
   refine R1 x4 rfl (R1 x5 rfl (x7 (by kernel_rfl) (xc6 ?_)))
   exact xc7 ((p, ((p + q) / 2))) ⟨(by dsimp only; exact ⟨by omega, by omega, h1, fun i hi hi2 => by have := hiT_mono hv hi hi2; omega⟩), (by dsimp only; omega)⟩ (Sub.int rfl (by first | omega | rfl | (dsimp only; omega)) (Sub.int rfl (by first | omega | rfl | (dsimp only; omega)) (Sub.cons rfl Sub.nil))) ((SubK.consI rfl ImpK.refl) ((SubK.consI rfl ImpK.refl) SubK.nil)) (SupG.val (SupG.val (SupG.own rfl SupG.nil))) (SupH.cons rfl (supJL rfl) (SupH.cons rfl (supJL rfl) SupH.nil)) (lkOk rfl)
 ·
  refine xd1 (xc0 (xc0 (xd8 (x3 (x6 ?_)))))
  refine x8 ?_
  refine R1 x4 rfl (R1 x5 rfl (x7 (by kernel_rfl) (x3 (xa2 ?_))))
  exact xh9 LentC.mk' rfl rfl (Imp.int (congrArg Int.ofNat (fndT_is (by omega) h1 (fun hp2 => h2 p (by omega) hp2)))) ⟨rfl, rfl, trivial⟩ rfl ⟨⟨rfl, (SupX.lit rfl)⟩, ⟨rfl, (SupX.lit rfl)⟩, trivial⟩ rfl
theorem c_At (l : List Tst) (d : Int) (hl : l.length ≤ 1000000) (hD : ∀ s ∈ l, s.v.f.dig) :
  Ct Tryz.prog 54 [tL 8 true tTs l, tI d] (tT [tVa ((atR l d).getD An.va0), tB (atR l d).isSome]) := by
 have hfl := fndT_le (l := l) (d := d)
 refine Ct.intro Tryz.func54 rfl Tryz.ntmps54 rfl ?_
 intro w F
 refine x6 ?_
 refine x8 ?_
 refine RE (xd2 (k := 2) ti88 rfl) ⟨rfl, trivial⟩ trivial ⟨rfl, trivial⟩ (RE (xd2 (k := 3) ti3 rfl) ⟨rfl, trivial⟩ trivial ⟨rfl, trivial⟩ (RE (xc9 (k := 4) (n := 6) (agg := true) zr53.1 zr53.2 rfl) trivial trivial ⟨rfl, trivial⟩ (R1 x5 rfl (x7 (by kernel_rfl) (x3 (x6 (x6 ?_)))))))
 refine x8 ?_
 refine RE (xb3 (0) ti88 rfl rfl) ⟨rfl, trivial⟩ ⟨rfl, trivial⟩ trivial (R1 (xa0 (c_TRight l hD) fi103 rfl) rfl (R1 xe7 rfl (x7 (by kernel_rfl) (x3 ?_))))
 refine xg6 rfl (fun h83 => ?_) (fun h83 => ?_)
 ·
  have hk : ¬ tRight l = true := by simpa using h83
  have hr : atR l d = none := by rw [atR, if_neg hk]
  refine x6 ?_
  refine x8 ?_
  refine R0 (xe0 (r := tS [⟨1, false, (tE (.int .u8 0))⟩, ⟨4, true, (tS [⟨2, true, (tS [⟨1, false, (tE (.bool false))⟩, ⟨1, false, (tLm [])⟩])⟩, ⟨2, true, (tS [⟨1, false, (tE (.bool false))⟩, ⟨1, false, (tLm [])⟩])⟩])⟩, ⟨1, false, (tE (.int .i64 0))⟩]) (ts := []) bu53 zr53.2 ⟨_, rfl⟩ rfl Le.refl)  (RE (xb0 (es := 6) (agg := true) (0) ti53 rfl rfl rfl) ⟨rfl, rfl, trivial⟩ ⟨rfl, trivial⟩ trivial (R1 x5 rfl (x7 (by kernel_rfl) (x3 (xa2 (xa6 ?_))))))
  exact xg4 Plain.mk' (rs := [.cell 4 53, .tmp 5]) rfl rfl ⟨⟨_, _, _, _, _, rfl, rfl, ti53, (Le.of (by rw [hr]; rfl))⟩, ⟨_, rfl, (Le.bool (by rw [hr]; rfl))⟩, trivial⟩
 ·
  have hok : tRight l = true := by simpa using h83
  refine xa4 (x3 (x6 ?_))
  refine x8 ?_
  refine RE (xb3 (0) ti88 rfl rfl) ⟨rfl, trivial⟩ ⟨rfl, trivial⟩ trivial (R1 (xb9 Tryz.underlying88) rfl (R2 (d_makeFunc (ps := [.ptr 2 0, .ptr 3 0]) rfl) rfl rfl (RE (xh1 (fun j => cond (Nat.beq j 2) 2 (3)) (c_SearchT l d hok hl) fi104 rfl (krC (ρ := fun j => cond (Nat.beq j 2) 2 (3)) (k := 2) rfl (krC (ρ := fun j => cond (Nat.beq j 2) 2 (3)) (k := 3) rfl (krN (ρ := fun j => cond (Nat.beq j 2) 2 (3))))) (krC (ρ := fun j => cond (Nat.beq j 2) 2 (3)) (k := 2) rfl (krC (ρ := fun j => cond (Nat.beq j 2) 2 (3)) (k := 3) rfl (krN (ρ := fun j => cond (Nat.beq j 2) 2 (3))))) ⟨⟨rfl, (SupX.lit rfl)⟩, ⟨rfl, (SupX.lit rfl)⟩, trivial⟩ rfl) ⟨rfl, rfl, trivial⟩ ⟨rfl, rfl, trivial⟩ trivial (R1 x5 rfl (x7 (by kernel_rfl) (x3 (x6 ?_)))))))
  refine x6 ?_
  refine xe1 mixed ?_
  refine R1 x4 rfl (RE (xb3 (0) ti88 rfl rfl) ⟨rfl, trivial⟩ ⟨rfl, trivial⟩ trivial (R1 (xb9 Tryz.underlying88) rfl (R2 xe5 rfl rfl (R1 x4 rfl ?_))))
  refine RGcaseD (t := 19) rfl (fun h87 => ?_) (fun h87 => ?_)
  ·
   refine RGoff (decide_eq_true h87) rfl rfl (RGoff (decide_eq_true h87) rfl rfl (RGoff (decide_eq_true h87) rfl rfl (RGoff (decide_eq_true h87) rfl rfl (RGoff (decide_eq_true h87) rfl rfl (RGoff (decide_eq_true h87) rfl rfl (RGoff (decide_eq_true h87) rfl rfl (R2 (xa8 (decide_eq_true h87)) rfl rfl ?_)))))))
   refine xd9 (by kernel_rfl) (x3 (C_bT rfl rfl (x6 ?_)))
   refine x8 ?_
   refine R0 (xe0 (r := tS [⟨1, false, (tE (.int .u8 0))⟩, ⟨4, true, (tS [⟨2, true, (tS [⟨1, false, (tE (.bool false))⟩, ⟨1, false, (tLm [])⟩])⟩, ⟨2, true, (tS [⟨1, false, (tE (.bool false))⟩, ⟨1, false, (tLm [])⟩])⟩])⟩, ⟨1, false, (tE (.int .i64 0))⟩]) (ts := []) bu53 zr53.2 ⟨_, rfl⟩ rfl Le.refl)  (RE (xb0 (es := 6) (agg := true) (0) ti53 rfl rfl rfl) ⟨rfl, rfl, trivial⟩ ⟨rfl, trivial⟩ trivial (R1 x5 rfl (x7 (by kernel_rfl) (x3 (xa2 (xa6 ?_))))))
   exact xg4 Plain.mk' (rs := [.cell 4 53, .tmp 5]) rfl rfl ⟨⟨_, _, _, _, _, rfl, rfl, ti53, (Le.of (by rw [atR, if_pos hok, atT_is hok, if_neg (by omega)]; rfl))⟩, ⟨_, rfl, (Le.bool (by rw [atR, if_pos hok, atT_is hok, if_neg (by omega)]; rfl))⟩, trivial⟩
  ·
   refine RGon (decide_eq_false h87) rfl (xb3 (0) ti88 rfl rfl) rfl ⟨rfl, trivial⟩ ⟨rfl, trivial⟩ trivial (RGon (decide_eq_false h87) rfl x4 rfl ⟨rfl, trivial⟩ trivial trivial (RGon (decide_eq_false h87) rfl (xb8 sl88 (fndT l d) (by omega) (gD (l := l) (n := fndT l d) (d := tst0) (by omega))) rfl ⟨rfl, rfl, trivial⟩ trivial trivial (RGon (decide_eq_false h87) rfl (xh0 fo103_0 (At.f 0 rfl rfl) rfl) rfl ⟨rfl, trivial⟩ trivial trivial (RGon (decide_eq_false h87) rfl (xc1 ti3) rfl ⟨rfl, trivial⟩ trivial trivial (RGon (decide_eq_false h87) rfl (xb3 (0) ti3 rfl rfl) rfl ⟨rfl, trivial⟩ ⟨rfl, trivial⟩ trivial (RGon (decide_eq_false h87) rfl d_gtr rfl ⟨rfl, rfl, trivial⟩ trivial trivial (R2 (xa7 (decide_eq_false h87)) rfl rfl ?_)))))))
   refine xd9 (by kernel_rfl) (x3 ?_)
   refine xc2 rfl (fun h87_2 => ?_) (fun h87_2 => ?_)
   ·
    refine x6 ?_
    refine x8 ?_
    refine R0 (xe0 (r := tS [⟨1, false, (tE (.int .u8 0))⟩, ⟨4, true, (tS [⟨2, true, (tS [⟨1, false, (tE (.bool false))⟩, ⟨1, false, (tLm [])⟩])⟩, ⟨2, true, (tS [⟨1, false, (tE (.bool false))⟩, ⟨1, false, (tLm [])⟩])⟩])⟩, ⟨1, false, (tE (.int .i64 0))⟩]) (ts := []) bu53 zr53.2 ⟨_, rfl⟩ rfl Le.refl)  (RE (xb0 (es := 6) (agg := true) (0) ti53 rfl rfl rfl) ⟨rfl, rfl, trivial⟩ ⟨rfl, trivial⟩ trivial (R1 x5 rfl (x7 (by kernel_rfl) (x3 (xa2 (xa6 ?_))))))
    exact xg4 Plain.mk' (rs := [.cell 4 53, .tmp 5]) rfl rfl ⟨⟨_, _, _, _, _, rfl, rfl, ti53, (Le.of (by rw [atR, if_pos hok, atT_is hok, if_neg (by omega)]; rfl))⟩, ⟨_, rfl, (Le.bool (by rw [atR, if_pos hok, atT_is hok, if_neg (by omega)]; rfl))⟩, trivial⟩
   ·
    refine xa4 (x3 (x6 ?_))
    refine x8 ?_
    refine RE (xb3 (0) ti88 rfl rfl) ⟨rfl, trivial⟩ ⟨rfl, trivial⟩ trivial (R1 x4 rfl ?_)
    have hlen := va_len (xi9 hok _ (xf5 (l := l) (i := fndT l d) (by omega)))
    refine R2 (xb8 sl88 (fndT l d) (by omega) (gD (l := l) (n := fndT l d) (d := tst0) (by omega))) rfl rfl (R1 (xh0 fo103_2 (At.f 2 rfl rfl) rfl) rfl (R1 (xc1 ti53) rfl (R1 (xa0 (c_copied (l.getD (fndT l d) tst0).v (by omega) (by omega)) fi106 rfl) rfl (RE (xb0 (es := 6) (agg := true) (0) ti53 rfl rfl rfl) ⟨rfl, rfl, trivial⟩ ⟨rfl, trivial⟩ trivial (R1 x5 rfl (x7 (by kernel_rfl) (x3 ?_)))))))
    refine xa2 ?_
    exact xg4 Plain.mk' (rs := [.cell 4 53, .tmp 5]) rfl rfl ⟨⟨_, _, _, _, _, rfl, rfl, ti53, (Le.of (by rw [atR, if_pos hok, atT_is hok, if_pos (by omega)]; rfl))⟩, ⟨_, rfl, (Le.bool (by rw [atR, if_pos hok, atT_is hok, if_pos (by omega)]; rfl))⟩, trivial⟩
theorem c_Covers (l : List Tst) (hl : l.length ≤ 200000) (hD : ∀ s ∈ l, s.v.f.dig) :
  Ct Tryz.prog 64 [tL 8 true tTs l] (tL 2 true tSn (if tRight l = true then cvT l else [])) := by
 refine Ct.intro Tryz.func64 rfl Tryz.ntmps64 rfl ?_
 intro w F
 refine x6 ?_
 refine x8 ?_
 refine R1 x5 rfl (x7 (by kernel_rfl) (x3 (x6 (x6 ?_))))
 refine x8 ?_
 refine R1 x4 rfl (R1 (xa0 (c_TRight l hD) fi103 rfl) rfl (R1 xe7 rfl (x7 (by kernel_rfl) (x3 ?_))))
 refine xg6 rfl (fun h202 => ?_) (fun h202 => ?_)
 ·
  refine x6 ?_
  refine x8 ?_
  refine R1 x5 rfl (x7 (by kernel_rfl) (x3 (xa2 (xa6 ?_))))
  exact xa3 Plain.mk' rfl rfl (leNil (by rw [if_neg (by simpa using h202)]))
 ·
  refine xa4 (x3 (x6 ?_))
  refine x8 ?_
  refine R1 x4 rfl (R1 (xb9 Tryz.underlying88) rfl (RE (d_makeO (k := 13) (t := tSn sn0) (ts := rV tSn (List.replicate l.length sn0)) l.length l.length Tryz.underlying93 el99 (fun F w => tSn_mk) rfl (by omega) (by omega) (Nat.le_refl _) (by omega) (by omega) (rV_rep _ _ rfl)) ⟨rfl, rfl, trivial⟩ trivial ⟨rfl, trivial⟩ (R1 x5 rfl (x7 (by kernel_rfl) (x3 (x6 (x6 ?_)))))))
  refine x8 ?_
  refine R1 x4 rfl (R1 (xb9 Tryz.underlying88) rfl (R1 x4 rfl (x7 (by kernel_rfl) (x3 (xa9 ?_)))))
  have hok : tRight l = true := by simpa using h202
  refine xd6 (fun (i : Nat) => i ≤ l.length) (fun (i : Nat) => upd (upd (upd (upd (fun _ => none) 3 (some (.own (.sl 13 2 0 l.length)))) 14 (some (.val (tL 8 true tTs l)))) 15 (some (.val (tI l.length)))) 16 (some (.val (tI i)))) (fun (i : Nat) => upd (fun _ => none) 13 (some (⟨99, 2, true, rV tSn (cvL l i)⟩))) (nm [13]) (fun (i : Nat) => l.length - i) (0) (Nat.zero_le _) (Sub.int rfl (by first | omega | rfl | (dsimp only; omega)) (Sub.int rfl (by first | omega | rfl | (dsimp only; omega)) (Sub.cons rfl (Sub.cons rfl Sub.nil)))) ((SubK.consI rfl (ImpK.of (by simp [cvL]))) SubK.nil) (SupG.val (SupG.val (SupG.val (SupG.own rfl SupG.nil)))) (SupH.cons rfl (supJ xe3) SupH.nil) (lkOk rfl) ?_
  intro i hI
  have hcl := cvL_len (l := l) (i := i) hI
  refine x6 ?_
  refine x8 ?_
  refine R2 xd5 rfl rfl (x7 (by kernel_rfl) (x3 (x6 ?_)))
  refine xc2 rfl (fun h206 => ?_) (fun h206 => ?_)
  ·
   refine xa4 (x3 (x6 (xa9 (x6 ?_))))
   refine x8 ?_
   refine R1 x4 rfl (R2 (xb8 sl88 (i) (by omega) (gD (l := l) (n := i) (d := tst0) (by omega))) rfl rfl (R1 (xc1 ti103) rfl (RE (xc9 (k := 5) (n := 8) (agg := true) zr103.1 zr103.2 rfl) trivial trivial ⟨rfl, trivial⟩ (R1 x5 rfl (RE (xb0 (es := 8) (agg := true) (0) ti103 rfl rfl rfl) ⟨rfl, rfl, trivial⟩ ⟨rfl, trivial⟩ trivial (x7 (by kernel_rfl) (x3 ?_)))))))
   refine x8 ?_
   refine R1 x4 rfl (R1 x4 rfl (R1 (x9 fo103_0 rfl) rfl (xa5 (0) ti3 rfl rfl rfl (At.g 0 rfl rfl) rfl (R1 (x9 fo103_1 rfl) rfl (xa5 (0) ti3 rfl rfl rfl (At.g 1 rfl rfl) rfl (R2 (xe0 (r := tS [⟨1, false, tI (l.getD i tst0).lo⟩, ⟨1, false, tI (l.getD i tst0).hi⟩]) (ts := [(0, tI (l.getD i tst0).lo), (1, tI (l.getD i tst0).hi)]) bu99 zr99.2 ⟨_, rfl⟩ rfl ⟨_, _, _, _, rfl, Up.f (fs := [⟨1, false, (tE (.int .i64 0))⟩, ⟨1, false, (tE (.int .i64 0))⟩]) (f := ⟨1, false, (tE (.int .i64 0))⟩) (fs' := [⟨1, false, tI (l.getD i tst0).lo⟩, ⟨1, false, (tE (.int .i64 0))⟩]) 0 rfl rfl rfl, inferInstance, ⟨_, _, _, _, rfl, Up.f (fs := [⟨1, false, tI (l.getD i tst0).lo⟩, ⟨1, false, (tE (.int .i64 0))⟩]) (f := ⟨1, false, (tE (.int .i64 0))⟩) (fs' := [⟨1, false, tI (l.getD i tst0).lo⟩, ⟨1, false, tI (l.getD i tst0).hi⟩]) 1 rfl rfl rfl, inferInstance, Le.refl⟩⟩) rfl rfl (R2 (xd7 sl93 (by omega) (by omega) rfl) rfl rfl ?_)))))))
   refine RE (xb0 (i) ti99 (rV_lt (by omega)) (by omega) (rV_set (m := (spT (l.getD i tst0))) rfl)) ⟨rfl, rfl, trivial⟩ ⟨rfl, trivial⟩ trivial (x7 (by kernel_rfl) (xc6 (x3 ?_)))
   refine x8 ?_
   refine R2 (xc4 (wr64 (by omega) (by omega))) rfl rfl (R1 x4 rfl (x7 (by kernel_rfl) ?_))
   exact xc7 (i + 1) ⟨(by omega), (by omega)⟩ (Sub.int rfl (by first | omega | rfl | (dsimp only; omega)) (Sub.int rfl (by first | omega | rfl | (dsimp only; omega)) (Sub.cons rfl (Sub.cons rfl Sub.nil)))) ((SubK.consI rfl (ImpK.of (by rw [cvL_set (by omega)]))) SubK.nil) (SupG.val (SupG.val (SupG.val (SupG.own rfl SupG.nil)))) (SupH.cons rfl (supJ xe3) SupH.nil) (lkOk rfl)
  ·
   refine xd1 (xc0 (xc0 (xd8 (x3 (x6 ?_)))))
   have hil : i = l.length := by omega
   subst hil
   refine C_key (k := 13) (e' := ⟨99, 2, true, rV tSn (cvS l)⟩) rfl (by rw [cvL_all]) ?_
   refine x8 ?_
   refine RE (d_moveS (f := tSn) (xs := cvS l) (fun _ h => h) (rV_all (by simp [cvS])) (by simp [cvS])) ⟨rfl, trivial⟩ ⟨rfl, trivial⟩ trivial (R1 (xa0 (c_SnMake (cvS l) (by simp [cvS]; omega)) fi110 rfl) rfl (R1 x4 rfl (R1 (xb7 rfl) rfl (R1 (xb7 rfl) rfl (R1 x5 rfl (R1 x5 rfl (x7 (by kernel_rfl) ?_)))))))
   refine x3 (x6 ?_)
   refine x8 ?_
   refine R1 x4 rfl (R1 x5 rfl (x7 (by kernel_rfl) (x3 (xa2 ?_))))
   exact xa3 Plain.mk' rfl rfl (Le.of (by rw [if_pos hok, if_pos (ascS_ok (cvS_asc hok))]; rfl))
theorem c_Changes (l : List Tst) (hl : l.length ≤ 200000) (hD : ∀ s ∈ l, s.v.f.dig) :
  Ct Tryz.prog 63 [tL 8 true tTs l] (tL 1 false tI (if tRight l = true then bds [l] else [])) := by
 refine Ct.intro Tryz.func63 rfl Tryz.ntmps63 rfl ?_
 intro w F
 refine x6 ?_
 refine x8 ?_
 refine R1 x5 rfl (x7 (by kernel_rfl) (x3 (x6 (x6 ?_))))
 refine x8 ?_
 refine R1 x4 rfl (R1 (xa0 (c_TRight l hD) fi103 rfl) rfl (R1 xe7 rfl (x7 (by kernel_rfl) (x3 ?_))))
 refine xg6 rfl (fun h215 => ?_) (fun h215 => ?_)
 ·
  refine x6 ?_
  refine x8 ?_
  refine R1 x5 rfl (x7 (by kernel_rfl) (x3 (xa2 (xa6 ?_))))
  exact xa3 Plain.mk' rfl rfl (leNil (by rw [if_neg (by simpa using h215)]))
 ·
  refine xa4 (x3 (x6 ?_))
  refine x8 ?_
  refine R1 x4 rfl (R1 (xf4 (n := 1) (f := fun l => tL 8 true tTs l) [l] Tryz.underlying199 el88 zf88 rfl (fun _ => inferInstance) rfl rfl rfl) rfl (R1 (xa0 (c_borders [l] (by simp) (by simp [tlen]; omega)) fi112 rfl) rfl (R1 x5 rfl (x7 (by kernel_rfl) (x3 (xa2 ?_))))))
  exact xa3 Plain.mk' rfl rfl (Le.of (by rw [if_pos (by simpa using h215)]))
theorem dfK_eq {a b : List Tst} {k : Nat} (h : valT a ((bds [a, b]).getD k 0) = valT b ((bds [a, b]).getD k 0)) : dfK a b (k + 1) = dfK a b k := by
  rw [dfK_next, dfI, if_neg (by rw [dfB, h]; simp), List.append_nil]
theorem dfK_ne {a b : List Tst} {k : Nat} (h : valT a ((bds [a, b]).getD k 0) ≠ valT b ((bds [a, b]).getD k 0)) : dfK a b (k + 1) = dfK a b k ++ [⟨(bds [a, b]).getD k 0, (bds [a, b]).getD (k + 1) 0⟩] := by
  rw [dfK_next, dfI, if_pos (by rw [dfB]; simpa using h)]
theorem some_of {o : Option Va} (h : o.isNone = false) : ∃ v, o = some v := not_none (by rw [h]; rfl)
theorem c_TDiff (a b : List Tst) (hla : a.length ≤ 200000) (hlb : b.length ≤ 200000) (hDa : ∀ s ∈ a, s.v.f.dig) (hDb : ∀ s ∈ b, s.v.f.dig) :
  Ct Tryz.prog 59 [tL 8 true tTs a, tL 8 true tTs b] (tT [tL 2 true tSn (if tRight a = true ∧ tRight b = true then dfS a b else []), tI (if tRight a = true ∧ tRight b = true then 0 else 2)]) := by
 refine Ct.intro Tryz.func59 rfl Tryz.ntmps59 rfl ?_
 intro w F
 refine x6 ?_
 refine x8 ?_
 refine R1 x5 rfl (R1 x5 rfl (x7 (by kernel_rfl) (x3 (x6 (x6 ?_)))))
 refine x8 ?_
 refine R1 x4 rfl (R1 (xa0 (c_TRight a hDa) fi103 rfl) rfl (R1 xe7 rfl (R1 x4 rfl ?_)))
 refine RGcase (t := 12) rfl (fun h223 => ?_) (fun h223 => ?_)
 ·
  refine RGoff h223 rfl rfl (RGoff h223 rfl rfl (RGoff h223 rfl rfl (R2 (xa8 h223) rfl rfl (x7 (by kernel_rfl) (x3 (C_bT rfl rfl (x6 ?_)))))))
  refine x8 ?_
  refine R1 x5 rfl (R1 x5 rfl (x7 (by kernel_rfl) (x3 (xa2 (xa6 ?_)))))
  exact xf2 Plain.mk' rfl rfl rfl (leNil (by rw [if_neg fun h => by rw [h.1] at h223; cases h223])) (Le.int (by rw [if_neg fun h => by rw [h.1] at h223; cases h223]))
 ·
  refine RGon h223 rfl x4 rfl ⟨rfl, trivial⟩ trivial trivial (RGon h223 rfl (xa0 (c_TRight b hDb) fi103 rfl) rfl ⟨rfl, trivial⟩ trivial trivial (RGon h223 rfl xe7 rfl ⟨rfl, trivial⟩ trivial trivial (R2 (xa7 h223) rfl rfl (x7 (by kernel_rfl) (x3 ?_)))))
  refine xg6 rfl (fun h223_2 => ?_) (fun h223_2 => ?_)
  ·
   refine x6 ?_
   refine x8 ?_
   refine R1 x5 rfl (R1 x5 rfl (x7 (by kernel_rfl) (x3 (xa2 (xa6 ?_)))))
   exact xf2 Plain.mk' rfl rfl rfl (leNil (by rw [if_neg fun h => by rw [h.2] at h223_2; cases h223_2])) (Le.int (by rw [if_neg fun h => by rw [h.2] at h223_2; cases h223_2]))
  ·
   refine xa4 (x3 (x6 ?_))
   refine x8 ?_
   refine RE (xc9 (k := 6) (n := 1) (agg := false) zr93.1 zr93.2 rfl) trivial trivial ⟨rfl, trivial⟩ (x7 (by kernel_rfl) (x3 (x6 (x6 ?_))))
   have hok : tRight a = true ∧ tRight b = true := ⟨by simpa using h223, by simpa using h223_2⟩
   refine C_nilC (q := 6) 60 99 2 true 0 rfl rfl rfl rfl (fun h => by cases h) rfl rfl ?_
   refine x8 ?_
   refine R1 x4 rfl (R1 x4 rfl (RE (xh1 (fun j => cond (Nat.beq j 2) 19 (1019)) (c_together a b) fi109 rfl (krN (ρ := fun j => cond (Nat.beq j 2) 19 (1019))) (krC (ρ := fun j => cond (Nat.beq j 2) 19 (1019)) (k := 2) rfl (krC (ρ := fun j => cond (Nat.beq j 2) 19 (1019)) (k := 3) rfl (krN (ρ := fun j => cond (Nat.beq j 2) 19 (1019))))) ⟨⟨rfl, (SupX.lit rfl)⟩, ⟨rfl, (SupX.lit rfl)⟩, trivial⟩ rfl) ⟨rfl, rfl, trivial⟩ trivial ⟨rfl, rfl, trivial⟩ (x7 (by kernel_rfl) (x3 (xa9 ?_)))))
   refine C_range (caps := [.ptr 1 0, .ptr 2 0]) (κ := Empty) (fun j => cond (Nat.beq j 2) 1019 (cond (Nat.beq j 1) 19 (j))) rfl (fun _ h => h) trivial (i_together a b (xi7 hok.1) (xi7 hok.2) hla hlb) fi154 rfl ⟨rfl, rfl, trivial⟩ rfl rfl (fun _ _ => rfl) (upd (fun _ => none) 6 (some (.own (.ptr 6 0)))) [6, 60] [6] (Sub.cons rfl Sub.nil) (SupG.own rfl SupG.nil) rfl (lkOk rfl) (fun (k : Nat) (xs : List Sn) => xs = dfK a b k ∧ xs.length ≤ k) (fun (k : Nat) (xs : List Sn) => upd (upd (fun _ => none) 6 (some (⟨93, 1, false, [.own (.sl 60 2 0 xs.length)]⟩))) 60 (some (⟨99, 2, true, rV tSn xs⟩))) (fun k x => (SupH.cons rfl (supJ xe3) (SupH.cons rfl (supJL rfl) SupH.nil))) (fun k x y hy => by simp only [List.mem_cons, List.not_mem_nil, or_false] at hy; rcases hy with rfl | rfl <;> rfl) (fun _ _ => False) (fun i => i.elim) (fun _ _ h => h.elim) ([]) ⟨rfl, Nat.le_refl _⟩ ((SubK.consI rfl ImpK.refl) ((SubK.consI rfl ImpK.refl) SubK.nil)) ?_ ?_ ?_
   ·
    intro D lp o1 o2 O W lη lb V0 k xs hk hI
    obtain ⟨hx, hxl⟩ := hI
    have hdl := bds_len (ls := [a, b])
    have htl : tlen [a, b] ≤ 400000 := by simp [tlen]; omega
    apply rnd_mk
    ·
     refine x6 ?_
     refine x8 ?_
     refine RE (xc9 (k := 7) (n := 2) (agg := true) zr99.1 zr99.2 rfl) trivial trivial ⟨rfl, trivial⟩ (RE (xb0 (es := 2) (agg := true) (0) ti99 rfl rfl rfl) ⟨rfl, rfl, trivial⟩ ⟨rfl, trivial⟩ trivial (x7 (by kernel_rfl) (x3 ?_)))
     refine x8 ?_
     refine RE (xc9 (k := 8) (n := 2) (agg := true) zr154.1 zr154.2 rfl) trivial trivial ⟨rfl, trivial⟩ (RE (xb0 (es := 2) (agg := true) (0) ti154 rfl rfl rfl) ⟨rfl, rfl, trivial⟩ ⟨rfl, trivial⟩ trivial (x7 (by kernel_rfl) ?_))
     exact K_thenF fun _ _ h => h
    ·
     refine xa9 (x6 (x6 ?_))
     refine xe1 mixed ?_
     refine R1 (x9 fo154_0 rfl) rfl (xa5 (0) ti152 rfl rfl rfl (At.g 0 rfl rfl) rfl (R1 (d_eqlNil Tryz.underlying152) rfl (R1 x4 rfl ?_)))
     refine RGcase (t := 25) rfl (fun h228 => ?_) (fun h228 => ?_)
     ·
      refine RGon h228 rfl (x9 fo154_1 rfl) rfl ⟨rfl, trivial⟩ trivial trivial (xb2 h228 rfl rfl (0) ti152 rfl rfl rfl (At.g 1 rfl rfl) rfl (RGon h228 rfl (d_eqlNil Tryz.underlying152) rfl ⟨rfl, trivial⟩ trivial trivial (R2 (xa8 h228) rfl rfl (R1 x4 rfl ?_))))
      refine RGcase (t := 30) rfl (fun h228_2 => ?_) (fun h228_2 => ?_)
      ·
       refine RGoff h228_2 rfl rfl (RGoff h228_2 rfl rfl (RGoff h228_2 rfl rfl (RGoff h228_2 rfl rfl (RGoffU rfl rfl (RGoffU rfl rfl (RGoffU rfl rfl (RGoff h228_2 rfl rfl ?_)))))))
       refine RGoff h228_2 rfl rfl (RGoffU rfl rfl (RGoffU rfl rfl (RGoffU rfl rfl (RGoffU rfl rfl (RGoffU rfl rfl (RGoffU rfl rfl (RGoffU rfl rfl ?_)))))))
       refine RGoffU rfl rfl (RGoffU rfl rfl (RGoff h228_2 rfl rfl (R2 (xa8 h228_2) rfl rfl (xd9 (by kernel_rfl) (x3 (C_bT rfl rfl (xd1 ?_)))))))
       refine xc0 (xd8 ?_)
       exact K_rnd (xs) ⟨by rw [dfK_eq (by rw [Option.isNone_iff_eq_none.1 h228, Option.isNone_iff_eq_none.1 h228_2])]; exact hx, by omega⟩ ((SubK.consI rfl ImpK.refl) ((SubK.consI rfl ImpK.refl) SubK.nil)) (SupH.cons rfl (supJ xe3) (SupH.cons rfl (supJL rfl) SupH.nil)) (lkOk rfl)
      ·
       refine RGon h228_2 rfl (x9 fo154_0 rfl) rfl ⟨rfl, trivial⟩ trivial trivial (xb2 h228_2 rfl rfl (0) ti152 rfl rfl rfl (At.g 0 rfl rfl) rfl (RGon h228_2 rfl (d_neqNil Tryz.underlying152) rfl ⟨rfl, trivial⟩ trivial trivial (RGon h228_2 rfl x4 rfl ⟨rfl, trivial⟩ trivial trivial (RGoff (by exact congrArg Bool.not h228) rfl rfl (RGoff (by exact congrArg Bool.not h228) rfl rfl (RGoff (by exact congrArg Bool.not h228) rfl rfl (RGon h228_2 rfl (xa7 (by exact congrArg Bool.not h228)) rfl ⟨rfl, rfl, trivial⟩ trivial trivial ?_)))))))
       refine RGon h228_2 rfl x4 rfl ⟨rfl, trivial⟩ trivial trivial (RGoff0 rfl rfl (RGoff0 rfl rfl (RGoff0 rfl rfl (RGoff0 rfl rfl (RGoff0 rfl rfl (RGoff0 rfl rfl (RGoff0 rfl rfl ?_)))))))
       refine RGoff0 rfl rfl (RGoff0 rfl rfl (RGon h228_2 rfl (xa7 rfl) rfl ⟨rfl, rfl, trivial⟩ trivial trivial (R2 (xa7 h228_2) rfl rfl (xd9 (by kernel_rfl) (x3 (C_bF rfl rfl (xa4 ?_)))))))
       refine x3 ?_
       refine x8 ?_
       refine RE (xb3 (ts := [.own (.sl 60 2 0 xs.length)]) (0) ti93 rfl rfl) ⟨rfl, trivial⟩ ⟨rfl, trivial⟩ trivial (RE (xb3 (0) ti99 rfl rfl) ⟨rfl, trivial⟩ ⟨rfl, trivial⟩ trivial (R1 (xf4 (n := 1) (f := tSn) [(⟨((bds [a, b]).getD k 0), ((bds [a, b]).getD (k + 1) 0)⟩ : Sn)] Tryz.underlying93 el99 zf99 rfl (fun _ => inferInstance) rfl rfl rfl) rfl (RE (xf1 (k := 60) (k' := 54) (f := tSn) (ys := [(⟨((bds [a, b]).getD k 0), ((bds [a, b]).getD (k + 1) 0)⟩ : Sn)]) (ts' := rV tSn (xs ++ [(⟨((bds [a, b]).getD k 0), ((bds [a, b]).getD (k + 1) 0)⟩ : Sn)])) Tryz.underlying93 el99 zf99 rfl rfl (fun _ => inferInstance) rV_len (by simp; omega) (by simp; omega) (by simp [rV]) (n' := xs.length + 1) rfl) ⟨rfl, rfl, trivial⟩ ⟨rfl, trivial⟩ ⟨rfl, trivial⟩ (RE (xb0 (es := 1) (agg := false) (e := .own (.sl 54 2 0 (xs.length + 1))) (0) ti93 rfl rfl rfl) ⟨rfl, rfl, trivial⟩ ⟨rfl, trivial⟩ trivial (x7 (by kernel_rfl) (xc6 ?_))))))
       exact K_ren (g' := fun _ => none) [6, 60] (fun j => cond (Nat.beq j 60) 54 (j)) SubR.nil ((SubKR.consI rfl (ImpK.of xf8.symm)) ((SubKR.consI rfl (ImpK.of (by rw [List.length_append]; rfl))) SubKR.nil)) SupG.nil (SupH.cons rfl (supJ xe3) (SupH.cons rfl (supJL rfl) SupH.nil)) (lkOk rfl) rfl rfl (fun _ h => by cases h) (K_rnd ((xs ++ [(⟨((bds [a, b]).getD k 0), ((bds [a, b]).getD (k + 1) 0)⟩ : Sn)])) ⟨by rw [dfK_ne (fun e => by rw [e, h228_2] at h228; cases h228), ← hx], by rw [List.length_append]; simp; omega⟩ SubK.refl (SupH.cons rfl (supJ xe3) (SupH.cons rfl (supJL rfl) SupH.nil)) (lkOk rfl))
     ·
      refine RGoff h228 rfl rfl (RGoff h228 rfl rfl (RGoff h228 rfl rfl (R2 (xa7 h228) rfl rfl (R1 x4 rfl (RGon rfl rfl (x9 fo154_0 rfl) rfl ⟨rfl, trivial⟩ trivial trivial (xb2 rfl rfl rfl (0) ti152 rfl rfl rfl (At.g 0 rfl rfl) rfl (RGon rfl rfl (d_neqNil Tryz.underlying152) rfl ⟨rfl, trivial⟩ trivial trivial ?_)))))))
      refine RGon rfl rfl x4 rfl ⟨rfl, trivial⟩ trivial trivial (RGon (by exact congrArg Bool.not h228) rfl (x9 fo154_1 rfl) rfl ⟨rfl, trivial⟩ trivial trivial (xb2 (by exact congrArg Bool.not h228) rfl rfl (0) ti152 rfl rfl rfl (At.g 1 rfl rfl) rfl (RGon (by exact congrArg Bool.not h228) rfl (d_neqNil Tryz.underlying152) rfl ⟨rfl, trivial⟩ trivial trivial (RGon rfl rfl (xa8 (by exact congrArg Bool.not h228)) rfl ⟨rfl, rfl, trivial⟩ trivial trivial (RGon rfl rfl x4 rfl ⟨rfl, trivial⟩ trivial trivial ?_)))))
      refine RGcase (t := 39) rfl (fun h228_3 => ?_) (fun h228_3 => ?_)
      ·
       obtain ⟨u, hu⟩ := some_of h228
       obtain ⟨v, hv⟩ := not_none h228_3
       refine RGon h228_3 rfl (x9 fo154_0 rfl) rfl ⟨rfl, trivial⟩ trivial trivial (xb2 h228_3 rfl rfl (0) ti152 rfl rfl rfl (At.g 0 rfl rfl) rfl (RGon h228_3 rfl (d_checkO hu) rfl ⟨rfl, trivial⟩ trivial trivial (RGon h228_3 rfl (xc1 ti53) rfl ⟨rfl, trivial⟩ trivial trivial (RGon h228_3 rfl (x9 fo154_1 rfl) rfl ⟨rfl, trivial⟩ trivial trivial (xb2 h228_3 rfl rfl (0) ti152 rfl rfl rfl (At.g 1 rfl rfl) rfl (RGon h228_3 rfl (d_checkO hv) rfl ⟨rfl, trivial⟩ trivial trivial (RGon h228_3 rfl (xc1 ti53) rfl ⟨rfl, trivial⟩ trivial trivial ?_)))))))
       refine RGon h228_3 rfl (xa0 (c_TSame _ _) fi68 rfl) rfl ⟨rfl, rfl, trivial⟩ trivial trivial (RGon rfl rfl (xa8 h228_3) rfl ⟨rfl, rfl, trivial⟩ trivial trivial (R2 (xa7 rfl) rfl rfl (xd9 (by kernel_rfl) (x3 ?_))))
       refine xc2 rfl (fun h228_4 => ?_) (fun h228_4 => ?_)
       ·
        refine xd1 (xc0 (xd8 ?_))
        exact K_rnd (xs) ⟨by rw [dfK_eq (by rw [hu, hv, h228_4])]; exact hx, by omega⟩ ((SubK.consI rfl ImpK.refl) ((SubK.consI rfl ImpK.refl) SubK.nil)) (SupH.cons rfl (supJ xe3) (SupH.cons rfl (supJL rfl) SupH.nil)) (lkOk rfl)
       ·
        refine xa4 (x3 ?_)
        refine x8 ?_
        refine RE (xb3 (ts := [.own (.sl 60 2 0 xs.length)]) (0) ti93 rfl rfl) ⟨rfl, trivial⟩ ⟨rfl, trivial⟩ trivial (RE (xb3 (0) ti99 rfl rfl) ⟨rfl, trivial⟩ ⟨rfl, trivial⟩ trivial (R1 (xf4 (n := 1) (f := tSn) [(⟨((bds [a, b]).getD k 0), ((bds [a, b]).getD (k + 1) 0)⟩ : Sn)] Tryz.underlying93 el99 zf99 rfl (fun _ => inferInstance) rfl rfl rfl) rfl (RE (xf1 (k := 60) (k' := 54) (f := tSn) (ys := [(⟨((bds [a, b]).getD k 0), ((bds [a, b]).getD (k + 1) 0)⟩ : Sn)]) (ts' := rV tSn (xs ++ [(⟨((bds [a, b]).getD k 0), ((bds [a, b]).getD (k + 1) 0)⟩ : Sn)])) Tryz.underlying93 el99 zf99 rfl rfl (fun _ => inferInstance) rV_len (by simp; omega) (by simp; omega) (by simp [rV]) (n' := xs.length + 1) rfl) ⟨rfl, rfl, trivial⟩ ⟨rfl, trivial⟩ ⟨rfl, trivial⟩ (RE (xb0 (es := 1) (agg := false) (e := .own (.sl 54 2 0 (xs.length + 1))) (0) ti93 rfl rfl rfl) ⟨rfl, rfl, trivial⟩ ⟨rfl, trivial⟩ trivial (x7 (by kernel_rfl) (xc6 ?_))))))
        exact K_ren (g' := fun _ => none) [6, 60] (fun j => cond (Nat.beq j 60) 54 (j)) SubR.nil ((SubKR.consI rfl (ImpK.of xf8.symm)) ((SubKR.consI rfl (ImpK.of (by rw [List.length_append]; rfl))) SubKR.nil)) SupG.nil (SupH.cons rfl (supJ xe3) (SupH.cons rfl (supJL rfl) SupH.nil)) (lkOk rfl) rfl rfl (fun _ h => by cases h) (K_rnd ((xs ++ [(⟨((bds [a, b]).getD k 0), ((bds [a, b]).getD (k + 1) 0)⟩ : Sn)])) ⟨by rw [dfK_ne (fun e => by rw [hu, hv] at e; exact h228_4 (Option.some.inj e)), ← hx], by rw [List.length_append]; simp; omega⟩ SubK.refl (SupH.cons rfl (supJ xe3) (SupH.cons rfl (supJL rfl) SupH.nil)) (lkOk rfl))
      ·
       refine RGoff h228_3 rfl rfl (RGoff h228_3 rfl rfl (RGoff h228_3 rfl rfl (RGoff h228_3 rfl rfl (RGoff h228_3 rfl rfl (RGoff h228_3 rfl rfl (RGoff h228_3 rfl rfl (RGoff h228_3 rfl rfl ?_)))))))
       refine RGoff h228_3 rfl rfl (RGon rfl rfl (xa7 h228_3) rfl ⟨rfl, rfl, trivial⟩ trivial trivial (R2 (xa7 rfl) rfl rfl (xd9 (by kernel_rfl) (x3 (C_bF rfl rfl (xa4 (x3 ?_)))))))
       refine x8 ?_
       refine RE (xb3 (ts := [.own (.sl 60 2 0 xs.length)]) (0) ti93 rfl rfl) ⟨rfl, trivial⟩ ⟨rfl, trivial⟩ trivial (RE (xb3 (0) ti99 rfl rfl) ⟨rfl, trivial⟩ ⟨rfl, trivial⟩ trivial (R1 (xf4 (n := 1) (f := tSn) [(⟨((bds [a, b]).getD k 0), ((bds [a, b]).getD (k + 1) 0)⟩ : Sn)] Tryz.underlying93 el99 zf99 rfl (fun _ => inferInstance) rfl rfl rfl) rfl (RE (xf1 (k := 60) (k' := 54) (f := tSn) (ys := [(⟨((bds [a, b]).getD k 0), ((bds [a, b]).getD (k + 1) 0)⟩ : Sn)]) (ts' := rV tSn (xs ++ [(⟨((bds [a, b]).getD k 0), ((bds [a, b]).getD (k + 1) 0)⟩ : Sn)])) Tryz.underlying93 el99 zf99 rfl rfl (fun _ => inferInstance) rV_len (by simp; omega) (by simp; omega) (by simp [rV]) (n' := xs.length + 1) rfl) ⟨rfl, rfl, trivial⟩ ⟨rfl, trivial⟩ ⟨rfl, trivial⟩ (RE (xb0 (es := 1) (agg := false) (e := .own (.sl 54 2 0 (xs.length + 1))) (0) ti93 rfl rfl rfl) ⟨rfl, rfl, trivial⟩ ⟨rfl, trivial⟩ trivial (x7 (by kernel_rfl) (xc6 ?_))))))
       exact K_ren (g' := fun _ => none) [6, 60] (fun j => cond (Nat.beq j 60) 54 (j)) SubR.nil ((SubKR.consI rfl (ImpK.of xf8.symm)) ((SubKR.consI rfl (ImpK.of (by rw [List.length_append]; rfl))) SubKR.nil)) SupG.nil (SupH.cons rfl (supJ xe3) (SupH.cons rfl (supJL rfl) SupH.nil)) (lkOk rfl) rfl rfl (fun _ h => by cases h) (K_rnd ((xs ++ [(⟨((bds [a, b]).getD k 0), ((bds [a, b]).getD (k + 1) 0)⟩ : Sn)])) ⟨by rw [dfK_ne (fun e => by rw [← e, h228] at h228_3; cases h228_3), ← hx], by rw [List.length_append]; simp; omega⟩ SubK.refl (SupH.cons rfl (supJ xe3) (SupH.cons rfl (supJL rfl) SupH.nil)) (lkOk rfl))
   ·
    intro D hD xs hI
    obtain ⟨hx, hxl⟩ := hI
    have hdl := bds_len (ls := [a, b])
    have htl : tlen [a, b] ≤ 400000 := by simp [tlen]; omega
    have hx : xs = dfT a b := hx
    have hall := ascS_ok (dfT_asc hok.1 hok.2)
    refine xc6 (x3 (x6 ?_))
    refine x8 ?_
    refine RE (Does.giveL (k := 60) (es := 2) (off := 0) (len := xs.length) (xs := xs) (f := tSn) (ts := rV tSn xs) (xb3 (ts := [.own (.sl 60 2 0 xs.length)]) (0) ti93 rfl rfl) (fun _ h => h) (rV_all rfl) rfl) ⟨rfl, trivial⟩ ⟨rfl, rfl, trivial⟩ trivial (R1 (xa0 (c_SnMake xs (by omega)) fi110 rfl) rfl (R1 (xb7 rfl) rfl (R1 (xb7 rfl) rfl (R1 x5 rfl (R1 x5 rfl (x7 (by kernel_rfl) (x3 ?_)))))))
    refine xa2 ?_
    exact xf2 (Plain.loop Plain.mk' hD) rfl rfl rfl (Le.of (by rw [if_pos hok, hx, if_pos hall]; rfl)) (Le.int (by rw [if_pos hok, hx, if_pos hall]))
   ·
    intro D hD e i; exact i.elim
end An.S

/- An element of an array value. For any program. -/
namespace An
open Go
theorem off_mapV {α : Type} {es : Nat} {agg : Bool} {f : α → Ty} : ∀ (l : List α) (i : Nat), i < l.length → Fd.off (l.map fun x => ⟨es, agg, f x⟩) i = i * es
  | [], i, h => by simp at h
  | _ :: r, 0, _ => by simp [Fd.off]
  | _ :: r, i + 1, h => by
    rw [List.map_cons, Fd.off, off_mapV r i (by simpa using h), Nat.succ_mul]
    exact Nat.add_comm _ _
/-- The element i of a row of fields of one kind. -/
theorem At.row {α : Type} {es : Nat} {agg : Bool} {f : α → Ty} {l : List α} {i : Nat} (d : α) (hi : i < l.length) : At (tS (l.map fun x => ⟨es, agg, f x⟩)) (i * es) es agg (f (l.getD i d)) :=
  At.f i (f := ⟨es, agg, f (l.getD i d)⟩) (by rw [List.getElem?_map, gD (d := d) hi]; rfl) (off_mapV l i hi)
section
variable {P : Program} {c : Base} {d ty : Nat} {pos : String} {af : Array Edge} {gd : Option (Nat × Bool)}
end
end An

/- Law 5: timelines are built; days and values without the program. -/
namespace An.S
open Go Go.Proofs An
set_option maxHeartbeats 2000000
theorem fi60 : FnI Tryz.prog 60 := ⟨_, Tryz.func60, by kernel_rfl, rfl⟩
theorem fi111 : FnI Tryz.prog 111 := ⟨_, Tryz.func111, by kernel_rfl, rfl⟩
theorem c_SameStep (x y : Tst) :
  Ct Tryz.prog 111 [tTs x, tTs y] (tB (decide (x = y))) := by
 refine Ct.intro Tryz.func111 rfl Tryz.ntmps111 rfl ?_
 intro w F
 refine x6 ?_
 refine x8 ?_
 refine RE (xd2 (k := 2) ti103 rfl) ⟨rfl, trivial⟩ trivial ⟨rfl, trivial⟩ (RE (xd2 (k := 3) ti103 rfl) ⟨rfl, trivial⟩ trivial ⟨rfl, trivial⟩ (R1 x5 rfl (x7 (by kernel_rfl) (x3 (x6 ?_)))))
 refine x8 ?_
 refine R1 (x9 fo103_0 rfl) rfl (xa5 (0) ti3 rfl rfl rfl (At.g 0 rfl rfl) rfl (R1 (x9 fo103_0 rfl) rfl (xa5 (0) ti3 rfl rfl rfl (At.g 0 rfl rfl) rfl (R2 xe5 rfl rfl (R1 x4 rfl ?_)))))
 refine RGcaseD (t := 10) rfl (fun h196 => ?_) (fun h196 => ?_)
 ·
  refine RGon (decide_eq_true h196) rfl (x9 fo103_1 rfl) rfl ⟨rfl, trivial⟩ trivial trivial (xb2 (decide_eq_true h196) rfl rfl (0) ti3 rfl rfl rfl (At.g 1 rfl rfl) rfl (RGon (decide_eq_true h196) rfl (x9 fo103_1 rfl) rfl ⟨rfl, trivial⟩ trivial trivial (xb2 (decide_eq_true h196) rfl rfl (0) ti3 rfl rfl rfl (At.g 1 rfl rfl) rfl (RGon (decide_eq_true h196) rfl xe5 rfl ⟨rfl, rfl, trivial⟩ trivial trivial (R2 (xa8 (decide_eq_true h196)) rfl rfl (R1 x4 rfl ?_))))))
  refine RGcaseD (t := 17) rfl (fun h196_2 => ?_) (fun h196_2 => ?_)
  ·
   refine RGon (decide_eq_true h196_2) rfl (x9 fo103_2 rfl) rfl ⟨rfl, trivial⟩ trivial trivial (xb2 (decide_eq_true h196_2) rfl rfl (0) ti53 rfl rfl rfl (At.g 2 rfl rfl) rfl (RGon (decide_eq_true h196_2) rfl (x9 fo103_2 rfl) rfl ⟨rfl, trivial⟩ trivial trivial (xb2 (decide_eq_true h196_2) rfl rfl (0) ti53 rfl rfl rfl (At.g 2 rfl rfl) rfl (RGon (decide_eq_true h196_2) rfl (xa0 (c_SameValue _ _) fi60 rfl) rfl ⟨rfl, rfl, trivial⟩ trivial trivial (R2 (xa8 (decide_eq_true h196_2)) rfl rfl (R1 x5 rfl (x7 (by kernel_rfl) ?_)))))))
   refine x3 (xa2 ?_)
   exact xa3 Plain.mk' rfl rfl (Le.bool (by obtain ⟨a, b, e⟩ := x; obtain ⟨c, d, f⟩ := y; simp only [Tst.mk.injEq] at *; simp_all <;> omega))
  ·
   refine RGoff (decide_eq_false h196_2) rfl rfl (RGoff (decide_eq_false h196_2) rfl rfl (RGoff (decide_eq_false h196_2) rfl rfl (RGoff (decide_eq_false h196_2) rfl rfl (RGoff (decide_eq_false h196_2) rfl rfl (R2 (xa7 (decide_eq_false h196_2)) rfl rfl (R1 x5 rfl (x7 (by kernel_rfl) ?_)))))))
   refine x3 (xa2 ?_)
   exact xa3 Plain.mk' rfl rfl (Le.bool (by obtain ⟨a, b, e⟩ := x; obtain ⟨c, d, f⟩ := y; simp only [Tst.mk.injEq] at *; simp_all <;> omega))
 ·
  refine RGoff (decide_eq_false h196) rfl rfl (RGoff (decide_eq_false h196) rfl rfl (RGoff (decide_eq_false h196) rfl rfl (RGoff (decide_eq_false h196) rfl rfl (RGoff (decide_eq_false h196) rfl rfl (R2 (xa7 (decide_eq_false h196)) rfl rfl (R1 x4 rfl (RGoff0 rfl rfl ?_)))))))
  refine RGoff0 rfl rfl (RGoff0 rfl rfl (RGoff0 rfl rfl (RGoff0 rfl rfl (R2 (xa7 rfl) rfl rfl (R1 x5 rfl (x7 (by kernel_rfl) (x3 ?_)))))))
  refine xa2 ?_
  exact xa3 Plain.mk' rfl rfl (Le.bool (by obtain ⟨a, b, e⟩ := x; obtain ⟨c, d, f⟩ := y; simp only [Tst.mk.injEq] at *; simp_all <;> omega))
theorem take_succ_getT (l : List Tst) (k : Nat) (hk : k < l.length) : l.take (k + 1) = l.take k ++ [l.getD k tst0] := by
  rw [List.take_succ_eq_append_getElem hk, List.getD_eq_getElem?_getD, List.getElem?_eq_getElem hk]; rfl
theorem take_succ_getI (l : List Int) (k : Nat) (hk : k < l.length) : l.take (k + 1) = l.take k ++ [l.getD k 0] := by
  rw [List.take_succ_eq_append_getElem hk, List.getD_eq_getElem?_getD, List.getElem?_eq_getElem hk]; rfl
theorem c_SameSteps (xs ys : List Tst) :
  Ct Tryz.prog 62 [tL 8 true tTs xs, tL 8 true tTs ys] (tB (decide (xs = ys))) := by
 refine Ct.intro Tryz.func62 rfl Tryz.ntmps62 rfl ?_
 intro w F
 refine C_len (s := 0) rfl (fun hl0 => ?_)
 refine x6 ?_
 refine x8 ?_
 refine R1 x5 rfl (x7 (by kernel_rfl) (x3 (x6 (x6 ?_))))
 refine x8 ?_
 refine R1 x4 rfl (R1 (xb9 Tryz.underlying88) rfl (R1 x4 rfl (R1 (xb9 Tryz.underlying88) rfl (R2 d_neq rfl rfl (x7 (by kernel_rfl) (x3 ?_))))))
 refine xc2 rfl (fun h206 => ?_) (fun h206 => ?_)
 ·
  refine x6 ?_
  refine x8 ?_
  refine R1 x5 rfl (x7 (by kernel_rfl) (x3 (xa2 (xa6 ?_))))
  exact xa3 Plain.mk' rfl rfl (Le.bool (decide_eq_false (fun h => by rw [h] at h206; omega)).symm)
 ·
  have hll : xs.length = ys.length := by omega
  refine xa4 (x3 (x6 (x6 ?_)))
  refine x8 ?_
  refine R1 x5 rfl (x7 (by kernel_rfl) (x3 (xa9 ?_)))
  refine xd6 (fun (i : Nat) => i ≤ xs.length ∧ xs.take i = ys.take i) (fun (i : Nat) => upd (upd (upd (fun _ => none) 0 (some (.val (tL 8 true tTs xs)))) 1 (some (.val (tL 8 true tTs ys)))) 5 (some (.val (tI i)))) (fun (i : Nat) => fun _ => none) (nm []) (fun (i : Nat) => xs.length - i) (0) ⟨Nat.zero_le _, rfl⟩ (Sub.int rfl (by first | omega | rfl | (dsimp only; omega)) (Sub.cons rfl (Sub.cons rfl Sub.nil))) SubK.nil (SupG.val (SupG.val (SupG.val SupG.nil))) SupH.nil (lkOk rfl) ?_
  intro i hI
  obtain ⟨hi, ht⟩ := hI
  refine x6 (x6 ?_)
  refine x8 ?_
  refine R1 x4 rfl (R1 x4 rfl (R1 (xb9 Tryz.underlying88) rfl (R2 xd5 rfl rfl (x7 (by kernel_rfl) (x3 ?_)))))
  refine xc2 rfl (fun h209 => ?_) (fun h209 => ?_)
  ·
   refine xa4 (x3 (x6 (xa9 (x6 ?_))))
   refine xe1 mixed ?_
   refine R1 x4 rfl (R1 x4 rfl (R2 (xb8 sl88 i (by omega) (gD (d := tst0) (by omega))) rfl rfl (R1 (xc1 ti103) rfl (R1 x4 rfl (R1 x4 rfl (R2 (xb8 sl88 i (by omega) (gD (d := tst0) (by omega))) rfl rfl (R1 (xc1 ti103) rfl ?_)))))))
   refine R2 (xa0 (c_SameStep _ _) fi111 rfl) rfl rfl (R1 xe7 rfl (xd9 (by kernel_rfl) (x3 ?_)))
   refine C_ifn rfl (fun h210 => ?_) (fun h210 => ?_)
   ·
    refine x6 ?_
    refine x8 ?_
    refine R1 x5 rfl (x7 (by kernel_rfl) (x3 (xa2 (xc8 (xa6 (xa6 (xc8 ?_)))))))
    refine xa6 ?_
    exact xa3 Plain.mk' rfl rfl (Le.bool (decide_eq_false (fun h => by rw [h] at h210; exact (h210 rfl))).symm)
   ·
    refine xa4 (xc6 (x3 ?_))
    refine x8 ?_
    refine R1 x4 rfl (R2 (xc4 (wr64 (by omega) (by omega))) rfl rfl (R1 x5 rfl (x7 (by kernel_rfl) ?_)))
    exact xc7 (i + 1) ⟨⟨by omega, by rw [take_succ_getT xs i (by omega), take_succ_getT ys i (by omega), ht, show xs.getD i tst0 = ys.getD i tst0 from h210]⟩, (by omega)⟩ (Sub.int rfl (by first | omega | rfl | (dsimp only; omega)) (Sub.cons rfl (Sub.cons rfl Sub.nil))) SubK.nil (SupG.val (SupG.val (SupG.val SupG.nil))) SupH.nil (lkOk rfl)
  ·
   refine xd1 (xc0 (xc0 (xd8 (x3 (x6 ?_)))))
   refine x8 ?_
   refine R1 x5 rfl (x7 (by kernel_rfl) (x3 (xa2 ?_)))
   exact xa3 Plain.mk' rfl rfl (Le.bool (decide_eq_true (by rw [show i = xs.length by omega, List.take_length, hll, List.take_length] at ht; exact ht)).symm)
theorem c_SameInts (xs ys : List Int) :
  Ct Tryz.prog 13 [tL 1 false tI xs, tL 1 false tI ys] (tB (decide (xs = ys))) := by
 refine Ct.intro Tryz.func13 rfl Tryz.ntmps13 rfl ?_
 intro w F
 refine C_len (s := 0) rfl (fun hl0 => ?_)
 refine x6 ?_
 refine x8 ?_
 refine R1 x5 rfl (x7 (by kernel_rfl) (x3 (x6 (x6 ?_))))
 refine x8 ?_
 refine R1 x4 rfl (R1 (xb9 Tryz.underlying23) rfl (R1 x4 rfl (R1 (xb9 Tryz.underlying23) rfl (R2 d_neq rfl rfl (x7 (by kernel_rfl) (x3 ?_))))))
 refine xc2 rfl (fun h27 => ?_) (fun h27 => ?_)
 ·
  refine x6 ?_
  refine x8 ?_
  refine R1 x5 rfl (x7 (by kernel_rfl) (x3 (xa2 (xa6 ?_))))
  exact xa3 Plain.mk' rfl rfl (Le.bool (decide_eq_false (fun h => by rw [h] at h27; omega)).symm)
 ·
  have hll : xs.length = ys.length := by omega
  refine xa4 (x3 (x6 (x6 ?_)))
  refine x8 ?_
  refine R1 x5 rfl (x7 (by kernel_rfl) (x3 (xa9 ?_)))
  refine xd6 (fun (i : Nat) => i ≤ xs.length ∧ xs.take i = ys.take i) (fun (i : Nat) => upd (upd (upd (fun _ => none) 0 (some (.val (tL 1 false tI xs)))) 1 (some (.val (tL 1 false tI ys)))) 5 (some (.val (tI i)))) (fun (i : Nat) => fun _ => none) (nm []) (fun (i : Nat) => xs.length - i) (0) ⟨Nat.zero_le _, rfl⟩ (Sub.int rfl (by first | omega | rfl | (dsimp only; omega)) (Sub.cons rfl (Sub.cons rfl Sub.nil))) SubK.nil (SupG.val (SupG.val (SupG.val SupG.nil))) SupH.nil (lkOk rfl) ?_
  intro i hI
  obtain ⟨hi, ht⟩ := hI
  refine x6 (x6 ?_)
  refine x8 ?_
  refine R1 x4 rfl (R1 x4 rfl (R1 (xb9 Tryz.underlying23) rfl (R2 xd5 rfl rfl (x7 (by kernel_rfl) (x3 ?_)))))
  refine xc2 rfl (fun h30 => ?_) (fun h30 => ?_)
  ·
   refine xa4 (x3 (x6 (xa9 (x6 ?_))))
   refine xe1 mixed ?_
   refine R1 x4 rfl (R1 x4 rfl (R2 (xb8 sl23 i (by omega) (gD (d := 0) (by omega))) rfl rfl (R1 (xc1 ti3) rfl (R1 x4 rfl (R1 x4 rfl (R2 (xb8 sl23 i (by omega) (gD (d := 0) (by omega))) rfl rfl (R1 (xc1 ti3) rfl ?_)))))))
   refine R2 d_neq rfl rfl (xd9 (by kernel_rfl) (x3 ?_))
   refine xc2 rfl (fun h31 => ?_) (fun h31 => ?_)
   ·
    refine x6 ?_
    refine x8 ?_
    refine R1 x5 rfl (x7 (by kernel_rfl) (x3 (xa2 (xc8 (xa6 (xa6 (xc8 ?_)))))))
    refine xa6 ?_
    exact xa3 Plain.mk' rfl rfl (Le.bool (decide_eq_false (fun h => by rw [h] at h31; exact (h31 rfl))).symm)
   ·
    refine xa4 (xc6 (x3 ?_))
    refine x8 ?_
    refine R1 x4 rfl (R2 (xc4 (wr64 (by omega) (by omega))) rfl rfl (R1 x5 rfl (x7 (by kernel_rfl) ?_)))
    exact xc7 (i + 1) ⟨⟨by omega, by rw [take_succ_getI xs i (by omega), take_succ_getI ys i (by omega), ht, show xs.getD i 0 = ys.getD i 0 from (Decidable.of_not_not h31)]⟩, (by omega)⟩ (Sub.int rfl (by first | omega | rfl | (dsimp only; omega)) (Sub.cons rfl (Sub.cons rfl Sub.nil))) SubK.nil (SupG.val (SupG.val (SupG.val SupG.nil))) SupH.nil (lkOk rfl)
  ·
   refine xd1 (xc0 (xc0 (xd8 (x3 (x6 ?_)))))
   refine x8 ?_
   refine R1 x5 rfl (x7 (by kernel_rfl) (x3 (xa2 ?_)))
   exact xa3 Plain.mk' rfl rfl (Le.bool (decide_eq_true (by rw [show i = xs.length by omega, List.take_length, hll, List.take_length] at ht; exact ht)).symm)
theorem xh8 (a b n d : Int) (h1 : -9223372036854775808 ≤ n) (h2 : n ≤ 9223372036854775807) (h3 : -9223372036854775808 ≤ d) (h4 : d ≤ 9223372036854775807) :
  Ct Tryz.prog 53 [tI a, tI b, tI n, tI d] (tTs ⟨a, b, ⟨2, fr (kfr n d), 0⟩⟩) := by
 refine Ct.intro Tryz.func53 rfl Tryz.ntmps53 rfl ?_
 intro w F
 refine x6 ?_
 refine x8 ?_
 refine RE (xc9 (k := 8) (n := 8) (agg := true) zr103.1 zr103.2 rfl) trivial trivial ⟨rfl, trivial⟩ (x7 (by kernel_rfl) (x3 (x6 ?_)))
 refine x8 ?_
 refine R1 x4 rfl (R1 x4 rfl (R1 x4 rfl (R1 x4 rfl (R2 (xa0 (c_Num n d h1 h2 h3 h4) fi61 rfl) rfl rfl (R3 (xe0 (r := tS [⟨1, false, tI a⟩, ⟨1, false, tI b⟩, ⟨6, true, tVa ⟨2, fr (kfr n d), 0⟩⟩]) (ts := [(0, tI a), (1, tI b), (2, tVa ⟨2, fr (kfr n d), 0⟩)]) bu103 zr103.2 ⟨_, rfl⟩ rfl ⟨_, _, _, _, rfl, Up.f (fs := [⟨1, false, (tE (.int .i64 0))⟩, ⟨1, false, (tE (.int .i64 0))⟩, ⟨6, true, (tS [⟨1, false, (tE (.int .u8 0))⟩, ⟨4, true, (tS [⟨2, true, (tS [⟨1, false, (tE (.bool false))⟩, ⟨1, false, (tLm [])⟩])⟩, ⟨2, true, (tS [⟨1, false, (tE (.bool false))⟩, ⟨1, false, (tLm [])⟩])⟩])⟩, ⟨1, false, (tE (.int .i64 0))⟩])⟩]) (f := ⟨1, false, (tE (.int .i64 0))⟩) (fs' := [⟨1, false, tI a⟩, ⟨1, false, (tE (.int .i64 0))⟩, ⟨6, true, (tS [⟨1, false, (tE (.int .u8 0))⟩, ⟨4, true, (tS [⟨2, true, (tS [⟨1, false, (tE (.bool false))⟩, ⟨1, false, (tLm [])⟩])⟩, ⟨2, true, (tS [⟨1, false, (tE (.bool false))⟩, ⟨1, false, (tLm [])⟩])⟩])⟩, ⟨1, false, (tE (.int .i64 0))⟩])⟩]) 0 rfl rfl rfl, inferInstance, ⟨_, _, _, _, rfl, Up.f (fs := [⟨1, false, tI a⟩, ⟨1, false, (tE (.int .i64 0))⟩, ⟨6, true, (tS [⟨1, false, (tE (.int .u8 0))⟩, ⟨4, true, (tS [⟨2, true, (tS [⟨1, false, (tE (.bool false))⟩, ⟨1, false, (tLm [])⟩])⟩, ⟨2, true, (tS [⟨1, false, (tE (.bool false))⟩, ⟨1, false, (tLm [])⟩])⟩])⟩, ⟨1, false, (tE (.int .i64 0))⟩])⟩]) (f := ⟨1, false, (tE (.int .i64 0))⟩) (fs' := [⟨1, false, tI a⟩, ⟨1, false, tI b⟩, ⟨6, true, (tS [⟨1, false, (tE (.int .u8 0))⟩, ⟨4, true, (tS [⟨2, true, (tS [⟨1, false, (tE (.bool false))⟩, ⟨1, false, (tLm [])⟩])⟩, ⟨2, true, (tS [⟨1, false, (tE (.bool false))⟩, ⟨1, false, (tLm [])⟩])⟩])⟩, ⟨1, false, (tE (.int .i64 0))⟩])⟩]) 1 rfl rfl rfl, inferInstance, ⟨_, _, _, _, rfl, Up.f (fs := [⟨1, false, tI a⟩, ⟨1, false, tI b⟩, ⟨6, true, (tS [⟨1, false, (tE (.int .u8 0))⟩, ⟨4, true, (tS [⟨2, true, (tS [⟨1, false, (tE (.bool false))⟩, ⟨1, false, (tLm [])⟩])⟩, ⟨2, true, (tS [⟨1, false, (tE (.bool false))⟩, ⟨1, false, (tLm [])⟩])⟩])⟩, ⟨1, false, (tE (.int .i64 0))⟩])⟩]) (f := ⟨6, true, (tS [⟨1, false, (tE (.int .u8 0))⟩, ⟨4, true, (tS [⟨2, true, (tS [⟨1, false, (tE (.bool false))⟩, ⟨1, false, (tLm [])⟩])⟩, ⟨2, true, (tS [⟨1, false, (tE (.bool false))⟩, ⟨1, false, (tLm [])⟩])⟩])⟩, ⟨1, false, (tE (.int .i64 0))⟩])⟩) (fs' := [⟨1, false, tI a⟩, ⟨1, false, tI b⟩, ⟨6, true, tVa ⟨2, fr (kfr n d), 0⟩⟩]) 2 rfl rfl rfl, inferInstance, Le.refl⟩⟩⟩) rfl rfl rfl (RE (xb0 (es := 8) (agg := true) (0) ti103 rfl rfl rfl) ⟨rfl, rfl, trivial⟩ ⟨rfl, trivial⟩ trivial (x7 (by kernel_rfl) ?_)))))))
 refine x3 (xa2 ?_)
 exact xg5 Plain.mk' rfl ⟨_, _, _, _, _, rfl, rfl, ti103, Le.refl⟩
theorem c_steps (l : List Tst) :
  Ct Tryz.prog 52 [tL 8 true tTs l] (tL 8 true tTs l) := by
 refine Ct.intro Tryz.func52 rfl Tryz.ntmps52 rfl ?_
 intro w F
 refine x6 ?_
 refine x8 ?_
 refine R1 x5 rfl (x7 (by kernel_rfl) (x3 (x6 ?_)))
 refine x8 ?_
 refine R1 x4 rfl (R1 x5 rfl (x7 (by kernel_rfl) (x3 (xa2 ?_))))
 exact xa3 Plain.mk' rfl rfl Le.refl
abbrev tP2 (p : Int × Int) : Ty := tS [⟨1, false, tI p.1⟩, ⟨1, false, tI p.2⟩]
def plP : List (Int × Int) := [(0, 1), (1, 1), (1, 2), (-3, 4), (5, 3), (65537, 7), (-1, 1), (1099511627776, 1)]
def plQ (n : Nat) : Int × Int := plP.getD (n % 8) (0, 1)
def plV (n : Nat) : Va := ⟨2, fr (kfr (plQ n).1 (plQ n).2), 0⟩
def tbF (m : List Nat) (k : Nat) (t : Int) : Int := t + ((m.getD (3 * k) 0 : Nat) : Int) % 3000
def tbE (m : List Nat) (k : Nat) (t : Int) : Int := tbF m k t + 1 + ((m.getD (3 * k + 1) 0 : Nat) : Int) % 3000
def tbS (m : List Nat) (k : Nat) (t : Int) : Tst := ⟨tbF m k t, tbE m k t, plV (m.getD (3 * k + 2) 0)⟩
def tbRun (m : List Nat) : Nat → Nat → List Tst → Int → List Tst
  | 0, _, out, _ => out
  | f + 1, k, out, t => if 3 * k + 2 < m.length ∧ k < 40 then (if 65536 < tbE m k t then out else tbRun m f (k + 1) (pst1 out (tbS m k t)) (tbE m k t)) else out
def tbT (m : List Nat) : List Tst := tbRun m 41 0 [] 0
def eds4 (l : List Tst) : List Int := l.flatMap fun s => [s.lo - 1, s.lo, s.hi - 1, s.hi]
/-- The days about the ends of steps. -/
def lkT (a b : List Tst) (d : Int) : List Int := d :: [a, b].flatMap eds4
end An.S

/- Law 5: what Built makes; contracts at timelines of one kind; the examples of the chapter. -/
namespace An.S
open Go Go.Proofs An
set_option maxHeartbeats 2000000
set_option maxRecDepth 100000
theorem fi13 : FnI Tryz.prog 13 := ⟨_, Tryz.func13, by kernel_rfl, rfl⟩
theorem fi50 : FnI Tryz.prog 50 := ⟨_, Tryz.func50, by kernel_rfl, rfl⟩
theorem fi52 : FnI Tryz.prog 52 := ⟨_, Tryz.func52, by kernel_rfl, rfl⟩
theorem fi53 : FnI Tryz.prog 53 := ⟨_, Tryz.func53, by kernel_rfl, rfl⟩
theorem fi54 : FnI Tryz.prog 54 := ⟨_, Tryz.func54, by kernel_rfl, rfl⟩
theorem fi55 : FnI Tryz.prog 55 := ⟨_, Tryz.func55, by kernel_rfl, rfl⟩
theorem fi57 : FnI Tryz.prog 57 := ⟨_, Tryz.func57, by kernel_rfl, rfl⟩
theorem fi58 : FnI Tryz.prog 58 := ⟨_, Tryz.func58, by kernel_rfl, rfl⟩
theorem fi59 : FnI Tryz.prog 59 := ⟨_, Tryz.func59, by kernel_rfl, rfl⟩
theorem fi62 : FnI Tryz.prog 62 := ⟨_, Tryz.func62, by kernel_rfl, rfl⟩
theorem fi63 : FnI Tryz.prog 63 := ⟨_, Tryz.func63, by kernel_rfl, rfl⟩
theorem fi64 : FnI Tryz.prog 64 := ⟨_, Tryz.func64, by kernel_rfl, rfl⟩
def plW : List Int := [0, 84, 42, -63, 140, 786444, -84, 92358976733184]
def tB5 : Int := 92358976733184
abbrev isT (l : List Tst) : Prop := isG 2 84 tB5 l
/-- Two ascending lists with the same members. -/
theorem asc_eq : ∀ {a b : List Int}, a.Pairwise (· < ·) → b.Pairwise (· < ·) → (∀ x, x ∈ a ↔ x ∈ b) → a = b
  | [], [], _, _, _ => rfl
  | [], y :: s, _, _, h => absurd ((h y).2 (List.mem_cons_self ..)) (List.not_mem_nil)
  | x :: r, [], _, _, h => absurd ((h x).1 (List.mem_cons_self ..)) (List.not_mem_nil)
  | x :: r, y :: s, ha, hb, h => by
    have pa := List.pairwise_cons.1 ha
    have pb := List.pairwise_cons.1 hb
    have hxy : x = y := by
      rcases List.mem_cons.1 ((h x).1 (List.mem_cons_self ..)) with e | h1
      · exact e
      · rcases List.mem_cons.1 ((h y).2 (List.mem_cons_self ..)) with e | h2
        · exact e.symm
        · have := pa.1 y h2; have := pb.1 x h1; omega
    subst hxy
    congr 1
    refine asc_eq pa.2 pb.2 fun z => ⟨fun hz => ?_, fun hz => ?_⟩
    · rcases List.mem_cons.1 ((h z).1 (List.mem_cons_of_mem _ hz)) with e | h1
      · have := pa.1 z hz; omega
      · exact h1
    · rcases List.mem_cons.1 ((h z).2 (List.mem_cons_of_mem _ hz)) with e | h1
      · have := pb.1 z hz; omega
      · exact h1
theorem brd_eq {xs l : List Int} (h : l.Pairwise (· < ·)) (hm : ∀ x, x ∈ l ↔ x ∈ xs) : brd xs = l := asc_eq (brd_spec xs).1 h fun x => ((brd_spec xs).2 x).trans (hm x).symm
/-! Contracts. -/
section
variable {K : Nat} {D B : Int} {l a b : List Tst}
theorem isG.kind (ha : isG K D B a) (hb : isG K D B b) : jnC a b := by
  refine ⟨⟨ha.1, hb.1⟩, fun h => h.2.2 ?_⟩
  rw [(ha.2 _ (xf5 (l := a) (i := 0) h.1)).1.2.1, (hb.2 _ (xf5 (l := b) (i := 0) h.2.1)).1.2.1]
theorem c_CutG (x y : Int) (h : isG K D B l) (hl : l.length ≤ 200000) (hxy : Sn.ok ⟨x, y⟩ = true) : Ct Tryz.prog 56 [tL 8 true tTs l, tI x, tI y] (tT [tL 8 true tTs (cutT l x y), tI 0]) := by
  have := c_Cut l x y (by omega) h.dig
  rw [if_pos ⟨h.1, hxy⟩, if_pos ⟨h.1, hxy⟩] at this; exact this
theorem c_WithoutG (x y : Int) (h : isG K D B l) (hl : l.length ≤ 200000) (hxy : Sn.ok ⟨x, y⟩ = true) : Ct Tryz.prog 57 [tL 8 true tTs l, tI x, tI y] (tT [tL 8 true tTs (woT l x y), tI 0]) := by
  have := c_Without l x y hl h.dig
  rw [if_pos ⟨h.1, hxy⟩, if_pos ⟨h.1, hxy⟩] at this; exact this
theorem c_JoinG (ha : isG K D B a) (hb : isG K D B b) (hla : a.length ≤ 200000) (hlb : b.length ≤ 200000) : Ct Tryz.prog 58 [tL 8 true tTs a, tL 8 true tTs b] (tT [tL 8 true tTs (jnT a b), tI 0]) := by
  have := c_TJoin a b hla hlb ha.dig hb.dig
  rw [if_pos (ha.kind hb), if_pos (ha.kind hb)] at this; exact this
theorem c_SumG (x y : Int) (hK : K = 2 ∨ K = 3) (hD : 0 < D) (hDb : D ≤ 9223372036854775807) (hB0 : 0 ≤ B) (hB : B ≤ 140737488355327) (h : isG K D B l) (hl : l.length ≤ 200000) (hxy : Sn.ok ⟨x, y⟩ = true) : Ct Tryz.prog 55 [tL 8 true tTs l, tI x, tI y] (tT [tFr (fr (Rat.divInt (gS (wt D) l x y) D)), tI 0]) := by
  have h2 := h.sum hK hD hDb hB0 hB hxy
  have := c_TSum l x y (by omega) h.dig
  rw [if_pos h2.1, if_pos h2.1, h2.2] at this; exact this
theorem c_CoversG (h : isG K D B l) (hl : l.length ≤ 200000) : Ct Tryz.prog 64 [tL 8 true tTs l] (tL 2 true tSn (cvT l)) := by
  have := c_Covers l hl h.dig
  rw [if_pos h.1] at this; exact this
theorem c_ChangesG (h : isG K D B l) (hl : l.length ≤ 200000) : Ct Tryz.prog 63 [tL 8 true tTs l] (tL 1 false tI (bds [l])) := by
  have := c_Changes l hl h.dig
  rw [if_pos h.1] at this; exact this
theorem c_DiffG (ha : isG K D B a) (hb : isG K D B b) (hla : a.length ≤ 200000) (hlb : b.length ≤ 200000) : Ct Tryz.prog 59 [tL 8 true tTs a, tL 8 true tTs b] (tT [tL 2 true tSn (dfS a b), tI 0]) := by
  have := c_TDiff a b hla hlb ha.dig hb.dig
  rw [if_pos ⟨ha.1, hb.1⟩, if_pos ⟨ha.1, hb.1⟩] at this; exact this
theorem c_AtG (d : Int) (h : isG K D B l) (hl : l.length ≤ 200000) : Ct Tryz.prog 54 [tL 8 true tTs l, tI d] (tT [tVa ((valT l d).getD An.va0), tB (valT l d).isSome]) := by
  have := c_At l d (by omega) h.dig
  rw [atR, if_pos h.1] at this; exact this
end
theorem c_sameFv (f g : Fr) (e : f = g) : Ct Tryz.prog 46 [tFr f, tFr g] (tB true) := by
  have h := c_SameFrac f g
  rw [decide_eq_true e] at h; exact h
theorem c_sameTv (u w : List Tst) (e : u = w) : Ct Tryz.prog 62 [tL 8 true tTs u, tL 8 true tTs w] (tB true) := by
  have h := c_SameSteps u w
  rw [decide_eq_true e] at h; exact h
theorem c_sameSv (u w : List Sn) (e : u = w) : Ct Tryz.prog 50 [tL 2 true tSn u, tL 2 true tSn w] (tB true) := by
  have h := c_SameSpans u w
  rw [decide_eq_true e] at h; exact h
theorem c_sameIv (u w : List Int) (e : u = w) : Ct Tryz.prog 13 [tL 1 false tI u, tL 1 false tI w] (tB true) := by
  have h := c_SameInts u w
  rw [decide_eq_true e] at h; exact h
theorem c_sameVv (u w : Va) (e : u = w) : Ct Tryz.prog 60 [tVa u, tVa w] (tB true) := by
  have h := c_SameValue u w
  rw [decide_eq_true e] at h; exact h
/-! The examples of the chapter. -/
def xv (n d : Int) : Va := ⟨2, fr (kfr n d), 0⟩
def exA : List Tst := [⟨0, 10, xv 1 2⟩, ⟨10, 30, xv 1 1⟩]
def exB : List Tst := [⟨8, 12, xv 0 1⟩]
def exC : List Tst := [⟨10, 12, xv 1 2⟩]
theorem xv_ok : gOk 2 84 tB5 (xv 1 2) ∧ gOk 2 84 tB5 (xv 1 1) ∧ gOk 2 84 tB5 (xv 0 1) := by
  have e1 : kfr 1 2 = Rat.divInt 42 84 := by decide +kernel
  have e2 : kfr 1 1 = Rat.divInt 84 84 := by decide +kernel
  have e3 : kfr 0 1 = Rat.divInt 0 84 := by decide +kernel
  rw [xv, xv, xv, e1, e2, e3]
  exact ⟨gOk.mk (.inl rfl) (by decide) (by decide) (by decide) (by decide) (by decide), gOk.mk (.inl rfl) (by decide) (by decide) (by decide) (by decide) (by decide), gOk.mk (.inl rfl) (by decide) (by decide) (by decide) (by decide) (by decide)⟩
theorem exA_ok : isT exA := ⟨by decide +kernel, fun s hs => by
  simp only [exA, List.mem_cons, List.not_mem_nil, or_false] at hs
  rcases hs with rfl | rfl
  · exact xv_ok.1
  · exact xv_ok.2.1⟩
theorem exB_ok : isT exB := ⟨by decide +kernel, fun s hs => by
  simp only [exB, List.mem_cons, List.not_mem_nil, or_false] at hs
  rcases hs with rfl
  exact xv_ok.2.2⟩
theorem exC_ok : isT exC := ⟨by decide +kernel, fun s hs => by
  simp only [exC, List.mem_cons, List.not_mem_nil, or_false] at hs
  rcases hs with rfl
  exact xv_ok.1⟩
theorem exCut : cutT exA 5 20 = [⟨5, 10, xv 1 2⟩, ⟨10, 20, xv 1 1⟩] := by decide +kernel
theorem exCut2 : cutT exA 0 12 = [⟨0, 10, xv 1 2⟩, ⟨10, 12, xv 1 1⟩] := by decide +kernel
theorem exWo : woT exA 5 20 = [⟨0, 5, xv 1 2⟩, ⟨20, 30, xv 1 1⟩] := by decide +kernel
theorem mem_dec {l xs : List Int} (h1 : l.all (fun x => decide (x ∈ xs)) = true) (h2 : xs.all (fun x => decide (x ∈ l)) = true) : ∀ x, x ∈ l ↔ x ∈ xs := fun x => ⟨fun h => of_decide_eq_true (List.all_eq_true.1 h1 x h), fun h => of_decide_eq_true (List.all_eq_true.1 h2 x h)⟩
theorem exJB : jnT exA exB = [⟨0, 8, xv 1 2⟩, ⟨8, 12, xv 0 1⟩, ⟨12, 30, xv 1 1⟩] := by
  have e : bds [exA, exB] = [0, 8, 10, 12, 30] := brd_eq (by decide) (mem_dec (by decide) (by decide))
  rw [jnT, e]; decide +kernel
theorem exJC : jnT exA exC = [⟨0, 12, xv 1 2⟩, ⟨12, 30, xv 1 1⟩] := by
  have e : bds [exA, exC] = [0, 10, 12, 30] := brd_eq (by decide) (mem_dec (by decide) (by decide))
  rw [jnT, e]; decide +kernel
theorem exCh : bds [exA] = [0, 10, 30] := brd_eq (by decide) (mem_dec (by decide) (by decide))
theorem exCv : cvT exA = [⟨0, 30⟩] := by
  rw [cvT, mkS_asc (cvS_asc exA_ok.1)]; decide +kernel
theorem exDf : dfS exA (cutT exA 0 12) = [⟨12, 30⟩] := by
  have e : bds [exA, [⟨0, 10, xv 1 2⟩, ⟨10, 12, xv 1 1⟩]] = [0, 10, 12, 30] := brd_eq (by decide) (mem_dec (by decide) (by decide))
  rw [dfS, mkS_asc (dfT_asc exA_ok.1 exA_ok.cut.1), dfT_map, exCut2, e]
  decide +kernel
theorem exSum : fr (Rat.divInt (gS (wt 84) exA 5 20) 84) = fr (kfr 25 2) := congrArg fr (by decide +kernel)
theorem c_awake05  :
  Ct Tryz.prog 20 [] (tB true) := by
 refine Ct.intro Tryz.func20 rfl Tryz.ntmps20 rfl ?_
 intro w F
 refine x6 ?_
 refine x8 ?_
 refine R1 x5 rfl (x7 (by kernel_rfl) (x3 (x6 ?_)))
 refine x8 ?_
 refine RE (xa0 (xh8 0 10 1 2 (by decide) (by decide) (by decide) (by decide)) fi53 rfl) ⟨rfl, rfl, rfl, rfl, trivial⟩ trivial trivial (RE (xa0 (xh8 10 30 1 1 (by decide) (by decide) (by decide) (by decide)) fi53 rfl) ⟨rfl, rfl, rfl, rfl, trivial⟩ trivial trivial (R2 (xf4 (n := 2) (f := tTs) [(⟨0, 10, xv 1 2⟩ : Tst), (⟨10, 30, xv 1 1⟩ : Tst)] Tryz.underlying88 el103 zf103 rfl (fun _ => inferInstance) rfl rfl rfl) rfl rfl (R1 (xa0 (c_steps [(⟨0, 10, xv 1 2⟩ : Tst), (⟨10, 30, xv 1 1⟩ : Tst)]) fi52 rfl) rfl (R1 x5 rfl (x7 (by kernel_rfl) (x3 (x6 ?_)))))))
 refine x8 ?_
 refine R1 x4 rfl (R2 (xa0 (c_AtG (l := exA) 9 exA_ok (by decide)) fi54 rfl) rfl rfl (R1 x4 rfl (R1 (xb7 rfl) rfl (R1 (xb7 rfl) rfl (RE (xc9 (k := 2) (n := 6) (agg := true) zr53.1 zr53.2 rfl) trivial trivial ⟨rfl, trivial⟩ (RE (xb0 (es := 6) (agg := true) (0) ti53 rfl rfl rfl) ⟨rfl, rfl, trivial⟩ ⟨rfl, trivial⟩ trivial (R1 x5 rfl ?_)))))))
 refine x7 (by kernel_rfl) (x3 (x6 ?_))
 refine x8 ?_
 refine R1 x4 rfl (R2 (xa0 (c_AtG (l := exA) 30 exA_ok (by decide)) fi54 rfl) rfl rfl (R1 x4 rfl (R1 (xb7 rfl) rfl (R1 (xb7 rfl) rfl (RE (xc9 (k := 4) (n := 6) (agg := true) zr53.1 zr53.2 rfl) trivial trivial ⟨rfl, trivial⟩ (RE (xb0 (es := 6) (agg := true) (0) ti53 rfl rfl rfl) ⟨rfl, rfl, trivial⟩ ⟨rfl, trivial⟩ trivial (R1 x5 rfl ?_)))))))
 refine x7 (by kernel_rfl) (x3 (x6 ?_))
 refine x8 ?_
 refine R1 x4 rfl (R3 (xa0 (c_SumG (l := exA) 5 20 (.inl rfl) (by decide) (by decide) (by decide) (by decide) exA_ok (by decide) (by decide)) fi55 rfl) rfl rfl rfl (R1 x4 rfl (R1 (xb7 rfl) rfl (R1 (xb7 rfl) rfl (RE (xc9 (k := 6) (n := 4) (agg := true) zr49.1 zr49.2 rfl) trivial trivial ⟨rfl, trivial⟩ (RE (xb0 (es := 4) (agg := true) (0) ti49 rfl rfl rfl) ⟨rfl, rfl, trivial⟩ ⟨rfl, trivial⟩ trivial (R1 x5 rfl ?_)))))))
 refine x7 (by kernel_rfl) (x3 (x6 ?_))
 refine x8 ?_
 refine R1 x4 rfl (R3 (xa0 (c_CutG (l := exA) 5 20 exA_ok (by decide) (by decide)) fi56 rfl) rfl rfl rfl (R1 x4 rfl (R1 (xb7 rfl) rfl (R1 (xb7 rfl) rfl (R1 x5 rfl (R1 x5 rfl (x7 (by kernel_rfl) ?_)))))))
 refine x3 (x6 ?_)
 refine x8 ?_
 refine R1 x4 rfl (R3 (xa0 (c_WithoutG (l := exA) 5 20 exA_ok (by decide) (by decide)) fi57 rfl) rfl rfl rfl (R1 x4 rfl (R1 (xb7 rfl) rfl (R1 (xb7 rfl) rfl (R1 x5 rfl (R1 x5 rfl (x7 (by kernel_rfl) ?_)))))))
 refine x3 (x6 ?_)
 refine x8 ?_
 refine R1 x4 rfl (RE (xa0 (xh8 8 12 0 1 (by decide) (by decide) (by decide) (by decide)) fi53 rfl) ⟨rfl, rfl, rfl, rfl, trivial⟩ trivial trivial (R1 (xf4 (n := 1) (f := tTs) [(⟨8, 12, xv 0 1⟩ : Tst)] Tryz.underlying88 el103 zf103 rfl (fun _ => inferInstance) rfl rfl rfl) rfl (R1 (xa0 (c_steps [(⟨8, 12, xv 0 1⟩ : Tst)]) fi52 rfl) rfl (R2 (xa0 (c_JoinG (a := exA) (b := exB) exA_ok exB_ok (by decide) (by decide)) fi58 rfl) rfl rfl (R1 x4 rfl (R1 (xb7 rfl) rfl (R1 (xb7 rfl) rfl ?_)))))))
 refine R1 x5 rfl (R1 x5 rfl (x7 (by kernel_rfl) (x3 (x6 ?_))))
 refine x8 ?_
 refine R1 x4 rfl (RE (xa0 (xh8 10 12 1 2 (by decide) (by decide) (by decide) (by decide)) fi53 rfl) ⟨rfl, rfl, rfl, rfl, trivial⟩ trivial trivial (R1 (xf4 (n := 1) (f := tTs) [(⟨10, 12, xv 1 2⟩ : Tst)] Tryz.underlying88 el103 zf103 rfl (fun _ => inferInstance) rfl rfl rfl) rfl (R1 (xa0 (c_steps [(⟨10, 12, xv 1 2⟩ : Tst)]) fi52 rfl) rfl (R2 (xa0 (c_JoinG (a := exA) (b := exC) exA_ok exC_ok (by decide) (by decide)) fi58 rfl) rfl rfl (R1 x4 rfl (R1 (xb7 rfl) rfl (R1 (xb7 rfl) rfl ?_)))))))
 refine R1 x5 rfl (R1 x5 rfl (x7 (by kernel_rfl) (x3 (x6 ?_))))
 refine x8 ?_
 refine R1 x4 rfl (R3 (xa0 (c_CutG (l := exA) 0 12 exA_ok (by decide) (by decide)) fi56 rfl) rfl rfl rfl (R1 x4 rfl (R1 (xb7 rfl) rfl (R1 (xb7 rfl) rfl (R1 x5 rfl (R1 x5 rfl (x7 (by kernel_rfl) ?_)))))))
 refine x3 (x6 ?_)
 refine x8 ?_
 refine R1 x4 rfl (R1 x4 rfl (R2 (xa0 (c_DiffG (a := exA) (b := cutT exA 0 12) exA_ok exA_ok.cut (by decide) (by rw [exCut2]; decide)) fi59 rfl) rfl rfl (R1 x4 rfl (R1 (xb7 rfl) rfl (R1 (xb7 rfl) rfl (R1 x5 rfl (R1 x5 rfl ?_)))))))
 refine x7 (by kernel_rfl) (x3 (x6 (x6 ?_)))
 refine xe1 mixed ?_
 refine R1 x4 rfl (R1 x4 rfl (R2 (xc4 (wr64 (by omega) (by omega))) rfl rfl (R1 x4 rfl (R2 (xc4 (wr64 (by omega) (by omega))) rfl rfl (R1 x4 rfl (R2 (xc4 (wr64 (by omega) (by omega))) rfl rfl (R1 x4 rfl ?_)))))))
 refine R2 (xc4 (wr64 (by omega) (by omega))) rfl rfl (R1 x4 rfl (R2 (xc4 (wr64 (by omega) (by omega))) rfl rfl (R1 x4 rfl (R2 (xc4 (wr64 (by omega) (by omega))) rfl rfl (R2 d_neq rfl rfl (R1 x4 rfl (RGon (decide_eq_false (by omega)) rfl x4 rfl ⟨rfl, trivial⟩ trivial trivial ?_)))))))
 refine RGon (decide_eq_false (by omega)) rfl xe7 rfl ⟨rfl, trivial⟩ trivial trivial (R2 (xa7 (decide_eq_false (by omega))) rfl rfl (R1 x4 rfl (RGon (by decide +kernel) rfl x4 rfl ⟨rfl, trivial⟩ trivial trivial (R2 (xa7 (by decide +kernel)) rfl rfl (R1 x4 rfl (RGon (by decide +kernel) rfl (xb3 (0) ti53 rfl rfl) rfl ⟨rfl, trivial⟩ ⟨rfl, trivial⟩ trivial (RGon (by decide +kernel) rfl (xa0 (c_Num 1 2 (by decide) (by decide) (by decide) (by decide)) fi61 rfl) rfl ⟨rfl, rfl, trivial⟩ trivial trivial ?_)))))))
 refine RGon (by decide +kernel) rfl (xa0 (c_sameVv _ _ (by decide +kernel)) fi60 rfl) rfl ⟨rfl, rfl, trivial⟩ trivial trivial (RGon (by decide +kernel) rfl xe7 rfl ⟨rfl, trivial⟩ trivial trivial (R2 (xa7 (by decide +kernel)) rfl rfl (R1 x4 rfl (RGon rfl rfl (xb3 (0) ti49 rfl rfl) rfl ⟨rfl, trivial⟩ ⟨rfl, trivial⟩ trivial (RGon rfl rfl (xa0 (c_KFrac 25 2 (by decide) (by decide) (by decide) (by decide)) fi45 rfl) rfl ⟨rfl, rfl, trivial⟩ trivial trivial (RGon rfl rfl (xa0 (c_sameFv _ _ exSum) fi46 rfl) rfl ⟨rfl, rfl, trivial⟩ trivial trivial (RGon rfl rfl xe7 rfl ⟨rfl, trivial⟩ trivial trivial ?_)))))))
 refine R2 (xa7 rfl) rfl rfl (xd9 (by kernel_rfl) (x3 (C_bF rfl rfl (xa4 (x3 (x6 ?_))))))
 refine x8 ?_
 refine R1 x5 rfl (x7 (by kernel_rfl) (x3 (x6 (x6 ?_))))
 refine x8 ?_
 refine R1 x4 rfl (R1 x4 rfl (RE (xa0 (xh8 5 10 1 2 (by decide) (by decide) (by decide) (by decide)) fi53 rfl) ⟨rfl, rfl, rfl, rfl, trivial⟩ trivial trivial (RE (xa0 (xh8 10 20 1 1 (by decide) (by decide) (by decide) (by decide)) fi53 rfl) ⟨rfl, rfl, rfl, rfl, trivial⟩ trivial trivial (R2 (xf4 (n := 2) (f := tTs) [(⟨5, 10, xv 1 2⟩ : Tst), (⟨10, 20, xv 1 1⟩ : Tst)] Tryz.underlying88 el103 zf103 rfl (fun _ => inferInstance) rfl rfl rfl) rfl rfl (R1 (xa0 (c_steps [(⟨5, 10, xv 1 2⟩ : Tst), (⟨10, 20, xv 1 1⟩ : Tst)]) fi52 rfl) rfl (R3 (d_callF (c_sameTv _ _ exCut) fi62 rfl) rfl rfl rfl (R1 xe7 rfl ?_)))))))
 refine R1 x4 rfl (RGon rfl rfl x4 rfl ⟨rfl, trivial⟩ trivial trivial (RGon rfl rfl x4 rfl ⟨rfl, trivial⟩ trivial trivial (RGon rfl rfl (xa0 (xh8 0 5 1 2 (by decide) (by decide) (by decide) (by decide)) fi53 rfl) rfl ⟨rfl, rfl, rfl, rfl, trivial⟩ trivial trivial (RGon rfl rfl (xa0 (xh8 20 30 1 1 (by decide) (by decide) (by decide) (by decide)) fi53 rfl) rfl ⟨rfl, rfl, rfl, rfl, trivial⟩ trivial trivial (RGon rfl rfl (xf4 (n := 2) (f := tTs) [(⟨0, 5, xv 1 2⟩ : Tst), (⟨20, 30, xv 1 1⟩ : Tst)] Tryz.underlying88 el103 zf103 rfl (fun _ => inferInstance) rfl rfl rfl) rfl ⟨rfl, rfl, trivial⟩ trivial trivial (RGon rfl rfl (xa0 (c_steps [(⟨0, 5, xv 1 2⟩ : Tst), (⟨20, 30, xv 1 1⟩ : Tst)]) fi52 rfl) rfl ⟨rfl, trivial⟩ trivial trivial (RGon rfl rfl (d_callF (c_sameTv _ _ exWo) fi62 rfl) rfl ⟨rfl, rfl, rfl, trivial⟩ trivial trivial ?_)))))))
 refine RGon rfl rfl xe7 rfl ⟨rfl, trivial⟩ trivial trivial (R2 (xa7 rfl) rfl rfl (R1 x4 rfl (RGon rfl rfl x4 rfl ⟨rfl, trivial⟩ trivial trivial (RGon rfl rfl x4 rfl ⟨rfl, trivial⟩ trivial trivial (RGon rfl rfl (xa0 (xh8 0 8 1 2 (by decide) (by decide) (by decide) (by decide)) fi53 rfl) rfl ⟨rfl, rfl, rfl, rfl, trivial⟩ trivial trivial (RGon rfl rfl (xa0 (xh8 8 12 0 1 (by decide) (by decide) (by decide) (by decide)) fi53 rfl) rfl ⟨rfl, rfl, rfl, rfl, trivial⟩ trivial trivial (RGon rfl rfl (xa0 (xh8 12 30 1 1 (by decide) (by decide) (by decide) (by decide)) fi53 rfl) rfl ⟨rfl, rfl, rfl, rfl, trivial⟩ trivial trivial ?_)))))))
 refine RGon rfl rfl (xf4 (n := 3) (f := tTs) [(⟨0, 8, xv 1 2⟩ : Tst), (⟨8, 12, xv 0 1⟩ : Tst), (⟨12, 30, xv 1 1⟩ : Tst)] Tryz.underlying88 el103 zf103 rfl (fun _ => inferInstance) rfl rfl rfl) rfl ⟨rfl, rfl, rfl, trivial⟩ trivial trivial (RGon rfl rfl (xa0 (c_steps [(⟨0, 8, xv 1 2⟩ : Tst), (⟨8, 12, xv 0 1⟩ : Tst), (⟨12, 30, xv 1 1⟩ : Tst)]) fi52 rfl) rfl ⟨rfl, trivial⟩ trivial trivial (RGon rfl rfl (d_callF (c_sameTv _ _ exJB) fi62 rfl) rfl ⟨rfl, rfl, rfl, trivial⟩ trivial trivial (RGon rfl rfl xe7 rfl ⟨rfl, trivial⟩ trivial trivial (R2 (xa7 rfl) rfl rfl (R1 x4 rfl (RGon rfl rfl x4 rfl ⟨rfl, trivial⟩ trivial trivial (RGon rfl rfl x4 rfl ⟨rfl, trivial⟩ trivial trivial ?_)))))))
 refine RGon rfl rfl (xa0 (xh8 0 12 1 2 (by decide) (by decide) (by decide) (by decide)) fi53 rfl) rfl ⟨rfl, rfl, rfl, rfl, trivial⟩ trivial trivial (RGon rfl rfl (xa0 (xh8 12 30 1 1 (by decide) (by decide) (by decide) (by decide)) fi53 rfl) rfl ⟨rfl, rfl, rfl, rfl, trivial⟩ trivial trivial (RGon rfl rfl (xf4 (n := 2) (f := tTs) [(⟨0, 12, xv 1 2⟩ : Tst), (⟨12, 30, xv 1 1⟩ : Tst)] Tryz.underlying88 el103 zf103 rfl (fun _ => inferInstance) rfl rfl rfl) rfl ⟨rfl, rfl, trivial⟩ trivial trivial (RGon rfl rfl (xa0 (c_steps [(⟨0, 12, xv 1 2⟩ : Tst), (⟨12, 30, xv 1 1⟩ : Tst)]) fi52 rfl) rfl ⟨rfl, trivial⟩ trivial trivial (RGon rfl rfl (d_callF (c_sameTv _ _ exJC) fi62 rfl) rfl ⟨rfl, rfl, rfl, trivial⟩ trivial trivial (RGon rfl rfl xe7 rfl ⟨rfl, trivial⟩ trivial trivial (R2 (xa7 rfl) rfl rfl (x7 (by kernel_rfl) ?_)))))))
 refine x3 (C_bF rfl rfl (xa4 (x3 (x6 ?_))))
 refine x8 ?_
 refine R1 x4 rfl (R1 (xa0 (c_ChangesG (l := exA) exA_ok (by decide)) fi63 rfl) rfl (R3 (xf4 (n := 3) (f := fun n : Int => tI n) [0, 10, 30] Tryz.underlying23 el3 zf3 rfl (fun _ => inferInstance) rfl rfl rfl) rfl rfl rfl (R2 (xa0 (c_sameIv _ _ exCh) fi13 rfl) rfl rfl (R1 x4 rfl (RGon rfl rfl x4 rfl ⟨rfl, trivial⟩ trivial trivial (RGon rfl rfl (xa0 (c_CoversG (l := exA) exA_ok (by decide)) fi64 rfl) rfl ⟨rfl, trivial⟩ trivial trivial (RGon rfl rfl (xe0 (r := tS [⟨1, false, tI 0⟩, ⟨1, false, tI 30⟩]) (ts := [(0, tI 0), (1, tI 30)]) bu99 zr99.2 ⟨_, rfl⟩ rfl ⟨_, _, _, _, rfl, Up.f (fs := [⟨1, false, (tE (.int .i64 0))⟩, ⟨1, false, (tE (.int .i64 0))⟩]) (f := ⟨1, false, (tE (.int .i64 0))⟩) (fs' := [⟨1, false, tI 0⟩, ⟨1, false, (tE (.int .i64 0))⟩]) 0 rfl rfl rfl, inferInstance, ⟨_, _, _, _, rfl, Up.f (fs := [⟨1, false, tI 0⟩, ⟨1, false, (tE (.int .i64 0))⟩]) (f := ⟨1, false, (tE (.int .i64 0))⟩) (fs' := [⟨1, false, tI 0⟩, ⟨1, false, tI 30⟩]) 1 rfl rfl rfl, inferInstance, Le.refl⟩⟩) rfl ⟨rfl, rfl, trivial⟩ trivial trivial ?_)))))))
 refine RGon rfl rfl (xf4 (n := 1) (f := tSn) [(⟨0, 30⟩ : Sn)] Tryz.underlying93 el99 zf99 rfl (fun _ => inferInstance) rfl rfl rfl) rfl ⟨rfl, trivial⟩ trivial trivial (RGon rfl rfl (xa0 (c_sameSv _ _ exCv) fi50 rfl) rfl ⟨rfl, rfl, trivial⟩ trivial trivial (R2 (xa8 rfl) rfl rfl (R1 x4 rfl (RGon rfl rfl x4 rfl ⟨rfl, trivial⟩ trivial trivial (RGon rfl rfl (xe0 (r := tS [⟨1, false, tI 12⟩, ⟨1, false, tI 30⟩]) (ts := [(0, tI 12), (1, tI 30)]) bu99 zr99.2 ⟨_, rfl⟩ rfl ⟨_, _, _, _, rfl, Up.f (fs := [⟨1, false, (tE (.int .i64 0))⟩, ⟨1, false, (tE (.int .i64 0))⟩]) (f := ⟨1, false, (tE (.int .i64 0))⟩) (fs' := [⟨1, false, tI 12⟩, ⟨1, false, (tE (.int .i64 0))⟩]) 0 rfl rfl rfl, inferInstance, ⟨_, _, _, _, rfl, Up.f (fs := [⟨1, false, tI 12⟩, ⟨1, false, (tE (.int .i64 0))⟩]) (f := ⟨1, false, (tE (.int .i64 0))⟩) (fs' := [⟨1, false, tI 12⟩, ⟨1, false, tI 30⟩]) 1 rfl rfl rfl, inferInstance, Le.refl⟩⟩) rfl ⟨rfl, rfl, trivial⟩ trivial trivial (RGon rfl rfl (xf4 (n := 1) (f := tSn) [(⟨12, 30⟩ : Sn)] Tryz.underlying93 el99 zf99 rfl (fun _ => inferInstance) rfl rfl rfl) rfl ⟨rfl, trivial⟩ trivial trivial (RGon rfl rfl (xa0 (c_sameSv _ _ exDf) fi50 rfl) rfl ⟨rfl, rfl, trivial⟩ trivial trivial ?_)))))))
 refine R2 (xa8 rfl) rfl rfl (R1 x5 rfl (x7 (by kernel_rfl) (x3 (xa2 ?_))))
 exact xa3 Plain.mk' rfl rfl Le.refl
end An.S

/- Several results, of which some lead to own memory: a tuple of own values. For any program. -/
namespace An
open Go
/-- A part of a tuple, as what a slot holds. -/
def VP.ent : VP → Ent
  | .ty u => .val u
  | p => .own p
section
variable {P : Program} {c : Base} {g : Slots} {h : Keys} {al : Names} {d ty : Nat} {pos : String} {af : Array Edge} {gd : Option (Nat × Bool)}
end
end An

/- A call that is handed an own slice to read, and hands back a plain value: what is one's own stays so. For any program. -/
namespace An
open Go
section
variable {P : Program} {c : Base} {d ty : Nat} {pos : String} {af : Array Edge} {gd : Option (Nat × Bool)}
/-- Arguments: values, or the own slice. -/
def ArgsR (k es len : Nat) (t0 : Ty) : List Ent → List Ty → Prop
  | [], [] => True
  | e :: r, t :: s => (e = .val t ∨ (e = .own (.sl k es 0 len) ∧ t = t0)) ∧ ArgsR k es len t0 r s
  | _, _ => False
theorem ArgsR.all {g : Slots} {h : Keys} {al : Names} {a : Act} {w : World} {η : Env} {k T es len : Nat} {agg : Bool} {ts : List Ent} {α : Type} {f : α → Ty} {zs : List α} (st : St' c g h al a w η) (hk : h k = some ⟨T, es, agg, ts⟩) (hlb : NoLb c) (hts : (ts.drop 0).take len = zs.map fun x => .val (f x)) (hl : zs.length = len) :
    ∀ {xs : List Operand} {es' : List Ent} {us : List Ty}, Rd g (xs.zip es') → xs.length = us.length → ArgsR k es len (tL es agg f zs) es' us → Tup.all (c.dom (upd h k none) η) w us (xs.map a.eval)
  | [], _, [], _, _, _ => trivial
  | x :: xs, e :: es', u :: us, hr, hn, ha => by
    refine ⟨?_, ArgsR.all st hk hlb hts hl hr.2 (by simpa using hn) ha.2⟩
    rcases ha.1 with e1 | ⟨e1, e2⟩
    · subst e1
      exact (xc3 (st.drop k) hr.1).1
    · subst e1; subst e2
      exact st.give hk hlb hts hl (xc3 st hr.1).1
  | [], _, _ :: _, _, hn, _ => by simp at hn
  | _ :: _, _, [], _, hn, _ => by simp at hn
  | _ :: _, [], _ :: _, _, _, ha => ha.elim
end
end An

/- Slices behind which marks lie. For any program. -/
namespace An
open Go
/-- A slice of xs, and ms in its spare room. -/
def tLK {α : Type} (es : Nat) (agg : Bool) (f : α → Ty) (xs ms : List α) : Ty :=
  ⟨fun F w v => ∃ A c, v = .slice A xs.length c ∧ (tL es agg f (xs ++ ms)).p F w (.slice A (xs.length + ms.length) c), fun ⟨A, c, h1, h2⟩ hk => ⟨A, c, h1, (tL es agg f (xs ++ ms)).mono h2 hk⟩⟩
theorem tLK_le {α : Type} {es : Nat} {agg : Bool} {f : α → Ty} {xs ms : List α} : Le (tLK es agg f xs ms) (tL es agg f xs) := fun F w v ⟨A, c, h1, h2⟩ => by
  obtain ⟨A', c', e, h3, h4, h5⟩ := h2
  injection e with e1 e2 e3
  subst e1 e3
  refine ⟨A, c, h1, by simp at h3; omega, h4, ?_⟩
  rcases h5 with h5 | ⟨b, o, h6, h7, h8⟩
  · exact .inl (List.append_eq_nil_iff.1 h5).1
  · exact .inr ⟨b, o, h6, h7, fun i x hi => h8 i x (by rw [List.getElem?_append_left (List.getElem?_eq_some_iff.1 hi).1]; exact hi)⟩
instance {α : Type} {es : Nat} {agg : Bool} {f : α → Ty} {xs ms : List α} : Shape (tLK es agg f xs ms) 1 false := ⟨fun ⟨_, _, h, _⟩ => by rw [h]; exact xg1 rfl⟩
/-- Structs, field by field. -/
def LeFs : List Fd → List Fd → Prop
  | [], [] => True
  | f :: r, g :: s => (f.n = g.n ∧ f.agg = g.agg ∧ Le f.t g.t) ∧ LeFs r s
  | _, _ => False
theorem LeFs.sum : ∀ {fs gs : List Fd}, LeFs fs gs → Fd.sum fs = Fd.sum gs
  | [], [], _ => rfl
  | _ :: _, _ :: _, h => by rw [Fd.sum, Fd.sum, h.1.1, LeFs.sum h.2]
  | [], _ :: _, h => h.elim
  | _ :: _, [], h => h.elim
theorem LeFs.all {F : Dom} {w : World} {cs : Array Value} : ∀ {fs gs : List Fd} {o : Nat}, LeFs fs gs → Fd.all F w cs o fs → Fd.all F w cs o gs
  | [], [], _, _, h => h
  | f :: r, g :: s, o, h, ha => by
    obtain ⟨⟨h1, h2, h3⟩, h4⟩ := h
    refine ⟨⟨by rw [← h1, ← h2]; exact ha.1.1, by rw [← h1, ← h2]; exact h3 _ _ _ ha.1.2⟩, ?_⟩
    rw [← h1]; exact LeFs.all h4 ha.2
  | [], _ :: _, _, h, _ => h.elim
  | _ :: _, [], _, h, _ => h.elim
theorem Le.tS {fs gs : List Fd} (h : LeFs fs gs) : Le (tS fs) (tS gs) := fun _ _ _ ⟨cs, h1, h2, h3⟩ => ⟨cs, h1, h2.trans h.sum, h.all h3⟩
theorem add0 {A : Option Addr} {es : Nat} : A.map (·.add (0 * es)) = A := by cases A <;> simp [Addr.add]
section
variable {P : Program} {c : Base} {d ty : Nat} {pos : String} {af : Array Edge} {gd : Option (Nat × Bool)}
theorem d_lenK {T : TypeId} {x : Operand} {α : Type} {es : Nat} {agg : Bool} {f : α → Ty} {xs ms : List α} {E : TypeId} (hT : P.underlying T = some (.slice E)) :
    Does P c ⟨some d, .call { callee := .builtin .len, args := #[x], argTypes := #[T] }, ty, pos, af, gd⟩ ⟨[(x, .val (tLK es agg f xs ms))], [], some (d, some (.val (tI xs.length))), [], []⟩ :=
  Does.value rfl fun g h al a w η hrd _ s => by
    obtain ⟨A, cc, h1, _⟩ := (xc3 s hrd.1).1
    have h1 : a.eval x = .slice A xs.length cc := h1
    exact ⟨_, w, by simp only [execOp, resolve, invoke, builtin, List.map_toArray, List.map_cons, List.map_nil, h1]; simp [Builtin.len_, run_underlying hT, goInt, go_sem], Ext.refl w, rfl, fun k hk => by cases hk⟩
/-- What lies behind is looked at. -/
theorem d_sliceK {T E es : Nat} {agg : Bool} {α : Type} {f : α → Ty} {xs ms : List α} {x y : Operand} {v : Int} (sl : SlI P T E es agg) (hv : v = ((xs.length + ms.length : Nat) : Int)) :
    Does P c ⟨some d, .slice T x none (some y) none, ty, pos, af, gd⟩ ⟨[(x, .val (tLK es agg f xs ms)), (y, .val (tI v))], [], some (d, some (.val (tL es agg f (xs ++ ms)))), [], []⟩ := by
  subst hv
  exact Does.value rfl fun g h al a w η hrd _ s => by
    obtain ⟨A, cap, hA, hm⟩ := (xc3 s hrd.1).1
    have hA : a.eval x = .slice A xs.length cap := hA
    have hle : xs.length + ms.length ≤ cap := by
      obtain ⟨_, _, e, h1, _⟩ := hm
      injection e with e1 e2 e3
      subst e3; simpa using h1
    have hb := run_bounds' (P := P) (b := true) (len := xs.length) (cap := cap) s (lo := none) (hi := some y) (l := 0) (u := xs.length + ms.length) (fun _ => rfl) (fun h => by cases h) hrd.2 (Nat.zero_le _) hle
    simp only [Option.map_none] at hb
    refine ⟨.slice (if cap = 0 then A else A.map (·.add (0 * es))) (xs.length + ms.length - 0) (cap - 0), w, ?_, Ext.refl w, ?_, fun j hj => by cases hj⟩
    · simp only [execOp, hA, Instr.sliceAt, Sem.run_bind, run_underlying sl.und, Result.andThen_ok, Instr.slice, Option.map_none, hb, sl.el.size_run w, Sem.run_pure]
    · have e : (if cap = 0 then A else A.map (·.add (0 * es))) = A := by
        split
        · rfl
        · exact add0
      rw [e]; exact hm
/-- An own slice is handed out, with marks behind. -/
theorem d_keepO {T T0 E es k n : Nat} {agg : Bool} {α : Type} {f : α → Ty} {xs ms : List α} {ts : List Ent} {x y : Operand} {v : Int} (sl : SlI P T E es agg) (hlb : NoLb c) (hts : ts = (xs ++ ms).map fun x => .val (f x)) (hn : n = xs.length + ms.length) (hv : v = (xs.length : Int)) :
    Does P c ⟨some d, .slice T x none (some y) none, ty, pos, af, gd⟩ ⟨[(x, .own (.sl k es 0 n)), (y, .val (tI v))], [(k, ⟨T0, es, agg, ts⟩)], some (d, some (.val (tLK es agg f xs ms))), [(k, none)], []⟩ := by
  subst hv hn hts
  exact Does.give rfl fun g h al a w η hrd hk s => by
    have hx := (xc3 s hrd.1).1
    have hp := s.give (xs := xs ++ ms) (f := f) hk hlb (by rw [List.drop_zero, List.take_of_length_le (by simp)]) (by simp) hx
    obtain ⟨A, hA, hcap, hadr⟩ := hx
    have hA : a.eval x = .slice A (xs.length + ms.length) (η.c k - 0) := hA
    have hb := run_bounds' (P := P) (b := true) (len := xs.length + ms.length) (cap := η.c k - 0) s (lo := none) (hi := some y) (l := 0) (u := xs.length) (fun _ => rfl) (fun h => by cases h) hrd.2 (Nat.zero_le _) (by omega)
    simp only [Option.map_none] at hb
    refine ⟨.slice (if η.c k - 0 = 0 then A else A.map (·.add (0 * es))) (xs.length - 0) (η.c k - 0 - 0), ?_, A, η.c k - 0, ?_, by rw [← hA]; exact hp⟩
    · simp only [execOp, hA, Instr.sliceAt, Sem.run_bind, run_underlying sl.und, Result.andThen_ok, Instr.slice, Option.map_none, hb, sl.el.size_run w, Sem.run_pure]
    · have e : (if η.c k - 0 = 0 then A else A.map (·.add (0 * es))) = A := by
        split
        · rfl
        · exact add0
      rw [e]; rfl
end
end An
