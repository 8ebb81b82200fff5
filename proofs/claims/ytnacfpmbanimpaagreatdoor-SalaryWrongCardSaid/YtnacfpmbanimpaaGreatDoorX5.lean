/- Part 5 of a proof: Tl3, S8, Sv, Tv, Tv2, Tv3, LibZd, Tw, LibZf, P1, Gs, Tx, Chg, Chg2a, Ty, LibZc, P2, LibZg, P3, P4, Q2, Sal, Q3, Q4, Q5, Q6, Q7. -/
import Derived.Shelf.Sort.Plain
import Derived.Shelf.Slices.In.SortNone
import Derived.Shelf.Slices.CompactI
import Derived.Test.YtnacfpmbanimpaaGreatDoorX4
/- Layer 5: parts of timelines, and sums. Plain data. -/
namespace An
open Go
theorem pst_all {P : Tst → Prop} (hset : ∀ a s, P a → P s → a.hi = s.lo → P ⟨a.lo, s.hi, a.v⟩) : ∀ (ps acc : List Tst), (∀ s ∈ acc, P s) → (∀ s ∈ ps, s.lo < s.hi → P s) → ∀ s ∈ pst acc ps, P s
  | [], acc, ha, _ => ha
  | s :: r, acc, ha, hp => by
    refine pst_all hset r (pst1 acc s) ?_ fun x hx => hp x (List.mem_cons_of_mem _ hx)
    intro x hx
    rw [pst1] at hx
    split at hx
    · exact ha x hx
    · rename_i h1
      split at hx
      · rename_i h2
        rcases List.mem_or_eq_of_mem_set hx with h | h
        · exact ha x h
        · subst h
          exact hset _ s (ha _ (xe6 (by omega))) (hp s (List.mem_cons_self ..) (by omega)) h2.2.1
      · rcases List.mem_append.1 hx with h | h
        · exact ha x h
        · rw [List.mem_singleton.1 h]; exact hp s (List.mem_cons_self ..) (by omega)
theorem tRight_at {l : List Tst} (h : tRight l = true) {i : Nat} (hi : i < l.length) : 0 ≤ (l.getD i tst0).lo ∧ (l.getD i tst0).lo < (l.getD i tst0).hi ∧ (l.getD i tst0).hi ≤ 65536 ∧ (i = 0 ∨ (l.getD (i - 1) tst0).hi ≤ (l.getD i tst0).lo ∧ (l.getD (i - 1) tst0).v.kind = (l.getD i tst0).v.kind ∧ ¬ ((l.getD (i - 1) tst0).hi = (l.getD i tst0).lo ∧ (l.getD (i - 1) tst0).v = (l.getD i tst0).v)) := by
  simp only [tRight, Bool.and_eq_true, List.all_eq_true] at h
  exact tOk_iff.1 (h.1 i (List.mem_range.2 hi))
theorem kind_at {l : List Tst} (h : tRight l = true) : ∀ {i : Nat}, i < l.length → (l.getD i tst0).v.kind = (l.getD 0 tst0).v.kind
  | 0, _ => rfl
  | i + 1, hi => by
    rcases (tRight_at h hi).2.2.2 with h0 | h0
    · omega
    · rw [← h0.2.1]; exact kind_at h (by omega)
theorem exists_getD {l : List Tst} {s : Tst} (hs : s ∈ l) : ∃ i, i < l.length ∧ s = l.getD i tst0 := by
  obtain ⟨i, hi, e⟩ := List.getElem_of_mem hs
  exact ⟨i, hi, by rw [List.getD_eq_getElem?_getD, List.getElem?_eq_getElem hi]; exact e.symm⟩
/-- A step of numbers. -/
def sNum (s : Tst) : Prop := 0 ≤ s.lo ∧ s.lo < s.hi ∧ s.hi ≤ 65536 ∧ s.v.f = fr s.v.f.rat ∧ short s.v.f.rat
def numK (l : List Tst) : Prop := l.length = 0 ∨ (l.getD 0 tst0).v.kind = 2 ∨ (l.getD 0 tst0).v.kind = 3
instance (l : List Tst) : Decidable (numK l) := inferInstanceAs (Decidable (_ ∨ _))
theorem num_fr {v : Va} (hv : v.valid = true) (hD : v.f.dig) (hk : v.kind = 2 ∨ v.kind = 3) : v.f = fr v.f.rat ∧ short v.f.rat := by
  rw [Va.valid, if_pos hk, Bool.and_eq_true] at hv
  exact Fr.of_valid' hD hv.2
theorem num_mem {l : List Tst} (h : tRight l = true) (hD : ∀ s ∈ l, s.v.f.dig) (hk : numK l) {s : Tst} (hs : s ∈ l) : sNum s := by
  obtain ⟨i, hi, rfl⟩ := exists_getD hs
  have h1 := tRight_at h hi
  have h2 := kind_at h hi
  have h3 := num_fr (tRight_valid h _ hs) (hD _ hs) (by rw [h2]; rcases hk with h0 | h0; omega; exact h0)
  exact ⟨h1.1, h1.2.1, h1.2.2.1, h3⟩
theorem cut_num {l : List Tst} {a b : Int} (h : tRight l = true) (hD : ∀ s ∈ l, s.v.f.dig) (hk : numK l) : ∀ s ∈ cutT l a b, sNum s := by
  refine pst_all (P := sNum) (fun x s hx hs e => ⟨hx.1, by have := hx.2.1; have := hs.2.1; dsimp only; omega, hs.2.2.1, hx.2.2.2⟩) _ _ (fun s hs => by cases hs) fun s hs hlt => ?_
  obtain ⟨x, hx, rfl⟩ := List.mem_map.1 hs
  have h1 := num_mem h hD hk hx
  simp only [clip] at hlt
  refine ⟨?_, hlt, ?_, h1.2.2.2⟩
  · have := h1.1; simp only [clip]; omega
  · have := h1.2.2.1; simp only [clip]; omega
/-- The sum of the days' values. -/
def sumStep : Option Rat → Tst → Option Rat
  | none, _ => none
  | some q, s => if short (s.v.f.rat * ((s.hi - s.lo : Int) : Rat)) ∧ short (q + s.v.f.rat * ((s.hi - s.lo : Int) : Rat)) then some (q + s.v.f.rat * ((s.hi - s.lo : Int) : Rat)) else none
def sumT (l : List Tst) : Option Rat := l.foldl sumStep (some ((0 : Int) : Rat))
theorem sum_next {l : List Tst} {i : Nat} (hi : i < l.length) : sumT (l.take (i + 1)) = sumStep (sumT (l.take i)) (l.getD i tst0) := by
  rw [List.take_succ_eq_append_getElem hi, sumT, List.foldl_append, List.getD_eq_getElem?_getD, List.getElem?_eq_getElem hi]; rfl
theorem sum_none : ∀ l : List Tst, l.foldl sumStep none = none
  | [] => rfl
  | _ :: r => sum_none r
theorem sum_stop {l : List Tst} {i : Nat} (h : sumT (l.take i) = none) : sumT l = none := by
  rw [sumT, ← List.take_append_drop i l, List.foldl_append]
  rw [sumT] at h; rw [h]; exact sum_none _
def sumF : Option Rat → Fr
  | some q => fr q
  | none => fr0
def sumE : Option Rat → Int
  | some _ => 0
  | none => 3
def sumC (l : List Tst) (a b : Int) : Prop := (tRight l = true ∧ Sn.ok ⟨a, b⟩ = true) ∧ numK l
instance (l : List Tst) (a b : Int) : Decidable (sumC l a b) := inferInstanceAs (Decidable (_ ∧ _))
theorem resFE_zero {q : Rat} (h : resFE q = 0) : short q := by
  rw [resFE] at h; split at h
  · assumption
  · cases h
theorem resFE_not {q : Rat} (h : ¬ resFE q = 0) : ¬ short q := fun hs => h (if_pos hs)
end An

/- Layer 5: sums. -/
namespace An.S
open Go Go.Proofs An
set_option maxHeartbeats 2000000
theorem fi18 : FnI Tryz.prog 18 := ⟨_, Tryz.func18, by kernel_rfl, rfl⟩
theorem fi19 : FnI Tryz.prog 19 := ⟨_, Tryz.func19, by kernel_rfl, rfl⟩
theorem fi29 : FnI Tryz.prog 29 := ⟨_, Tryz.func29, by kernel_rfl, rfl⟩
theorem fi65 : FnI Tryz.prog 65 := ⟨_, Tryz.func65, by kernel_rfl, rfl⟩
theorem c_FMulT (f : Fr) (n : Int) (hf : f = fr f.rat) (hs : short f.rat) (hn : short (n : Rat)) : Ct Tryz.prog 18 [tFr f, tFr (fr (n : Rat))] (tT [tFr (resF (f.rat * (n : Rat))), tI (resFE (f.rat * (n : Rat)))]) := by
  have h := c_FMul f.rat n hs hn
  rw [← hf] at h; exact h
theorem c_FAddR (q p : Rat) (hq : short q) (hp : short p) : Ct Tryz.prog 19 [tFr (fr q), tFr (resF p)] (tT [tFr (resF (q + p)), tI (resFE (q + p))]) := by
  rw [show resF p = fr p from if_pos hp]; exact c_FAdd q p hq hp
theorem c_TSum (l : List Tst) (a b : Int) (hl : l.length ≤ 500000) (hD : ∀ s ∈ l, s.v.f.dig) :
  Ct Tryz.prog 63 [tL 8 true tTs l, tI a, tI b] (tT [tFr (if sumC l a b then sumF (sumT (cutT l a b)) else fr0), tI (if sumC l a b then sumE (sumT (cutT l a b)) else 2)]) := by
 have hcut := c_Cut l a b hl hD
 obtain ⟨part, hpart⟩ : ∃ p : List Tst, p = (if (tRight l = true ∧ Sn.ok ⟨a, b⟩ = true) then cutT l a b else []) := ⟨_, rfl⟩
 obtain ⟨er, her⟩ : ∃ e : Int, e = (if (tRight l = true ∧ Sn.ok ⟨a, b⟩ = true) then 0 else 2) := ⟨_, rfl⟩
 rw [← hpart, ← her] at hcut
 refine Ct.intro Tryz.func63 rfl Tryz.ntmps63 rfl ?_
 intro w F
 refine x6 ?_
 refine x8 ?_
 refine RE (xb4 (k := 6) (n := 4) (agg := true) zr31.1 zr31.2 rfl) trivial trivial ⟨rfl, trivial⟩ (R1 x5 rfl (x7 (by kernel_rfl) (x4 (x6 ?_))))
 refine x8 ?_
 refine R1 x3 rfl (R1 x3 rfl (R1 x3 rfl (R3 (xa0 hcut fi29 rfl) rfl rfl rfl (R1 x3 rfl (R1 (xa2 rfl) rfl (R1 (xa2 rfl) rfl (R1 x5 rfl ?_)))))))
 refine R1 x5 rfl (x7 (by kernel_rfl) (x4 (x6 (x6 ?_))))
 refine x8 ?_
 refine R1 x3 rfl (R2 xf9 rfl rfl (x7 (by kernel_rfl) (x4 ?_)))
 refine xc0 rfl (fun h181 => ?_) (fun h181 => ?_)
 ·
  have hb0 : ¬ (tRight l = true ∧ Sn.ok ⟨a, b⟩ = true) := fun h => h181 (by rw [her, if_pos h])
  have hb : ¬ sumC l a b := fun h => hb0 h.1
  refine x6 ?_
  refine x8 ?_
  refine R0 (xc8 (r := tS [⟨2, true, (tS [⟨1, false, (tE (.bool false))⟩, ⟨1, false, (tLm [])⟩])⟩, ⟨2, true, (tS [⟨1, false, (tE (.bool false))⟩, ⟨1, false, (tLm [])⟩])⟩]) (ts := []) bu31 zr31.2 ⟨_, rfl⟩ rfl Le.refl)  (R1 x3 rfl (RE (xa3 (es := 4) (agg := true) (0) ti31 rfl rfl rfl) ⟨rfl, rfl, trivial⟩ ⟨rfl, trivial⟩ trivial (R1 x5 rfl (x7 (by kernel_rfl) (x4 (xa1 (xa7 ?_)))))))
  exact xf1 Plain.mk' (rs := [.cell 6 31, .tmp 7]) rfl rfl ⟨⟨_, _, _, _, _, rfl, rfl, ti31, (Le.of (by rw [if_neg hb]; rfl))⟩, ⟨_, rfl, (Le.int (by rw [if_neg hb, her, if_neg hb0]))⟩, trivial⟩
 ·
  have hok : (tRight l = true ∧ Sn.ok ⟨a, b⟩ = true) := Classical.byContradiction fun h => h181 (by rw [her, if_neg h]; decide)
  refine xa5 (x4 ?_)
  refine C_join (fun (_j : Unit) => numK l) (fun (_j : Unit) => upd (upd (fun _ => none) 6 (some (.own (.ptr 6 0)))) 8 (some (.val (tL 8 true tTs part)))) (fun (_j : Unit) => upd (fun _ => none) 6 (some (⟨31, 4, true, [.val (tFr fr0)]⟩))) (nm [6]) ?_ ?_
  ·
   refine x6 ?_
   refine x8 ?_
   refine R1 x3 rfl (R1 (xc4 Tryz.underlying24) rfl (R2 d_gtr rfl rfl (R1 x3 rfl ?_)))
   refine RGcaseD (t := 29) rfl (fun h184 => ?_) (fun h184 => ?_)
   ·
    refine RGon (decide_eq_true h184) rfl x3 rfl ⟨rfl, trivial⟩ trivial trivial (RGon (decide_eq_true h184) rfl (xb9 sl24 (0) (by omega) (gD (l := l) (n := 0) (d := tst0) (by omega))) rfl ⟨rfl, rfl, trivial⟩ trivial trivial (RGon (decide_eq_true h184) rfl (xh4 fo41_2 (At.f 2 rfl rfl) rfl) rfl ⟨rfl, trivial⟩ trivial trivial (RGon (decide_eq_true h184) rfl (xh4 fo39_0 (At.f 0 rfl rfl) rfl) rfl ⟨rfl, trivial⟩ trivial trivial (RGon (decide_eq_true h184) rfl (xc5 ti5) rfl ⟨rfl, trivial⟩ trivial trivial (RGon (decide_eq_true h184) rfl xf9 rfl ⟨rfl, rfl, trivial⟩ trivial trivial (R2 (xb2 (decide_eq_true h184)) rfl rfl (R1 x3 rfl ?_)))))))
    refine RGcaseD (t := 37) rfl (fun h184_2 => ?_) (fun h184_2 => ?_)
    ·
     refine RGon (decide_eq_true h184_2) rfl x3 rfl ⟨rfl, trivial⟩ trivial trivial (RGon (decide_eq_true h184_2) rfl (xb9 sl24 (0) (by omega) (gD (l := l) (n := 0) (d := tst0) (by omega))) rfl ⟨rfl, rfl, trivial⟩ trivial trivial (RGon (decide_eq_true h184_2) rfl (xh4 fo41_2 (At.f 2 rfl rfl) rfl) rfl ⟨rfl, trivial⟩ trivial trivial (RGon (decide_eq_true h184_2) rfl (xh4 fo39_0 (At.f 0 rfl rfl) rfl) rfl ⟨rfl, trivial⟩ trivial trivial (RGon (decide_eq_true h184_2) rfl (xc5 ti5) rfl ⟨rfl, trivial⟩ trivial trivial (RGon (decide_eq_true h184_2) rfl xf9 rfl ⟨rfl, rfl, trivial⟩ trivial trivial (R2 (xb2 (decide_eq_true h184_2)) rfl rfl (x7 (by kernel_rfl) ?_)))))))
     refine x4 ?_
     refine xc0 rfl (fun h184_3 => ?_) (fun h184_3 => ?_)
     ·
      refine x6 ?_
      refine x8 ?_
      refine R0 (xc8 (r := tS [⟨2, true, (tS [⟨1, false, (tE (.bool false))⟩, ⟨1, false, (tLm [])⟩])⟩, ⟨2, true, (tS [⟨1, false, (tE (.bool false))⟩, ⟨1, false, (tLm [])⟩])⟩]) (ts := []) bu31 zr31.2 ⟨_, rfl⟩ rfl Le.refl)  (RE (xa3 (es := 4) (agg := true) (0) ti31 rfl rfl rfl) ⟨rfl, rfl, trivial⟩ ⟨rfl, trivial⟩ trivial (R1 x5 rfl (x7 (by kernel_rfl) (x4 (xa1 (xa7 ?_))))))
      exact xf1 Plain.mk' (rs := [.cell 6 31, .tmp 7]) rfl rfl ⟨⟨_, _, _, _, _, rfl, rfl, ti31, (Le.of (by rw [if_neg (fun h => by have := h.2; simp only [numK] at this; omega)]; rfl))⟩, ⟨_, rfl, (Le.int (by rw [if_neg (fun h => by have := h.2; simp only [numK] at this; omega)]))⟩, trivial⟩
     ·
      refine xa5 ?_
      exact xc2 (()) (by simp only [numK]; omega) (Sub.cons rfl (Sub.cons rfl Sub.nil)) ((SubK.consI rfl ImpK.refl) SubK.nil) (SupG.val (SupG.own rfl SupG.nil)) (SupH.cons rfl (supJL rfl) SupH.nil) (lkOk rfl)
    ·
     refine RGoff (decide_eq_false h184_2) rfl rfl (RGoff (decide_eq_false h184_2) rfl rfl (RGoff (decide_eq_false h184_2) rfl rfl (RGoff (decide_eq_false h184_2) rfl rfl (RGoff (decide_eq_false h184_2) rfl rfl (RGoff (decide_eq_false h184_2) rfl rfl (R2 (xb0 (decide_eq_false h184_2)) rfl rfl (x7 (by kernel_rfl) ?_)))))))
     refine x4 (C_bF rfl rfl (xa5 ?_))
     exact xc2 (()) (by simp only [numK]; omega) (Sub.cons rfl (Sub.cons rfl Sub.nil)) ((SubK.consI rfl ImpK.refl) SubK.nil) (SupG.val (SupG.own rfl SupG.nil)) (SupH.cons rfl (supJL rfl) SupH.nil) (lkOk rfl)
   ·
    refine RGoff (decide_eq_false h184) rfl rfl (RGoff (decide_eq_false h184) rfl rfl (RGoff (decide_eq_false h184) rfl rfl (RGoff (decide_eq_false h184) rfl rfl (RGoff (decide_eq_false h184) rfl rfl (RGoff (decide_eq_false h184) rfl rfl (R2 (xb0 (decide_eq_false h184)) rfl rfl (R1 x3 rfl ?_)))))))
    refine RGoff0 rfl rfl (RGoff0 rfl rfl (RGoff0 rfl rfl (RGoff0 rfl rfl (RGoff0 rfl rfl (RGoff0 rfl rfl (R2 (xb0 rfl) rfl rfl (x7 (by kernel_rfl) ?_)))))))
    refine x4 (C_bF rfl rfl (xa5 ?_))
    exact xc2 (()) (by simp only [numK]; omega) (Sub.cons rfl (Sub.cons rfl Sub.nil)) ((SubK.consI rfl ImpK.refl) SubK.nil) (SupG.val (SupG.own rfl SupG.nil)) (SupH.cons rfl (supJL rfl) SupH.nil) (lkOk rfl)
  ·
   intro _j hnk
   refine x6 ?_
   refine x8 ?_
   refine R1 (xa0 (c_FFromInt 0 (by decide) (by decide)) fi65 rfl) rfl (RE (xb4 (k := 10) (n := 4) (agg := true) zr31.1 zr31.2 rfl) trivial trivial ⟨rfl, trivial⟩ (RE (xa3 (es := 4) (agg := true) (0) ti31 rfl rfl rfl) ⟨rfl, rfl, trivial⟩ ⟨rfl, trivial⟩ trivial (x7 (by kernel_rfl) (x4 (x6 (x6 ?_))))))
   refine x8 ?_
   refine R1 x3 rfl (R1 (xc4 Tryz.underlying24) rfl (R1 x3 rfl (x7 (by kernel_rfl) (x4 (xb3 ?_)))))
   have hc : sumC l a b := ⟨hok, hnk⟩
   have hnum := cut_num (a := a) (b := b) hok.1 hD hc.2
   rw [if_pos hok] at hpart
   rw [← hpart] at hnum
   refine C_len (s := 47) rfl (fun hl0 => ?_)
   refine xe1 (fun (fm : (Nat) × (Rat)) => (fun (i : Nat) (q : Rat) => i ≤ part.length ∧ sumT (part.take i) = some q ∧ short q) fm.1 fm.2) (fun (fm : (Nat) × (Rat)) => (fun (i : Nat) (q : Rat) => upd (upd (upd (upd (upd (fun _ => none) 6 (some (.own (.ptr 6 0)))) 10 (some (.own (.ptr 10 0)))) 47 (some (.val (tL 8 true tTs part)))) 48 (some (.val (tI part.length)))) 49 (some (.val (tI i)))) fm.1 fm.2) (fun (fm : (Nat) × (Rat)) => (fun (i : Nat) (q : Rat) => upd (upd (fun _ => none) 6 (some (⟨31, 4, true, [.val (tFr fr0)]⟩))) 10 (some (⟨31, 4, true, [.val (tFr (fr q))]⟩))) fm.1 fm.2) (nm [6, 10]) (fun (fm : (Nat) × (Rat)) => (fun (i : Nat) (q : Rat) => part.length - i) fm.1 fm.2) ((0, ((0 : Int) : Rat))) (by dsimp only; exact ⟨Nat.zero_le _, rfl, short_int (Nat.le_trans (len16_64 (by decide) (by decide)) (by decide))⟩) (Sub.int rfl (by first | omega | rfl | (dsimp only; omega)) (Sub.int rfl (by first | omega | rfl | (dsimp only; omega)) (Sub.cons rfl (Sub.cons rfl (Sub.cons rfl Sub.nil))))) ((SubK.consI rfl ImpK.refl) ((SubK.consI rfl ImpK.refl) SubK.nil)) (SupG.val (SupG.val (SupG.val (SupG.own rfl (SupG.own rfl SupG.nil))))) (SupH.cons rfl (supJL rfl) (SupH.cons rfl (supJL rfl) SupH.nil)) (lkOk rfl) ?_
   intro fm hI
   obtain ⟨i, q⟩ := fm
   replace hI : i ≤ part.length ∧ sumT (part.take i) = some q ∧ short q := hI
   show wc _ _ _ _ (upd (upd (upd (upd (upd (fun _ => none) 6 (some (.own (.ptr 6 0)))) 10 (some (.own (.ptr 10 0)))) 47 (some (.val (tL 8 true tTs part)))) 48 (some (.val (tI part.length)))) 49 (some (.val (tI i)))) (upd (upd (fun _ => none) 6 (some (⟨31, 4, true, [.val (tFr fr0)]⟩))) 10 (some (⟨31, 4, true, [.val (tFr (fr q))]⟩))) _
   obtain ⟨hi, hq, hs⟩ := hI
   refine x6 ?_
   refine x8 ?_
   refine R2 xd8 rfl rfl (x7 (by kernel_rfl) (x4 (x6 ?_)))
   refine xc0 rfl (fun h188 => ?_) (fun h188 => ?_)
   ·
    refine xa5 (x4 (x6 (xb3 (x6 ?_))))
    refine x8 ?_
    obtain ⟨n1, n2, n3, n4, n5⟩ := hnum _ (xe6 (l := part) (i := i) (by omega))
    refine R2 (xb9 sl24 (i) (by omega) (gD (l := part) (n := i) (d := tst0) (by omega))) rfl rfl (R1 (xc5 ti41) rfl (RE (xb4 (k := 12) (n := 8) (agg := true) zr41.1 zr41.2 rfl) trivial trivial ⟨rfl, trivial⟩ (RE (xa3 (es := 8) (agg := true) (0) ti41 rfl rfl rfl) ⟨rfl, rfl, trivial⟩ ⟨rfl, trivial⟩ trivial (x7 (by kernel_rfl) (x4 (x6 ?_))))))
    refine xd5 mixed ?_
    refine R1 (x9 fo41_2 rfl) rfl (R1 (x9 fo39_1 rfl) rfl (xa6 (0) ti31 rfl rfl rfl (At.t (At.g 2 rfl rfl) (At.g 1 rfl rfl)) rfl (R1 (x9 fo41_1 rfl) rfl (xa6 (0) ti3 rfl rfl rfl (At.g 1 rfl rfl) rfl (R1 (x9 fo41_0 rfl) rfl (xa6 (0) ti3 rfl rfl rfl (At.g 0 rfl rfl) rfl (R2 (xd9 (wr64 (by omega) (by omega))) rfl rfl ?_)))))))
    refine R1 (xa0 (c_FFromInt ((part.getD i tst0).hi - (part.getD i tst0).lo) (by omega) (by omega)) fi65 rfl) rfl (R2 (xa0 (c_FMulT (part.getD i tst0).v.f ((part.getD i tst0).hi - (part.getD i tst0).lo) n4 n5 (short_int (Nat.le_trans (len16_64 (by omega) (by omega)) (by decide)))) fi18 rfl) rfl rfl (R1 x3 rfl (R1 (xa2 rfl) rfl (R1 (xa2 rfl) rfl (RE (xb4 (k := 13) (n := 4) (agg := true) zr31.1 zr31.2 rfl) trivial trivial ⟨rfl, trivial⟩ (RE (xa3 (es := 4) (agg := true) (0) ti31 rfl rfl rfl) ⟨rfl, rfl, trivial⟩ ⟨rfl, trivial⟩ trivial (R1 x5 rfl ?_)))))))
    refine xd6 (by kernel_rfl) (x4 (x6 (x6 ?_)))
    refine x8 ?_
    refine R1 x3 rfl (R2 xe3 rfl rfl (x7 (by kernel_rfl) (x4 ?_)))
    refine xc0 rfl (fun h190 => ?_) (fun h190 => ?_)
    ·
     have hp := resFE_zero h190
     refine x8 ?_
     refine RE (xa8 (0) ti31 rfl rfl) ⟨rfl, trivial⟩ ⟨rfl, trivial⟩ trivial (RE (xa8 (0) ti31 rfl rfl) ⟨rfl, trivial⟩ ⟨rfl, trivial⟩ trivial (R2 (xa0 (c_FAddR q ((part.getD i tst0).v.f.rat * (((part.getD i tst0).hi - (part.getD i tst0).lo : Int) : Rat)) hs hp) fi19 rfl) rfl rfl (R1 x3 rfl (R1 (xa2 rfl) rfl (R1 (xa2 rfl) rfl (RE (xa3 (es := 4) (agg := true) (0) ti31 rfl rfl rfl) ⟨rfl, rfl, trivial⟩ ⟨rfl, trivial⟩ trivial (R1 x5 rfl ?_)))))))
     refine x7 (by kernel_rfl) (x4 (x6 ?_))
     refine x8 ?_
     refine R1 x3 rfl (R2 xf9 rfl rfl (x7 (by kernel_rfl) (x4 ?_)))
     refine xc0 rfl (fun h193 => ?_) (fun h193 => ?_)
     ·
      refine x6 ?_
      refine x8 ?_
      refine R0 (xc8 (r := tS [⟨2, true, (tS [⟨1, false, (tE (.bool false))⟩, ⟨1, false, (tLm [])⟩])⟩, ⟨2, true, (tS [⟨1, false, (tE (.bool false))⟩, ⟨1, false, (tLm [])⟩])⟩]) (ts := []) bu31 zr31.2 ⟨_, rfl⟩ rfl Le.refl)  (R1 x3 rfl (RE (xa3 (es := 4) (agg := true) (0) ti31 rfl rfl rfl) ⟨rfl, rfl, trivial⟩ ⟨rfl, trivial⟩ trivial (R1 x5 rfl (x7 (by kernel_rfl) (x4 (xa1 (xc6 ?_)))))))
      refine xa7 (xa7 (xc6 (xa7 ?_)))
      exact xf1 Plain.mk' (rs := [.cell 6 31, .tmp 7]) rfl rfl ⟨⟨_, _, _, _, _, rfl, rfl, ti31, (Le.of (by rw [if_pos hc, ← hpart, sum_stop (i := i + 1) (by rw [sum_next (by omega), hq, sumStep, if_neg (fun h => resFE_not h193 h.2)])]; rfl))⟩, ⟨_, rfl, (Le.int (by rw [if_pos hc, ← hpart, sum_stop (i := i + 1) (by rw [sum_next (by omega), hq, sumStep, if_neg (fun h => resFE_not h193 h.2)]), resFE, if_neg (resFE_not h193)]; rfl))⟩, trivial⟩
     ·
      have h193z := Decidable.not_not.1 h193
      refine xa5 (xc1 (x4 ?_))
      refine x8 ?_
      refine R2 (xb6 (wr64 (by omega) (by omega))) rfl rfl (R1 x3 rfl (x7 (by kernel_rfl) ?_))
      exact xc2 ((i + 1, q + ((part.getD i tst0).v.f.rat * (((part.getD i tst0).hi - (part.getD i tst0).lo : Int) : Rat)))) ⟨(by dsimp only; exact ⟨by omega, by rw [sum_next (by omega), hq, sumStep, if_pos ⟨hp, resFE_zero h193z⟩], resFE_zero h193z⟩), (by dsimp only; omega)⟩ (Sub.int rfl (by first | omega | rfl | (dsimp only; omega)) (Sub.int rfl (by first | omega | rfl | (dsimp only; omega)) (Sub.cons rfl (Sub.cons rfl (Sub.cons rfl Sub.nil))))) ((SubK.consI rfl (ImpK.of (by dsimp only; rw [resF, if_pos (resFE_zero h193z)]; rfl))) ((SubK.consI rfl ImpK.refl) SubK.nil)) (SupG.val (SupG.val (SupG.val (SupG.own rfl (SupG.own rfl SupG.nil))))) (SupH.cons rfl (supJL rfl) (SupH.cons rfl (supJL rfl) SupH.nil)) (lkOk rfl)
    ·
     refine xa5 (x4 (x6 ?_))
     refine x8 ?_
     refine R1 x3 rfl (R2 xf9 rfl rfl (x7 (by kernel_rfl) (x4 ?_)))
     refine xc0 rfl (fun h193 => ?_) (fun h193 => ?_)
     ·
      refine x6 ?_
      refine x8 ?_
      refine R0 (xc8 (r := tS [⟨2, true, (tS [⟨1, false, (tE (.bool false))⟩, ⟨1, false, (tLm [])⟩])⟩, ⟨2, true, (tS [⟨1, false, (tE (.bool false))⟩, ⟨1, false, (tLm [])⟩])⟩]) (ts := []) bu31 zr31.2 ⟨_, rfl⟩ rfl Le.refl)  (R1 x3 rfl (RE (xa3 (es := 4) (agg := true) (0) ti31 rfl rfl rfl) ⟨rfl, rfl, trivial⟩ ⟨rfl, trivial⟩ trivial (R1 x5 rfl (x7 (by kernel_rfl) (x4 (xa1 (xc6 ?_)))))))
      refine xa7 (xa7 (xc6 (xa7 ?_)))
      exact xf1 Plain.mk' (rs := [.cell 6 31, .tmp 7]) rfl rfl ⟨⟨_, _, _, _, _, rfl, rfl, ti31, (Le.of (by rw [if_pos hc, ← hpart, sum_stop (i := i + 1) (by rw [sum_next (by omega), hq, sumStep, if_neg (fun h => resFE_not h193 h.1)])]; rfl))⟩, ⟨_, rfl, (Le.int (by rw [if_pos hc, ← hpart, sum_stop (i := i + 1) (by rw [sum_next (by omega), hq, sumStep, if_neg (fun h => resFE_not h193 h.1)]), resFE, if_neg (resFE_not h193)]; rfl))⟩, trivial⟩
     ·
      have h193z := Decidable.not_not.1 h193
      refine xa5 (xc1 (x4 ?_))
      refine x8 ?_
      refine R2 (xb6 (wr64 (by omega) (by omega))) rfl rfl (R1 x3 rfl (x7 (by kernel_rfl) ?_))
      exact xc2 ((i + 1, q)) ⟨(by dsimp only; exact absurd h193z h190), (by dsimp only; omega)⟩ (Sub.int rfl (by first | omega | rfl | (dsimp only; omega)) (Sub.int rfl (by first | omega | rfl | (dsimp only; omega)) (Sub.cons rfl (Sub.cons rfl (Sub.cons rfl Sub.nil))))) ((SubK.consI rfl ImpK.refl) ((SubK.consI rfl ImpK.refl) SubK.nil)) (SupG.val (SupG.val (SupG.val (SupG.own rfl (SupG.own rfl SupG.nil))))) (SupH.cons rfl (supJL rfl) (SupH.cons rfl (supJL rfl) SupH.nil)) (lkOk rfl)
   ·
    refine xd4 (xb8 (xb8 (xe0 (x4 (x6 ?_)))))
    refine x8 ?_
    refine RE (xa8 (0) ti31 rfl rfl) ⟨rfl, trivial⟩ ⟨rfl, trivial⟩ trivial (RE (xa3 (es := 4) (agg := true) (0) ti31 rfl rfl rfl) ⟨rfl, rfl, trivial⟩ ⟨rfl, trivial⟩ trivial (R1 x5 rfl (x7 (by kernel_rfl) (x4 (xa1 ?_)))))
    exact xf1 Plain.mk' (rs := [.cell 6 31, .tmp 7]) rfl rfl ⟨⟨_, _, _, _, _, rfl, rfl, ti31, (Le.of (by rw [if_pos hc, ← hpart, ← List.take_length (l := part), ← show i = part.length by omega, hq]; rfl))⟩, ⟨_, rfl, (Le.int (by rw [if_pos hc, ← hpart, ← List.take_length (l := part), ← show i = part.length by omega, hq]; rfl))⟩, trivial⟩
end An.S

/- Layers 4 and 5: steps in order, sets of days. Plain data, but for what the walks define. -/
namespace An.S
open Go
theorem tRight_iff {l : List Tst} : tRight l = true ↔ (∀ i, i < l.length → tOk l i = true) ∧ ∀ s ∈ l, s.v.valid = true := by
  simp only [tRight, Bool.and_eq_true, List.all_eq_true, List.mem_range]
theorem getD_snoc {l : List Tst} {s : Tst} {i : Nat} : (l ++ [s]).getD i tst0 = if i < l.length then l.getD i tst0 else if i = l.length then s else tst0 := by
  simp only [List.getD_eq_getElem?_getD, List.getElem?_append]
  by_cases h : i < l.length
  · simp [h]
  · by_cases h2 : i = l.length
    · simp [h2]
    · have : i - l.length ≠ 0 := by omega
      simp only [h, h2, if_false]
      rw [List.getElem?_eq_none (by simp; omega)]; rfl
theorem getD_setT {l : List Tst} {s : Tst} {i j : Nat} (hj : j < l.length) : (l.set j s).getD i tst0 = if i = j then s else l.getD i tst0 := by
  simp only [List.getD_eq_getElem?_getD]
  by_cases h : i = j
  · subst h; rw [List.getElem?_set_self hj]; simp
  · rw [List.getElem?_set_ne (Ne.symm h)]; simp [h]
/-- One more piece: still a timeline. -/
theorem pst1_right {l : List Tst} {s : Tst} (h : tRight l = true) (h0 : 0 ≤ s.lo) (h1 : s.hi ≤ 65536) (hv : s.v.valid = true) (hl : 0 < l.length → (l.getD (l.length - 1) tst0).hi ≤ s.lo ∧ (l.getD (l.length - 1) tst0).v.kind = s.v.kind) : tRight (pst1 l s) = true := by
  rw [pst1]
  split
  · exact h
  · rename_i hlt
    obtain ⟨ha, hb⟩ := tRight_iff.1 h
    split
    · rename_i hm
      refine tRight_iff.2 ⟨fun i hi => ?_, fun x hx => ?_⟩
      · rw [List.length_set] at hi
        have ho := tOk_iff.1 (ha i hi)
        refine tOk_iff.2 ?_
        rw [getD_setT (by omega), getD_setT (by omega)]
        by_cases e : i = l.length - 1
        · subst e
          rw [if_pos rfl]
          refine ⟨ho.1, by dsimp only; have := ho.2.1; omega, h1, ?_⟩
          by_cases e0 : l.length - 1 = 0
          · exact .inl e0
          · rw [if_neg (by omega)]
            exact .inr (ho.2.2.2.resolve_left e0)
        · rw [if_neg e]
          by_cases e0 : i = 0
          · exact ⟨ho.1, ho.2.1, ho.2.2.1, .inl e0⟩
          · rw [if_neg (by omega)]; exact ho
      · rcases List.mem_or_eq_of_mem_set hx with h' | h'
        · exact hb x h'
        · subst h'; exact hb (l.getD (l.length - 1) tst0) (xe6 (by omega))
    · rename_i hm
      refine tRight_iff.2 ⟨fun i hi => ?_, fun x hx => ?_⟩
      · refine tOk_iff.2 ?_
        rw [List.length_append, List.length_singleton] at hi
        rw [getD_snoc, getD_snoc]
        by_cases e : i < l.length
        · have ho := tOk_iff.1 (ha i e)
          rw [if_pos e, if_pos (by omega)]; exact ho
        · have e2 : i = l.length := by omega
          subst e2
          rw [if_neg (by omega), if_pos rfl]
          refine ⟨h0, by omega, h1, ?_⟩
          by_cases e0 : l.length = 0
          · exact .inl e0
          · rw [if_pos (by omega)]
            have := hl (by omega)
            exact .inr ⟨this.1, this.2, fun h' => hm ⟨by omega, h'.1, h'.2⟩⟩
      · rcases List.mem_append.1 hx with h' | h'
        · exact hb x h'
        · rw [List.mem_singleton.1 h']; exact hv
theorem pst1_last {l : List Tst} {s : Tst} (h : s.lo < s.hi) : 0 < (pst1 l s).length ∧ ((pst1 l s).getD ((pst1 l s).length - 1) tst0).hi = s.hi ∧ ((pst1 l s).getD ((pst1 l s).length - 1) tst0).v = s.v := by
  rw [pst1, if_neg (by omega)]
  split
  · rename_i hm
    rw [List.length_set, getD_setT (by omega), if_pos rfl]
    exact ⟨by omega, rfl, hm.2.2⟩
  · rw [List.length_append, List.length_singleton, getD_snoc, if_neg (by omega), if_pos (by omega)]
    exact ⟨by omega, rfl, rfl⟩
theorem tRight_lt {l : List Tst} (h : tRight l = true) : ∀ {j i : Nat}, i < j → j < l.length → (l.getD i tst0).hi ≤ (l.getD j tst0).lo
  | j + 1, i, hij, hj => by
    have h1 := (tRight_at h hj).2.2.2.resolve_left (by omega)
    have h1 : (l.getD j tst0).hi ≤ (l.getD (j + 1) tst0).lo := h1.1
    rcases Nat.lt_or_ge i j with h2 | h2
    · have h3 := tRight_lt h h2 (by omega)
      have h4 := (tRight_at h (i := j) (by omega)).2.1
      omega
    · have : i = j := by omega
      subst this; exact h1
theorem tRight_pair {l : List Tst} (h : tRight l = true) : l.Pairwise fun s t => s.hi ≤ t.lo := by
  refine List.pairwise_iff_getElem.2 fun i j hi hj hij => ?_
  have := tRight_lt h hij hj
  rwa [List.getD_eq_getElem?_getD, List.getD_eq_getElem?_getD, List.getElem?_eq_getElem hi, List.getElem?_eq_getElem hj] at this
/-! Worked days. -/
def okS (s : Sn) : Prop := 0 ≤ s.lo ∧ s.lo < s.hi ∧ s.hi ≤ 65536
def ascS (l : List Sn) : Prop := (∀ s ∈ l, okS s) ∧ l.Pairwise fun s t => s.hi ≤ t.lo
theorem ascS_pos {l : List Sn} (h : ascS l) : l.filter pos = l := List.filter_eq_self.2 fun s hs => by
  have := h.1 s hs
  simp only [pos, decide_eq_true_eq]; exact this.2.1
theorem ascS_srt {l : List Sn} (h : ascS l) : srt cfSn l = l := by
  refine srt_asc swoSn ?_
  refine List.pairwise_iff_forall_sublist.2 fun {s t} hst => ?_
  have h1 := List.pairwise_iff_forall_sublist.1 h.2 hst
  have h2 := (h.1 s (hst.subset (List.mem_cons_self ..))).2.1
  rw [ltSn]; simp; omega
theorem ascS_ok {l : List Sn} (h : ascS l) : l.all Sn.ok = true := List.all_eq_true.2 fun s hs => by
  have := h.1 s hs
  simp only [Sn.ok, Bool.and_eq_true, decide_eq_true_eq]; simp only [okS] at this; omega
/-! Sets. -/
def lastS (l : List Sn) : Sn := l.getD (l.length - 1) sn0
theorem sVal_iff {l : List Sn} : sVal l = true ↔ ∀ i, i < l.length → sOkA l i = true := by
  simp only [sVal, List.all_eq_true, List.mem_range]
theorem getD_snocS {l : List Sn} {s : Sn} {i : Nat} : (l ++ [s]).getD i sn0 = if i < l.length then l.getD i sn0 else if i = l.length then s else sn0 := by
  simp only [List.getD_eq_getElem?_getD, List.getElem?_append]
  by_cases h : i < l.length
  · simp [h]
  · by_cases h2 : i = l.length
    · simp [h2]
    · have : i - l.length ≠ 0 := by omega
      simp only [h, h2, if_false]
      rw [List.getElem?_eq_none (by simp; omega)]; rfl
theorem getD_setS {l : List Sn} {s : Sn} {i j : Nat} (hj : j < l.length) : (l.set j s).getD i sn0 = if i = j then s else l.getD i sn0 := by
  simp only [List.getD_eq_getElem?_getD]
  by_cases h : i = j
  · subst h; rw [List.getElem?_set_self hj]; simp
  · rw [List.getElem?_set_ne (Ne.symm h)]; simp [h]
/-- A set, a span behind it. -/
theorem sVal_snoc {l : List Sn} {s : Sn} (h : sVal l = true) (hs : okS s) (hl : 0 < l.length → (lastS l).hi < s.lo) : sVal (l ++ [s]) = true := by
  refine sVal_iff.2 fun i hi => sOkA_iff.2 ?_
  rw [List.length_append, List.length_singleton] at hi
  rw [getD_snocS, getD_snocS]
  by_cases e : i < l.length
  · have ho := sOkA_iff.1 (sVal_iff.1 h i e)
    rw [if_pos e, if_pos (by omega)]; exact ho
  · have e2 : i = l.length := by omega
    subst e2
    rw [if_neg (by omega), if_pos rfl]
    obtain ⟨h1, h2, h3⟩ := hs
    refine ⟨by simp [Sn.ok]; omega, by omega, ?_⟩
    by_cases e0 : l.length = 0
    · exact .inl e0
    · rw [if_pos (by omega)]; exact .inr (hl (by omega))
/-- A set whose last span ends later. -/
theorem sVal_long {l : List Sn} {e : Int} (h : sVal l = true) (hl : 0 < l.length) (h1 : (lastS l).hi ≤ e) (h2 : e ≤ 65536) : sVal (l.set (l.length - 1) ⟨(lastS l).lo, e⟩) = true := by
  refine sVal_iff.2 fun i hi => sOkA_iff.2 ?_
  rw [List.length_set] at hi
  have ho := sOkA_iff.1 (sVal_iff.1 h i hi)
  rw [getD_setS (by omega), getD_setS (by omega)]
  by_cases e1 : i = l.length - 1
  · subst e1
    have ho1 : (lastS l).ok = true ∧ (lastS l).lo ≠ (lastS l).hi ∧ (l.length - 1 = 0 ∨ (l.getD (l.length - 1 - 1) sn0).hi < (lastS l).lo) := ho
    rw [if_pos rfl]
    have h3 := ho1.1
    simp only [Sn.ok, Bool.and_eq_true, decide_eq_true_eq] at h3
    refine ⟨by simp [Sn.ok]; omega, by have := ho1.2.1; dsimp only; omega, ?_⟩
    by_cases e0 : l.length - 1 = 0
    · exact .inl e0
    · rw [if_neg (by omega)]; exact .inr (ho1.2.2.resolve_left e0)
  · rw [if_neg e1]
    by_cases e0 : i = 0
    · exact ⟨ho.1, ho.2.1, .inl e0⟩
    · rw [if_neg (by omega)]; exact ho
def dayS (l : List Sn) : Int := (l.map fun s => s.hi - s.lo).sum
theorem dayS_snoc {l : List Sn} {s : Sn} : dayS (l ++ [s]) = dayS l + (s.hi - s.lo) := by simp [dayS]
theorem split_last {l : List Sn} (h : 0 < l.length) : l = l.take (l.length - 1) ++ [lastS l] := by
  have e : l.take (l.length - 1 + 1) = l.take (l.length - 1) ++ [l[l.length - 1]] := List.take_succ_eq_append_getElem (by omega)
  rw [show l.length - 1 + 1 = l.length by omega, List.take_length] at e
  rw [lastS, List.getD_eq_getElem?_getD, List.getElem?_eq_getElem (by omega)]; exact e
theorem set_lastE {l : List Sn} {x : Sn} (h : 0 < l.length) : l.set (l.length - 1) x = l.take (l.length - 1) ++ [x] := by
  have e := List.set_eq_take_append_cons_drop (l := l) (i := l.length - 1) (a := x)
  rw [if_pos (by omega), show l.length - 1 + 1 = l.length by omega, List.drop_length] at e
  exact e
theorem dayS_long {l : List Sn} {e : Int} (h : 0 < l.length) : dayS (l.set (l.length - 1) ⟨(lastS l).lo, e⟩) = dayS l + (e - (lastS l).hi) := by
  have h1 : dayS l = dayS (l.take (l.length - 1)) + ((lastS l).hi - (lastS l).lo) := by rw [← dayS_snoc, ← split_last h]
  rw [h1, set_lastE h, dayS_snoc]; dsimp only; omega
/-- What is merged in order is a set with the same days. -/
theorem mrg_asc : ∀ (xs acc : List Sn), ascS xs → sVal acc = true → (0 < acc.length → ∀ s ∈ xs, (lastS acc).hi ≤ s.lo) → sVal (xs.foldl mrg1 acc) = true ∧ dayS (xs.foldl mrg1 acc) = dayS acc + dayS xs
  | [], acc, _, hv, _ => ⟨hv, by simp [dayS]⟩
  | s :: r, acc, hx, hv, hl => by
    have hs := hx.1 s (List.mem_cons_self ..)
    have hp := List.pairwise_cons.1 hx.2
    have hr : ascS r := ⟨fun t ht => hx.1 t (List.mem_cons_of_mem _ ht), hp.2⟩
    have key : sVal (mrg1 acc s) = true ∧ dayS (mrg1 acc s) = dayS acc + (s.hi - s.lo) ∧ 0 < (mrg1 acc s).length ∧ (lastS (mrg1 acc s)).hi = s.hi := by
      rw [mrg1]
      split
      · rename_i hm
        have h1 : (lastS acc).hi = s.lo := by have := hl hm.1 s (List.mem_cons_self ..); have h2 : s.lo ≤ (lastS acc).hi := hm.2; omega
        have hmax : max (acc.getD (acc.length - 1) sn0).hi s.hi = s.hi := by
          have h2 : (acc.getD (acc.length - 1) sn0).hi = s.lo := h1
          have := hs.2.1; omega
        rw [hmax]
        refine ⟨sVal_long hv hm.1 (by have := hs.2.1; omega) hs.2.2, by rw [show (acc.getD (acc.length - 1) sn0).lo = (lastS acc).lo from rfl, dayS_long hm.1]; omega, by rw [List.length_set]; exact hm.1, ?_⟩
        rw [lastS, List.length_set, getD_setS (by omega), if_pos rfl]
      · rename_i hm
        refine ⟨sVal_snoc hv hs fun h0 => ?_, by rw [dayS_snoc], by simp, ?_⟩
        · have := hl h0 s (List.mem_cons_self ..)
          have h2 : ¬ s.lo ≤ (lastS acc).hi := fun h' => hm ⟨h0, h'⟩
          omega
        · rw [lastS, getD_snocS, List.length_append, List.length_singleton, if_neg (by omega), if_pos (by omega)]
    have ih := mrg_asc r (mrg1 acc s) hr key.1 fun _ t ht => by rw [key.2.2.2]; exact hp.1 t ht
    refine ⟨ih.1, ?_⟩
    rw [List.foldl_cons, ih.2, key.2.1]
    have : dayS (s :: r) = (s.hi - s.lo) + dayS r := by simp [dayS]
    omega
end An.S

/- Layer 5: a timeline is known by the values of its days. Plain data, but for what the walks define. -/
namespace An.S
open Go
def hasD (d : Int) (s : Tst) : Bool := decide (s.lo ≤ d) && decide (d < s.hi)
theorem hasD_iff {d : Int} {s : Tst} : hasD d s = true ↔ s.lo ≤ d ∧ d < s.hi := by simp [hasD]
/-- The value of a day. -/
def valT (l : List Tst) (d : Int) : Option Va := (l.find? (hasD d)).map (·.v)
theorem xf2 {s : Tst} {r : List Tst} {d : Int} : valT (s :: r) d = if s.lo ≤ d ∧ d < s.hi then some s.v else valT r d := by
  by_cases h : s.lo ≤ d ∧ d < s.hi
  · rw [if_pos h, valT, List.find?_cons_of_pos (hasD_iff.2 h)]; rfl
  · rw [if_neg h, valT, List.find?_cons_of_neg (fun h' => h (hasD_iff.1 h'))]; rfl
theorem valT_none {l : List Tst} {d : Int} : valT l d = none ↔ ∀ s ∈ l, ¬ (s.lo ≤ d ∧ d < s.hi) := by
  rw [valT, Option.map_eq_none_iff, List.find?_eq_none]
  simp only [hasD_iff]
theorem valT_append {a b : List Tst} {d : Int} : valT (a ++ b) d = (valT a d).or (valT b d) := by
  rw [valT, List.find?_append, valT, valT]
  cases a.find? (hasD d) <;> rfl
theorem valT_some {l : List Tst} {d : Int} {v : Va} (h : valT l d = some v) : ∃ s ∈ l, (s.lo ≤ d ∧ d < s.hi) ∧ s.v = v := by
  obtain ⟨s, h1, h2⟩ := Option.map_eq_some_iff.1 h
  exact ⟨s, List.mem_of_find?_eq_some h1, hasD_iff.1 (List.find?_some h1), h2⟩
def ascT (l : List Tst) : Prop := (∀ s ∈ l, s.lo < s.hi) ∧ l.Pairwise fun s t => s.hi ≤ t.lo
/-- Neighbours differ. -/
def nbT : List Tst → Prop
  | [] => True
  | [_] => True
  | s :: t :: r => ¬ (s.hi = t.lo ∧ s.v = t.v) ∧ nbT (t :: r)
theorem tl_ext : ∀ {a b : List Tst}, ascT a → nbT a → ascT b → nbT b → (∀ d, valT a d = valT b d) → a = b
  | [], [], _, _, _, _, _ => rfl
  | [], t :: u, _, _, hb, _, h => by
    have h1 := hb.1 t (List.mem_cons_self ..)
    have h2 := h t.lo
    rw [xf2, if_pos ⟨Int.le_refl _, h1⟩] at h2; cases h2
  | s :: r, [], ha, _, _, _, h => by
    have h1 := ha.1 s (List.mem_cons_self ..)
    have h2 := h s.lo
    rw [xf2, if_pos ⟨Int.le_refl _, h1⟩] at h2; cases h2
  | s :: r, t :: u, ha, na, hb, nb, h => by
    have hs := ha.1 s (List.mem_cons_self ..)
    have ht := hb.1 t (List.mem_cons_self ..)
    have pa := List.pairwise_cons.1 ha.2
    have pb := List.pairwise_cons.1 hb.2
    have a0 : valT (s :: r) s.lo = some s.v := by rw [xf2, if_pos ⟨Int.le_refl _, hs⟩]
    have b0 : valT (t :: u) t.lo = some t.v := by rw [xf2, if_pos ⟨Int.le_refl _, ht⟩]
    have l1 : t.lo ≤ s.lo := by
      obtain ⟨x, hx, hx2, _⟩ := valT_some ((h s.lo).symm.trans a0)
      rcases List.mem_cons.1 hx with rfl | hx
      · exact hx2.1
      · have := pb.1 x hx; omega
    have l2 : s.lo ≤ t.lo := by
      obtain ⟨x, hx, hx2, _⟩ := valT_some ((h t.lo).trans b0)
      rcases List.mem_cons.1 hx with rfl | hx
      · exact hx2.1
      · have := pa.1 x hx; omega
    have elo : s.lo = t.lo := by omega
    have ev : s.v = t.v := by
      have := (h s.lo).symm.trans a0
      rw [elo, b0] at this; exact (Option.some.inj this).symm
    have key : ∀ {s t : Tst} {r u : List Tst}, ascT (s :: r) → nbT (s :: r) → s.lo = t.lo → s.v = t.v → (∀ d, valT (s :: r) d = valT (t :: u) d) → ¬ s.hi < t.hi := by
      intro s t r u ha na elo ev h h1
      have hs := ha.1 s (List.mem_cons_self ..)
      have pa := List.pairwise_cons.1 ha.2
      have h2 := h s.hi
      rw [xf2, if_neg (by omega), xf2, if_pos (by omega)] at h2
      obtain ⟨x, hx, hx2, hx3⟩ := valT_some h2
      cases r with
      | nil => cases hx
      | cons y q =>
        have hy := pa.1 y (List.mem_cons_self ..)
        have py := List.pairwise_cons.1 pa.2
        have e : x = y := by
          rcases List.mem_cons.1 hx with rfl | hx
          · rfl
          · have := py.1 x hx; have := ha.1 y (List.mem_cons_of_mem _ (List.mem_cons_self ..)); omega
        subst e
        exact na.1 ⟨by omega, by rw [hx3, ev]⟩
    have ehi : s.hi = t.hi := by
      have := key ha na elo ev h
      have := key hb nb elo.symm ev.symm (fun d => (h d).symm)
      omega
    have est : s = t := by
      obtain ⟨a1, a2, a3⟩ := s; obtain ⟨b1, b2, b3⟩ := t
      simp only at elo ev ehi
      rw [elo, ev, ehi]
    subst est
    congr 1
    refine tl_ext ⟨fun x hx => ha.1 x (List.mem_cons_of_mem _ hx), pa.2⟩ ?_ ⟨fun x hx => hb.1 x (List.mem_cons_of_mem _ hx), pb.2⟩ ?_ fun d => ?_
    · cases r with
      | nil => trivial
      | cons y q => exact na.2
    · cases u with
      | nil => trivial
      | cons y q => exact nb.2
    · rcases Int.lt_or_le d s.hi with h1 | h1
      · have e1 : valT r d = none := valT_none.2 fun x hx h' => by have := pa.1 x hx; omega
        have e2 : valT u d = none := valT_none.2 fun x hx h' => by have := pb.1 x hx; omega
        rw [e1, e2]
      · have h2 := h d
        rwa [xf2, if_neg (by omega), xf2, if_neg (by omega)] at h2
/-! Pieces, put together. -/
theorem nb_snoc {s : Tst} : ∀ {l : List Tst} {x : Tst}, nbT (l ++ [x]) → ¬ (x.hi = s.lo ∧ x.v = s.v) → nbT (l ++ [x] ++ [s])
  | [], _, _, h => ⟨h, trivial⟩
  | [_], _, h1, h => ⟨h1.1, h, trivial⟩
  | _ :: z :: r, _, h1, h => ⟨h1.1, nb_snoc (l := z :: r) h1.2 h⟩
theorem nb_set {x' : Tst} : ∀ {l : List Tst} {x : Tst}, nbT (l ++ [x]) → x'.lo = x.lo → x'.v = x.v → nbT (l ++ [x'])
  | [], _, _, _, _ => trivial
  | [_], _, h1, e1, e2 => ⟨by rw [e1, e2]; exact h1.1, trivial⟩
  | _ :: z :: r, _, h1, e1, e2 => ⟨h1.1, nb_set (l := z :: r) h1.2 e1 e2⟩
theorem asc_snoc {l : List Tst} {s : Tst} (h : ascT l) (hs : s.lo < s.hi) (hl : ∀ x ∈ l, x.hi ≤ s.lo) : ascT (l ++ [s]) := by
  refine ⟨fun x hx => ?_, List.pairwise_append.2 ⟨h.2, List.pairwise_singleton .., fun x hx y hy => by rw [List.mem_singleton.1 hy]; exact hl x hx⟩⟩
  rcases List.mem_append.1 hx with hx | hx
  · exact h.1 x hx
  · rw [List.mem_singleton.1 hx]; exact hs
theorem split_lastT {l : List Tst} (h : 0 < l.length) : l = l.take (l.length - 1) ++ [l.getD (l.length - 1) tst0] := by
  have e : l.take (l.length - 1 + 1) = l.take (l.length - 1) ++ [l[l.length - 1]] := List.take_succ_eq_append_getElem (by omega)
  rw [show l.length - 1 + 1 = l.length by omega, List.take_length] at e
  rw [List.getD_eq_getElem?_getD, List.getElem?_eq_getElem (by omega)]; exact e
theorem set_lastT {l : List Tst} {x : Tst} (h : 0 < l.length) : l.set (l.length - 1) x = l.take (l.length - 1) ++ [x] := by
  have e := List.set_eq_take_append_cons_drop (l := l) (i := l.length - 1) (a := x)
  rw [if_pos (by omega), show l.length - 1 + 1 = l.length by omega, List.drop_length] at e
  exact e
/-- One more piece. -/
theorem pst1_val {acc : List Tst} {s : Tst} (h : ascT acc) (hn : nbT acc) (hs : s.lo < s.hi) (hl : ∀ x ∈ acc, x.hi ≤ s.lo) : ascT (pst1 acc s) ∧ nbT (pst1 acc s) ∧ (∀ x ∈ pst1 acc s, x.hi ≤ s.hi) ∧ ∀ d, valT (pst1 acc s) d = (valT acc d).or (if s.lo ≤ d ∧ d < s.hi then some s.v else none) := by
  have e1 : ∀ d, valT [s] d = if s.lo ≤ d ∧ d < s.hi then some s.v else none := fun d => by rw [xf2]; rfl
  rw [pst1, if_neg (by omega)]
  split
  · rename_i hm
    have ea := split_lastT hm.1
    rw [set_lastT hm.1]
    generalize acc.getD (acc.length - 1) tst0 = x at *
    generalize acc.take (acc.length - 1) = q at *
    subst ea
    have hp := List.pairwise_append.1 h.2
    have hx := h.1 x (List.mem_append_right _ (List.mem_singleton.2 rfl))
    have hq : ascT q := ⟨fun y hy => h.1 y (List.mem_append_left _ hy), hp.1⟩
    have hqx : ∀ y ∈ q, y.hi ≤ x.lo := fun y hy => hp.2.2 y hy x (List.mem_singleton.2 rfl)
    refine ⟨asc_snoc hq (by dsimp only; omega) hqx, nb_set hn rfl rfl, fun y hy => ?_, fun d => ?_⟩
    · rcases List.mem_append.1 hy with hy | hy
      · have := hqx y hy; omega
      · rw [List.mem_singleton.1 hy]; exact Int.le_refl _
    · rw [valT_append, valT_append, xf2, xf2]
      cases hv : valT q d with
      | some v => rfl
      | none =>
        simp only [Option.none_or]
        have h1 := hm.2.1
        by_cases c1 : x.lo ≤ d ∧ d < x.hi
        · rw [if_pos (by omega), if_pos c1]; rfl
        · by_cases c2 : s.lo ≤ d ∧ d < s.hi
          · rw [if_pos (by omega), if_neg c1, if_pos c2, hm.2.2]; rfl
          · rw [if_neg (by omega), if_neg c1, if_neg c2]; rfl
  · rename_i hm
    refine ⟨asc_snoc h hs hl, ?_, fun y hy => ?_, fun d => by rw [valT_append, e1]⟩
    · rcases Nat.eq_zero_or_pos acc.length with h0 | h0
      · rw [List.eq_nil_of_length_eq_zero h0]; trivial
      · have ea := split_lastT h0
        have h2 : ¬ ((acc.getD (acc.length - 1) tst0).hi = s.lo ∧ (acc.getD (acc.length - 1) tst0).v = s.v) := fun h' => hm ⟨h0, h'.1, h'.2⟩
        rw [ea] at hn ⊢
        exact nb_snoc hn h2
    · rcases List.mem_append.1 hy with hy | hy
      · have := hl y hy; omega
      · rw [List.mem_singleton.1 hy]; exact Int.le_refl _
/-- Pieces in order: what is put together has their values. -/
theorem pst_val : ∀ (ps acc : List Tst), ascT acc → nbT acc → (ps.Pairwise fun s t => s.lo < s.hi → s.hi ≤ t.lo) → (∀ x ∈ acc, ∀ s ∈ ps, s.lo < s.hi → x.hi ≤ s.lo) → ascT (pst acc ps) ∧ nbT (pst acc ps) ∧ ∀ d, valT (pst acc ps) d = (valT acc d).or (valT ps d)
  | [], acc, h, hn, _, _ => ⟨h, hn, fun d => by show valT acc d = _; cases valT acc d <;> rfl⟩
  | s :: r, acc, h, hn, hp, hl => by
    have hp1 := List.pairwise_cons.1 hp
    have e : pst acc (s :: r) = pst (pst1 acc s) r := rfl
    rw [e]
    by_cases hs : s.lo < s.hi
    · obtain ⟨k1, k2, k3, k4⟩ := pst1_val h hn hs fun x hx => hl x hx s (List.mem_cons_self ..) hs
      have ih := pst_val r (pst1 acc s) k1 k2 hp1.2 fun x hx t ht htl => by
        have := k3 x hx
        have := hp1.1 t ht hs; omega
      refine ⟨ih.1, ih.2.1, fun d => ?_⟩
      rw [ih.2.2, k4, xf2, Option.or_assoc]
      congr 1
      split <;> rfl
    · have e1 : pst1 acc s = acc := by rw [pst1, if_pos (by omega)]
      rw [e1]
      have ih := pst_val r acc h hn hp1.2 fun x hx t ht => hl x hx t (List.mem_cons_of_mem _ ht)
      refine ⟨ih.1, ih.2.1, fun d => ?_⟩
      rw [ih.2.2, xf2, if_neg (by omega)]
end An.S

/- Layer 5: segments between days; parts and joins by the values of their days. Plain data, but for what the walks define. -/
namespace An.S
open Go
/-- Pieces between neighbouring days. -/
def segL (g : Int → Option Va) : List Int → List Tst
  | x :: y :: r => (match g x with | some v => [⟨x, y, v⟩] | none => []) ++ segL g (y :: r)
  | _ => []
/-- Between neighbouring days nothing changes. -/
def cOn (g : Int → Option Va) : List Int → Prop
  | x :: y :: r => (∀ d, x ≤ d → d < y → g d = g x) ∧ cOn g (y :: r)
  | _ => True
theorem segL_lo {g : Int → Option Va} : ∀ {ds : List Int} {x : Int} {s : Tst}, (x :: ds).Pairwise (· < ·) → s ∈ segL g (x :: ds) → x ≤ s.lo
  | [], x, s, _, h => by cases h
  | y :: r, x, s, hp, h => by
    have hp1 := List.pairwise_cons.1 hp
    rw [segL] at h
    rcases List.mem_append.1 h with h | h
    · cases hg : g x with
      | none => rw [hg] at h; cases h
      | some v => rw [hg] at h; rw [List.mem_singleton.1 h]; exact Int.le_refl _
    · have := segL_lo hp1.2 h
      have := hp1.1 y (List.mem_cons_self ..); omega
theorem segL_pw {g : Int → Option Va} : ∀ {ds : List Int}, ds.Pairwise (· < ·) → (∀ s ∈ segL g ds, s.lo < s.hi) ∧ (segL g ds).Pairwise fun s t => s.hi ≤ t.lo
  | [], _ => ⟨fun s h => (by cases h), .nil⟩
  | [x], _ => ⟨fun s h => (by cases h), .nil⟩
  | x :: y :: r, hp => by
    have hp1 := List.pairwise_cons.1 hp
    have hxy := hp1.1 y (List.mem_cons_self ..)
    have ih := segL_pw (g := g) hp1.2
    rw [segL]
    cases hg : g x with
    | none => exact ih
    | some v =>
      refine ⟨fun s h => ?_, List.pairwise_cons.2 ⟨fun t ht => segL_lo hp1.2 ht, ih.2⟩⟩
      rcases List.mem_cons.1 h with rfl | h
      · exact hxy
      · exact ih.1 s h
/-- All ends of steps are among these days. -/
def ends (ds : List Int) (l : List Tst) : Prop := ∀ s ∈ l, s.lo ∈ ds ∧ s.hi ∈ ds
/-- The join of two timelines. -/
def jnG (a b : List Tst) (d : Int) : Option Va := (valT b d).or (valT a d)
/-- A part of a timeline. -/
theorem cut_val {l : List Tst} {a b : Int} (h : ascT l) : ascT (cutT l a b) ∧ nbT (cutT l a b) ∧ ∀ d, valT (cutT l a b) d = if a ≤ d ∧ d < b then valT l d else none := by
  have hp : (l.map (clip a b)).Pairwise fun s t => s.lo < s.hi → s.hi ≤ t.lo := h.2.map (clip a b) fun s t hst _ => by simp only [clip]; omega
  have := pst_val (l.map (clip a b)) [] ⟨fun s hs => (by cases hs), .nil⟩ trivial hp fun x hx => by cases hx
  refine ⟨this.1, this.2.1, fun d => ?_⟩
  rw [cutT, this.2.2]
  show valT (l.map (clip a b)) d = _
  clear this hp h
  induction l with
  | nil => simp [valT]
  | cons s r ih =>
    rw [List.map_cons, xf2, xf2, ih]
    show (if max s.lo a ≤ d ∧ d < min s.hi b then some s.v else if a ≤ d ∧ d < b then valT r d else none) = if a ≤ d ∧ d < b then (if s.lo ≤ d ∧ d < s.hi then some s.v else valT r d) else none
    by_cases c1 : a ≤ d ∧ d < b
    · rw [if_pos c1, if_pos c1]
      by_cases c2 : s.lo ≤ d ∧ d < s.hi
      · rw [if_pos c2, if_pos ⟨by omega, by omega⟩]
      · rw [if_neg c2, if_neg (fun h => c2 ⟨by omega, by omega⟩)]
    · rw [if_neg c1, if_neg c1, if_neg (fun h => c1 ⟨by omega, by omega⟩)]
/-- What lies outside of a span. -/
def woP (a b : Int) (s : Tst) : List Tst := [⟨s.lo, min s.hi a, s.v⟩, ⟨max s.lo b, s.hi, s.v⟩]
def woT (l : List Tst) (a b : Int) : List Tst := pst [] (l.flatMap (woP a b))
end An.S

/- Layer 5: being a timeline, by neighbours. Plain data, but for what the walks define. -/
namespace An.S
open Go
theorem nb_of : ∀ {l : List Tst}, (∀ i, i + 1 < l.length → ¬ ((l.getD i tst0).hi = (l.getD (i + 1) tst0).lo ∧ (l.getD i tst0).v = (l.getD (i + 1) tst0).v)) → nbT l
  | [], _ => trivial
  | [_], _ => trivial
  | s :: t :: r, h => ⟨h 0 (by simp), nb_of (l := t :: r) fun i hi => h (i + 1) (by simpa using hi)⟩
theorem nb_at : ∀ {l : List Tst} {i : Nat}, nbT l → i + 1 < l.length → ¬ ((l.getD i tst0).hi = (l.getD (i + 1) tst0).lo ∧ (l.getD i tst0).v = (l.getD (i + 1) tst0).v)
  | [], _, _, hi => by simp at hi
  | [_], _, _, hi => by simp at hi
  | s :: t :: r, 0, h, _ => h.1
  | s :: t :: r, i + 1, h, hi => nb_at (l := t :: r) h.2 (by simpa using hi)
theorem tRight_asc {l : List Tst} (h : tRight l = true) : ascT l := ⟨fun s hs => by
  obtain ⟨i, hi, rfl⟩ := exists_getD hs
  exact (tRight_at h hi).2.1, tRight_pair h⟩
theorem tRight_nb {l : List Tst} (h : tRight l = true) : nbT l := nb_of fun i hi => by
  have := (tRight_at h hi).2.2.2.resolve_left (by omega)
  exact this.2.2
theorem asc_lt {l : List Tst} (h : ascT l) {i j : Nat} (hij : i < j) (hj : j < l.length) : (l.getD i tst0).hi ≤ (l.getD j tst0).lo := by
  have := List.pairwise_iff_getElem.1 h.2 i j (by omega) hj hij
  rwa [List.getD_eq_getElem?_getD, List.getD_eq_getElem?_getD, List.getElem?_eq_getElem (show i < l.length by omega), List.getElem?_eq_getElem hj]
/-- Steps in order, of one kind, are a timeline. -/
theorem right_of {l : List Tst} {K : Nat} (h : ascT l) (hn : nbT l) (hv : ∀ s ∈ l, 0 ≤ s.lo ∧ s.hi ≤ 65536 ∧ s.v.valid = true ∧ s.v.kind = K) : tRight l = true := by
  refine tRight_iff.2 ⟨fun i hi => tOk_iff.2 ?_, fun s hs => (hv s hs).2.2.1⟩
  have h1 := hv _ (xe6 (l := l) hi)
  refine ⟨h1.1, h.1 _ (xe6 hi), h1.2.1, ?_⟩
  by_cases h0 : i = 0
  · exact .inl h0
  · have h2 := hv _ (xe6 (l := l) (i := i - 1) (by omega))
    have h3 := nb_at hn (i := i - 1) (by omega)
    rw [show i - 1 + 1 = i by omega] at h3
    exact .inr ⟨asc_lt h (by omega) hi, by rw [h2.2.2.2, h1.2.2.2], h3⟩
/-- Two timelines with the same values are the same. -/
theorem tl_same {a b : List Tst} (ha : tRight a = true) (hb : tRight b = true) (h : ∀ d, valT a d = valT b d) : a = b := tl_ext (tRight_asc ha) (tRight_nb ha) (tRight_asc hb) (tRight_nb hb) h
end An.S

/- slices.Sort and slices.Compact at ints, as contracts that are lent the row. For any program. -/
namespace An
open Go Go.Proofs Go.Shelf Go.Sort
def srtI (xs : List Int) : List Int := xs.mergeSort fun x y => decide (x ≤ y)
/-- Sorted, without duplicates. -/
def brd (xs : List Int) : List Int := Lib.compact (srtI xs)
theorem brd_aux {d : Array Int} (hd : ∀ i j, i < j → j < d.size → d[i]! ≤ d[j]!) : ∀ m, m ≤ d.size → (Lib.compactUpTo d m).Pairwise (· < ·) ∧ ∀ x, x ∈ Lib.compactUpTo d m ↔ ∃ i, i < m ∧ d[i]! = x
  | 0, _ => ⟨List.Pairwise.nil, fun x => ⟨fun h => (List.not_mem_nil h).elim, fun ⟨i, hi, _⟩ => absurd hi (Nat.not_lt_zero _)⟩⟩
  | m + 1, hm => by
    obtain ⟨h1, h2⟩ := brd_aux hd m (by omega)
    rw [Lib.compactUpTo_succ]
    by_cases hk : Lib.keeps d m = true
    · rw [if_pos hk]
      have hk' : m = 0 ∨ d[m]! ≠ d[m - 1]! := of_decide_eq_true hk
      refine ⟨List.pairwise_append.2 ⟨h1, List.pairwise_singleton _ _, fun x hx y hy => ?_⟩, fun x => ?_⟩
      · rw [List.mem_singleton.1 hy]
        obtain ⟨i, hi, rfl⟩ := (h2 x).1 hx
        have hm0 : m ≠ 0 := by omega
        have h3 := hk'.resolve_left hm0
        have h4 := hd (m - 1) m (by omega) (by omega)
        have h5 : d[i]! ≤ d[m - 1]! := by
          rcases Nat.lt_or_ge i (m - 1) with h | h
          · exact hd i (m - 1) h (by omega)
          · rw [show i = m - 1 by omega]; exact Int.le_refl _
        omega
      · rw [List.mem_append, List.mem_singleton, h2]
        constructor
        · rintro (⟨i, hi, e⟩ | rfl)
          · exact ⟨i, by omega, e⟩
          · exact ⟨m, by omega, rfl⟩
        · rintro ⟨i, hi, e⟩
          rcases Nat.lt_or_ge i m with h | h
          · exact .inl ⟨i, h, e⟩
          · exact .inr (by rw [← e, show i = m by omega])
    · rw [if_neg hk, List.append_nil]
      have hk' : ¬ (m = 0 ∨ d[m]! ≠ d[m - 1]!) := fun h => hk (decide_eq_true h)
      refine ⟨h1, fun x => ?_⟩
      rw [h2]
      constructor
      · rintro ⟨i, hi, e⟩; exact ⟨i, by omega, e⟩
      · rintro ⟨i, hi, e⟩
        rcases Nat.lt_or_ge i m with h | h
        · exact ⟨i, h, e⟩
        · have hm0 : m ≠ 0 := fun h => hk' (.inl h)
          have he : d[m]! = d[m - 1]! := Decidable.byContradiction fun h => hk' (.inr h)
          exact ⟨m - 1, by omega, by rw [← he, ← e, show i = m by omega]⟩
theorem brd_spec (xs : List Int) : (brd xs).Pairwise (· < ·) ∧ ∀ x, x ∈ brd xs ↔ x ∈ xs := by
  have hs : (srtI xs).Pairwise fun x y => decide (x ≤ y) = true := List.pairwise_mergeSort (fun a b c h1 h2 => by simp at *; omega) (fun a b => by simp; omega) xs
  have hp : (srtI xs).Perm xs := List.mergeSort_perm ..
  have h := brd_aux (d := (srtI xs).toArray) (fun i j hij hj => by
    have hj : j < (srtI xs).length := by simpa using hj
    have := List.pairwise_iff_getElem.1 hs i j (by omega) hj hij
    rw [getElem!_pos _ _ (by simp; omega), getElem!_pos _ _ (by simpa using hj)]
    simpa using this) (srtI xs).length (by simp)
  refine ⟨h.1, fun x => (h.2 x).trans ⟨fun ⟨i, hi, e⟩ => ?_, fun hx => ?_⟩⟩
  · rw [getElem!_pos _ _ (by simpa using hi)] at e
    rw [← hp.mem_iff, ← e]; simp
  · obtain ⟨i, hi, e⟩ := List.getElem_of_mem (hp.mem_iff.2 hx)
    exact ⟨i, hi, by rw [getElem!_pos _ _ (by simpa using hi)]; simpa using e⟩
end An

/- Layer 5: two timelines, walked together. Plain data, but for what the walks define. -/
namespace An.S
open Go
def onL (l : List Tst) (d : Int) : List Tst := l.dropWhile fun s => decide (s.hi ≤ d)
def onV (l : List Tst) (d : Int) : Option Va := if 0 < (onL l d).length ∧ ((onL l d).getD 0 tst0).lo ≤ d then some ((onL l d).getD 0 tst0).v else none
theorem onL_len {l : List Tst} {d : Int} : (onL l d).length ≤ l.length := (List.dropWhile_sublist _).length_le
theorem onL_asc {l : List Tst} {d : Int} (h : ascT l) : ascT (onL l d) := ⟨fun s hs => h.1 s ((List.dropWhile_sublist _).subset hs), h.2.sublist (List.dropWhile_sublist _)⟩
theorem onL_val {d : Int} : ∀ {l : List Tst}, ∀ e, d ≤ e → valT (onL l d) e = valT l e
  | [], _, _ => rfl
  | s :: r, e, h => by
    by_cases h1 : s.hi ≤ d
    · have : onL (s :: r) d = onL r d := by rw [onL, List.dropWhile_cons_of_pos (by simpa using h1)]; rfl
      rw [this, onL_val e h, xf2, if_neg (by omega)]
    · have : onL (s :: r) d = s :: r := by rw [onL, List.dropWhile_cons_of_neg (by simpa using h1)]
      rw [this]
theorem onV_val {l : List Tst} {d : Int} (h : ascT l) : onV l d = valT l d := by
  rw [← onL_val d (Int.le_refl _), onV]
  have hd : 0 < (onL l d).length → d < ((onL l d).getD 0 tst0).hi := fun h0 => by
    clear h
    induction l with
    | nil => simp [onL] at h0
    | cons s r ih =>
      by_cases h1 : s.hi ≤ d
      · have : onL (s :: r) d = onL r d := by rw [onL, List.dropWhile_cons_of_pos (by simpa using h1)]; rfl
        rw [this] at h0 ⊢; exact ih h0
      · have : onL (s :: r) d = s :: r := by rw [onL, List.dropWhile_cons_of_neg (by simpa using h1)]
        rw [this]; show d < s.hi; omega
  have ha := onL_asc (d := d) h
  generalize onL l d = xs at *
  cases xs with
  | nil => rfl
  | cons s r =>
    have h1 : d < s.hi := hd (by simp)
    rw [xf2]
    by_cases h2 : s.lo ≤ d
    · rw [if_pos ⟨by simp, h2⟩, if_pos ⟨h2, h1⟩]; rfl
    · rw [if_neg (fun h => h2 h.2), if_neg (fun h => h2 h.1)]
      symm
      refine valT_none.2 fun t ht h => ?_
      have := (List.pairwise_cons.1 ha.2).1 t ht
      omega
/-- The ends of the steps of two timelines. -/
def eds (l : List Tst) : List Int := l.flatMap fun s => [s.lo, s.hi]
def bds (ls : List (List Tst)) : List Int := brd (ls.flatMap eds)
theorem eds_mem {l : List Tst} {x : Int} : x ∈ eds l ↔ ∃ s ∈ l, x = s.lo ∨ x = s.hi := by
  simp [eds, List.mem_flatMap]
def tlen (ls : List (List Tst)) : Nat := (ls.map List.length).sum
theorem bds_pw {ls : List (List Tst)} : (bds ls).Pairwise (· < ·) := (brd_spec _).1
theorem bds_mem {ls : List (List Tst)} {x : Int} : x ∈ bds ls ↔ ∃ l ∈ ls, ∃ s ∈ l, x = s.lo ∨ x = s.hi := by
  rw [bds, (brd_spec _).2, List.mem_flatMap]
  simp only [eds_mem]
/-- The piece of a round. -/
def segI (g : Int → Option Va) (ds : List Int) (i : Nat) : List Tst := match g (ds.getD i 0) with
  | some v => [⟨ds.getD i 0, ds.getD (i + 1) 0, v⟩]
  | none => []
def segN (g : Int → Option Va) (ds : List Int) (k : Nat) : List Tst := (List.range k).flatMap (segI g ds)
/-- The join, up to a round. -/
def jnK (a b : List Tst) (k : Nat) : List Tst := pst [] (segN (jnG a b) (bds [a, b]) k)
def jnT (a b : List Tst) : List Tst := pst [] (segL (jnG a b) (bds [a, b]))
/-- The days on which two timelines differ, up to a round. -/
def dfB (a b : List Tst) (d : Int) : Bool := decide (valT a d ≠ valT b d)
def dfI (a b : List Tst) (i : Nat) : List Sn := if dfB a b ((bds [a, b]).getD i 0) then [⟨(bds [a, b]).getD i 0, (bds [a, b]).getD (i + 1) 0⟩] else []
def dfK (a b : List Tst) (k : Nat) : List Sn := (List.range k).flatMap (dfI a b)
def dfT (a b : List Tst) : List Sn := dfK a b ((bds [a, b]).length - 1)
/-- What holds when two timelines are walked together. -/
def ogI (a b : List Tst) (xa xb : List Tst) (d : Int) : Prop := (ascT xa ∧ xa.length ≤ a.length ∧ ∀ e, d ≤ e → valT xa e = valT a e) ∧ ascT xb ∧ xb.length ≤ b.length ∧ ∀ e, d ≤ e → valT xb e = valT b e
theorem ogI.next {a b xa xb : List Tst} {d e : Int} (h : ogI a b xa xb d) (hde : d ≤ e) : onV xa e = valT a e ∧ onV xb e = valT b e ∧ ogI a b (onL xa e) (onL xb e) e := by
  obtain ⟨⟨h1, h2, h3⟩, h4, h5, h6⟩ := h
  refine ⟨(onV_val h1).trans (h3 e hde), (onV_val h4).trans (h6 e hde), ⟨onL_asc h1, Nat.le_trans onL_len h2, fun x hx => (onL_val x hx).trans (h3 x (Int.le_trans hde hx))⟩, onL_asc h4, Nat.le_trans onL_len h5, fun x hx => (onL_val x hx).trans (h6 x (Int.le_trans hde hx))⟩
theorem ogI.mono {a b xa xb : List Tst} {d e : Int} (h : ogI a b xa xb d) (hde : d ≤ e) : ogI a b xa xb e := ⟨⟨h.1.1, h.1.2.1, fun x hx => h.1.2.2 x (Int.le_trans hde hx)⟩, h.2.1, h.2.2.1, fun x hx => h.2.2.2 x (Int.le_trans hde hx)⟩
theorem ogI.zero {a b : List Tst} (ha : ascT a) (hb : ascT b) (d : Int) : ogI a b a b d := ⟨⟨ha, Nat.le_refl _, fun _ _ => rfl⟩, hb, Nat.le_refl _, fun _ _ => rfl⟩
end An.S

/- A region whose operations come in whatever order, but for the last ones, ahead of which all others come: a function that feeds a loop calls back in such a region. For any program. -/
namespace An
open Go
section
variable {P : Program} {c : Base}
end
/-- Ahead of the operations from the n-th on come all others. -/
def lastB (n : Nat) (ops : List Oper) : Bool := (List.range ops.length).all fun i => Nat.blt i n || (List.range i).all fun j => ((masks ops #[]).getD i 0).testBit j
def chkY (ops : List Oper) (sms : List Sm) (n N : Nat) : Bool := goAll (masks ops #[]) [] sms && dOk N sms && nkOk sms [] && edgesOk 0 ops && lastB n ops && Nat.ble n ops.length
section
variable {P : Program} {c : Base} {Q : Exit → Act → World → Prop} {g : Slots} {h : Keys} {al : Names}
end
end An

/- Layer 5: two timelines, walked together. -/
namespace An.S
open Go Go.Proofs An
set_option maxHeartbeats 2000000
abbrev tPr (x y : Option Va) : Ty := tS [⟨1, false, tO 6 true tVa x⟩, ⟨1, false, tO 6 true tVa y⟩]
def tgY (a b : List Tst) (k : Nat) : List Ty := [tSn ⟨(bds [a, b]).getD k 0, (bds [a, b]).getD (k + 1) 0⟩, tPr (valT a ((bds [a, b]).getD k 0)) (valT b ((bds [a, b]).getD k 0))]
end An.S

/- Layer 5: sums over timelines whose values have one denominator. Plain data, but for what the walks define. -/
namespace An.S
open Go
theorem sum_nxT {f : Tst → Int} {l : List Tst} {i : Nat} (hi : i < l.length) : ((l.take (i + 1)).map f).sum = ((l.take i).map f).sum + f (l.getD i tst0) := by
  rw [List.take_succ_eq_append_getElem hi, List.map_append, List.sum_append, List.getD_eq_getElem?_getD, List.getElem?_eq_getElem hi]; simp
def dyG (a b : Int) (s : Tst) : Int := min s.hi b - max s.lo a
/-- A value, as so many parts. -/
def wt (D : Int) (v : Va) : Int := (v.f.rat * (D : Rat)).num
theorem int_div (n : Int) : (n : Rat) = Rat.divInt n 1 := by
  have := Rat.num_divInt_den (n : Rat)
  rw [Rat.num_intCast, Rat.den_intCast] at this; exact this.symm
theorem wt_is {D k : Int} (hD : 0 < D) {v : Va} (h : v.f.rat = Rat.divInt k D) : wt D v = k := by
  have e : Rat.divInt k D * (D : Rat) = (k : Rat) := by
    rw [int_div D, int_div k, Rat.divInt_mul_divInt]
    exact (Rat.divInt_eq_divInt_iff (by omega) (by decide)).2 (by rw [Int.mul_one, Int.mul_one])
  rw [wt, h, e, Rat.num_intCast]
theorem mulG (D : Int) (a n : Int) : Rat.divInt a D * (n : Rat) = Rat.divInt (a * n) D := by
  rw [int_div n, Rat.divInt_mul_divInt, Int.mul_one]
theorem addG {D : Int} (hD : 0 < D) (a b : Int) : Rat.divInt a D + Rat.divInt b D = Rat.divInt (a + b) D := by
  rw [Rat.divInt_add_divInt a b (by omega) (by omega)]
  exact (Rat.divInt_eq_divInt_iff (Int.ne_of_gt (Int.mul_pos hD hD)) (by omega)).2 (by rw [← Int.add_mul, Int.mul_assoc])
theorem short_dv {n d : Int} (hd : 0 < d) (h1 : -9223372036854775808 ≤ n) (h2 : n ≤ 9223372036854775807) (h3 : d ≤ 9223372036854775807) : short (Rat.divInt n d) := by
  have l16 : ∀ {n : Int}, -9223372036854775808 ≤ n → n ≤ 9223372036854775807 → len16 n ≤ 256 := fun h1 h2 => Nat.le_trans (len16_64 h1 h2) (by decide)
  have e := lowest_eq (n := n) hd
  have e1 : (wh (Rat.divInt n d).num).l.length = (wh (n / (Int.gcd n d : Int))).l.length := congrArg (fun f : Fr => f.n.l.length) e
  have e2 : (wh ((Rat.divInt n d).den : Int)).l.length = (wh (d / (Int.gcd n d : Int))).l.length := congrArg (fun f : Fr => f.d.l.length) e
  refine ⟨?_, ?_⟩
  · show (wh (Rat.divInt n d).num).l.length ≤ 256
    rw [e1]; exact len16_div (l16 h1 h2)
  · show (wh ((Rat.divInt n d).den : Int)).l.length ≤ 256
    rw [e2]; exact len16_div (l16 (by omega) h3)
/-- Weights and days. -/
def wsG (w : Va → Int) (xs : List Tst) : Int := (xs.map fun s => w s.v * (s.hi - s.lo)).sum
theorem wsG_snoc {w : Va → Int} {xs : List Tst} {s : Tst} : wsG w (xs ++ [s]) = wsG w xs + w s.v * (s.hi - s.lo) := by simp [wsG]
theorem splitG {l : List Tst} (h : 0 < l.length) : l = l.take (l.length - 1) ++ [l.getD (l.length - 1) tst0] := by
  have e : l.take (l.length - 1 + 1) = l.take (l.length - 1) ++ [l[l.length - 1]] := List.take_succ_eq_append_getElem (by omega)
  rw [show l.length - 1 + 1 = l.length by omega, List.take_length] at e
  rw [List.getD_eq_getElem?_getD, List.getElem?_eq_getElem (by omega)]; exact e
theorem setG {l : List Tst} {x : Tst} (h : 0 < l.length) : l.set (l.length - 1) x = l.take (l.length - 1) ++ [x] := by
  have e := List.set_eq_take_append_cons_drop (l := l) (i := l.length - 1) (a := x)
  rw [if_pos (by omega), show l.length - 1 + 1 = l.length by omega, List.drop_length] at e
  exact e
theorem wsG_pst1 {w : Va → Int} {acc : List Tst} {s : Tst} : wsG w (pst1 acc s) = wsG w acc + if s.hi ≤ s.lo then 0 else w s.v * (s.hi - s.lo) := by
  rw [pst1]
  split
  · omega
  · split
    · rename_i hm
      have h1 : wsG w acc = wsG w (acc.take (acc.length - 1)) + w (acc.getD (acc.length - 1) tst0).v * ((acc.getD (acc.length - 1) tst0).hi - (acc.getD (acc.length - 1) tst0).lo) := by rw [← wsG_snoc, ← splitG hm.1]
      rw [setG hm.1, wsG_snoc, h1, ← hm.2.2, hm.2.1]
      simp only [Int.mul_sub]; omega
    · rw [wsG_snoc]
theorem wsG_pst {w : Va → Int} : ∀ (ps acc : List Tst), wsG w (pst acc ps) = wsG w acc + (ps.map fun s => if s.hi ≤ s.lo then 0 else w s.v * (s.hi - s.lo)).sum
  | [], acc => by simp [pst]
  | s :: r, acc => by
    have ih := wsG_pst (w := w) r (pst1 acc s)
    rw [wsG_pst1] at ih
    simp only [pst, List.foldl_cons, List.map_cons, List.sum_cons] at *
    omega
def gS1 (w : Va → Int) (a b : Int) (s : Tst) : Int := if dyG a b s ≤ 0 then 0 else w s.v * dyG a b s
/-- The sum of the days from a to b. -/
def gS (w : Va → Int) (l : List Tst) (a b : Int) : Int := (l.map (gS1 w a b)).sum
theorem wsG_cut {w : Va → Int} {l : List Tst} {a b : Int} : wsG w (cutT l a b) = gS w l a b := by
  rw [cutT, wsG_pst]
  simp only [wsG, List.map_nil, List.sum_nil, Int.zero_add, List.map_map, gS]
  congr 1
  refine List.map_congr_left fun s _ => ?_
  have e1 : (clip a b s).hi = min s.hi b := rfl
  have e2 : (clip a b s).lo = max s.lo a := rfl
  show (if (clip a b s).hi ≤ (clip a b s).lo then (0 : Int) else w s.v * ((clip a b s).hi - (clip a b s).lo)) = gS1 w a b s
  by_cases h : (clip a b s).hi ≤ (clip a b s).lo
  · rw [if_pos h, gS1, if_pos (by simp only [dyG]; omega)]
  · rw [if_neg h, gS1, if_neg (by simp only [dyG]; omega)]; rfl
theorem gS_zero {w : Va → Int} {l : List Tst} {a b : Int} (h : b ≤ a) : gS w l a b = 0 := by
  rw [gS]
  induction l with
  | nil => rfl
  | cons s r ih => rw [List.map_cons, List.sum_cons, ih, gS1, if_pos (by simp only [dyG]; omega)]; rfl
theorem gS_add {w : Va → Int} {l : List Tst} {a c b : Int} (h : ∀ s ∈ l, s.lo < s.hi) (h1 : a ≤ c) (h2 : c ≤ b) : gS w l a c + gS w l c b = gS w l a b := by
  induction l with
  | nil => rfl
  | cons s r ih =>
    have ih := ih fun x hx => h x (List.mem_cons_of_mem _ hx)
    have hs := h s (List.mem_cons_self ..)
    have e : ∀ x y, gS w (s :: r) x y = gS1 w x y s + gS w r x y := fun _ _ => rfl
    rw [e, e, e, ← ih]
    have k : gS1 w a c s + gS1 w c b s = gS1 w a b s := by
      simp only [gS1]
      generalize w s.v = q
      by_cases d1 : dyG a c s ≤ 0
      · by_cases d2 : dyG c b s ≤ 0
        · rw [if_pos d1, if_pos d2, if_pos (by simp only [dyG] at *; omega)]; rfl
        · rw [if_pos d1, if_neg d2, if_neg (by simp only [dyG] at *; omega), show dyG a b s = dyG c b s by simp only [dyG] at *; omega]; omega
      · by_cases d2 : dyG c b s ≤ 0
        · rw [if_neg d1, if_pos d2, if_neg (by simp only [dyG] at *; omega), show dyG a b s = dyG a c s by simp only [dyG] at *; omega]; omega
        · rw [if_neg d1, if_neg d2, if_neg (by simp only [dyG] at *; omega), show dyG a b s = dyG a c s + dyG c b s by simp only [dyG] at *; omega, Int.mul_add]
    omega
/-- The days of a list of steps. -/
def dsG (xs : List Tst) : Int := (xs.map fun s => s.hi - s.lo).sum
theorem dsG_le : ∀ {xs : List Tst} {c e : Int}, ascT xs → (∀ s ∈ xs, c ≤ s.lo ∧ s.hi ≤ e) → c ≤ e → 0 ≤ dsG xs ∧ dsG xs ≤ e - c
  | [], c, e, _, _, h => by simp [dsG]; omega
  | s :: r, c, e, ha, hb, h => by
    have hs := ha.1 s (List.mem_cons_self ..)
    have hsb := hb s (List.mem_cons_self ..)
    have hp := List.pairwise_cons.1 ha.2
    have ih := dsG_le (xs := r) (c := s.hi) (e := e) ⟨fun x hx => ha.1 x (List.mem_cons_of_mem _ hx), hp.2⟩ (fun x hx => ⟨hp.1 x hx, (hb x (List.mem_cons_of_mem _ hx)).2⟩) hsb.2
    have e1 : dsG (s :: r) = (s.hi - s.lo) + dsG r := rfl
    omega
theorem wsG_bd {w : Va → Int} {B : Int} : ∀ {xs : List Tst}, (∀ s ∈ xs, s.lo < s.hi ∧ -B ≤ w s.v ∧ w s.v ≤ B) → -(B * dsG xs) ≤ wsG w xs ∧ wsG w xs ≤ B * dsG xs
  | [], _ => by simp [dsG, wsG]
  | s :: r, h => by
    obtain ⟨h1, h2, h3⟩ := h s (List.mem_cons_self ..)
    have ih := wsG_bd (w := w) (B := B) (xs := r) fun x hx => h x (List.mem_cons_of_mem _ hx)
    have e1 : dsG (s :: r) = (s.hi - s.lo) + dsG r := rfl
    have e2 : wsG w (s :: r) = w s.v * (s.hi - s.lo) + wsG w r := rfl
    rw [e1, e2, Int.mul_add]
    have m1 := Int.mul_le_mul_of_nonneg_right h2 (show 0 ≤ s.hi - s.lo by omega)
    have m2 := Int.mul_le_mul_of_nonneg_right h3 (show 0 ≤ s.hi - s.lo by omega)
    rw [Int.neg_mul] at m1
    omega
/-- Steps whose values have the denominator D, and no more than B parts. -/
def wtOk (D B : Int) (l : List Tst) : Prop := ∀ s ∈ l, s.v.f.rat = Rat.divInt (wt D s.v) D ∧ -B ≤ wt D s.v ∧ wt D s.v ≤ B
theorem sum_G {D B : Int} {l : List Tst} (hD : 0 < D) (hDb : D ≤ 9223372036854775807) (hB0 : 0 ≤ B) (hB : B ≤ 140737488355327) (ha : ascT l) (hb : ∀ s ∈ l, 0 ≤ s.lo ∧ s.hi ≤ 65536) (hw : wtOk D B l) : ∀ i, i ≤ l.length → sumT (l.take i) = some (Rat.divInt (wsG (wt D) (l.take i)) D)
  | 0, _ => by
    rw [List.take_zero]
    show some ((0 : Int) : Rat) = some (Rat.divInt 0 D)
    rw [Rat.zero_divInt]; rfl
  | i + 1, hi => by
    have ih := sum_G hD hDb hB0 hB ha hb hw i (by omega)
    have hm := xe6 (l := l) (i := i) (by omega)
    have h1 := ha.1 _ hm
    have h2 := hb _ hm
    obtain ⟨w1, w2, w3⟩ := hw _ hm
    have sub : ∀ s ∈ l.take (i + 1), s ∈ l := fun s hs => List.mem_of_mem_take hs
    have hd := dsG_le (xs := l.take (i + 1)) (c := 0) (e := 65536) ⟨fun s hs => ha.1 s (sub s hs), ha.2.sublist (List.take_sublist ..)⟩ (fun s hs => hb s (sub s hs)) (by decide)
    have hbd := wsG_bd (w := wt D) (B := B) (xs := l.take (i + 1)) fun s hs => ⟨ha.1 s (sub s hs), (hw s (sub s hs)).2⟩
    have e : wsG (wt D) (l.take (i + 1)) = wsG (wt D) (l.take i) + wt D (l.getD i tst0).v * ((l.getD i tst0).hi - (l.getD i tst0).lo) := sum_nxT (by omega)
    have big : B * dsG (l.take (i + 1)) ≤ 9223372036854775807 := by
      have h3 := Int.mul_le_mul hB hd.2 hd.1 (by decide)
      omega
    have m1 := Int.mul_le_mul_of_nonneg_right w2 (show 0 ≤ (l.getD i tst0).hi - (l.getD i tst0).lo by omega)
    have m2 := Int.mul_le_mul_of_nonneg_right w3 (show 0 ≤ (l.getD i tst0).hi - (l.getD i tst0).lo by omega)
    have m3 := Int.mul_le_mul hB (show (l.getD i tst0).hi - (l.getD i tst0).lo ≤ 65536 by omega) (by omega) (by decide)
    rw [Int.neg_mul] at m1
    rw [sum_next (by omega), ih, sumStep, w1, mulG, addG hD, ← e, if_pos ⟨short_dv hD (by omega) (by omega) hDb, short_dv hD (by omega) (by omega) hDb⟩]
theorem cut_pieces {l : List Tst} {a b : Int} {P : Va → Prop} (h : ∀ s ∈ l, (0 ≤ s.lo ∧ s.hi ≤ 65536) ∧ P s.v) : ∀ s ∈ cutT l a b, (0 ≤ s.lo ∧ s.hi ≤ 65536) ∧ P s.v := by
  refine pst_all (P := fun s => (0 ≤ s.lo ∧ s.hi ≤ 65536) ∧ P s.v) (fun x s hx hs e => ⟨⟨hx.1.1, hs.1.2⟩, hx.2⟩) _ _ (fun s hs => by cases hs) fun s hs hlt => ?_
  obtain ⟨x, hx, rfl⟩ := List.mem_map.1 hs
  have h1 := h x hx
  refine ⟨?_, h1.2⟩
  simp only [clip] at *
  omega
/-- The sum of the days from a to b, as a fraction. -/
theorem sum_cut {D B : Int} {l : List Tst} {a b : Int} (hD : 0 < D) (hDb : D ≤ 9223372036854775807) (hB0 : 0 ≤ B) (hB : B ≤ 140737488355327) (hr : ascT l) (hb : ∀ s ∈ l, 0 ≤ s.lo ∧ s.hi ≤ 65536) (hw : wtOk D B l) : sumT (cutT l a b) = some (Rat.divInt (gS (wt D) l a b) D) := by
  have hp := cut_pieces (a := a) (b := b) (P := fun v => v.f.rat = Rat.divInt (wt D v) D ∧ -B ≤ wt D v ∧ wt D v ≤ B) fun s hs => ⟨hb s hs, hw s hs⟩
  have := sum_G (l := cutT l a b) hD hDb hB0 hB (cut_val hr).1 (fun s hs => (hp s hs).1) (fun s hs => (hp s hs).2) _ (Nat.le_refl _)
  rwa [List.take_length, wsG_cut] at this
theorem gS_bd {D B : Int} {l : List Tst} {a b : Int} (hB0 : 0 ≤ B) (hr : ascT l) (_hb : ∀ s ∈ l, 0 ≤ s.lo ∧ s.hi ≤ 65536) (hw : wtOk D B l) (hab : a ≤ b) : -(B * (b - a)) ≤ gS (wt D) l a b ∧ gS (wt D) l a b ≤ B * (b - a) := by
  have hp : ∀ s ∈ cutT l a b, (a ≤ s.lo ∧ s.hi ≤ b) ∧ (-B ≤ wt D s.v ∧ wt D s.v ≤ B) := by
    refine pst_all (P := fun s => (a ≤ s.lo ∧ s.hi ≤ b) ∧ (-B ≤ wt D s.v ∧ wt D s.v ≤ B)) (fun x s hx hs e => ⟨⟨hx.1.1, hs.1.2⟩, hx.2⟩) _ _ (fun s hs => by cases hs) fun s hs hlt => ?_
    obtain ⟨x, hx, rfl⟩ := List.mem_map.1 hs
    exact ⟨by simp only [clip]; omega, (hw x hx).2⟩
  have h1 := dsG_le (xs := cutT l a b) (c := a) (e := b) (cut_val hr).1 (fun s hs => (hp s hs).1) hab
  have h2 := wsG_bd (w := wt D) (B := B) (xs := cutT l a b) fun s hs => ⟨(cut_val hr).1.1 s hs, (hp s hs).2⟩
  have h3 := Int.mul_le_mul_of_nonneg_left h1.2 hB0
  rw [wsG_cut] at h2
  omega
end An.S

/- Layer 5: timelines whose values have one kind and one denominator. Plain data, but for what the walks define. -/
namespace An.S
open Go
theorem dig_frG (q : Rat) : (fr q).dig := ⟨xe8 xd2 _, xe8 xd2 _⟩
/-- A value of the kind K, of at most B parts. -/
def gOk (K : Nat) (D B : Int) (v : Va) : Prop := (v.valid = true ∧ v.kind = K ∧ v.i = 0 ∧ v.f = fr v.f.rat ∧ short v.f.rat) ∧ v.f.rat = Rat.divInt (wt D v) D ∧ -B ≤ wt D v ∧ wt D v ≤ B
theorem gOk.dig {K : Nat} {D B : Int} {v : Va} (h : gOk K D B v) : v.f.dig := by rw [h.1.2.2.2.1]; exact dig_frG _
theorem gOk.mk {K : Nat} {D B k : Int} (hK : K = 2 ∨ K = 3) (hD : 0 < D) (hDb : D ≤ 9223372036854775807) (h1 : -B ≤ k) (h2 : k ≤ B) (hB : B ≤ 9223372036854775807) : gOk K D B ⟨K, fr (Rat.divInt k D), 0⟩ := by
  have hs : short (Rat.divInt k D) := short_dv hD (by omega) (by omega) hDb
  have hw : wt D ⟨K, fr (Rat.divInt k D), 0⟩ = k := wt_is hD (rat_fr _)
  refine ⟨⟨?_, rfl, rfl, by rw [rat_fr], by rw [rat_fr]; exact hs⟩, ?_, ?_, ?_⟩
  · rw [Va.valid, if_pos hK]
    simp only [Bool.and_eq_true, decide_eq_true_eq]
    exact ⟨trivial, valid_fr hs⟩
  · rw [hw]; exact rat_fr _
  · rw [hw]; exact h1
  · rw [hw]; exact h2
theorem gOk.mono {K : Nat} {D B B' : Int} {v : Va} (h : gOk K D B v) (hB : B ≤ B') : gOk K D B' v := ⟨h.1, h.2.1, by have := h.2.2.1; omega, by have := h.2.2.2; omega⟩
def isG (K : Nat) (D B : Int) (l : List Tst) : Prop := tRight l = true ∧ ∀ s ∈ l, gOk K D B s.v
section
variable {K : Nat} {D B : Int} {l a b : List Tst}
theorem isG.dig (h : isG K D B l) : ∀ s ∈ l, s.v.f.dig := fun s hs => (h.2 s hs).dig
theorem isG.bd (h : isG K D B l) : ∀ s ∈ l, 0 ≤ s.lo ∧ s.lo < s.hi ∧ s.hi ≤ 65536 := fun s hs => by
  obtain ⟨i, hi, rfl⟩ := exists_getD hs
  have := tRight_at h.1 hi
  exact ⟨this.1, this.2.1, this.2.2.1⟩
theorem isG.asc (h : isG K D B l) : ascT l := tRight_asc h.1
theorem isG.nb (h : isG K D B l) : nbT l := tRight_nb h.1
theorem isG.wt (h : isG K D B l) : wtOk D B l := fun s hs => (h.2 s hs).2
theorem isG.out (h : isG K D B l) : ∀ s ∈ l, 0 ≤ s.lo ∧ s.hi ≤ 65536 := fun s hs => by have := h.bd s hs; omega
theorem isG_nil : isG K D B [] := ⟨rfl, fun s hs => by cases hs⟩
theorem isG.mono {B' : Int} (h : isG K D B l) (hB : B ≤ B') : isG K D B' l := ⟨h.1, fun s hs => (h.2 s hs).mono hB⟩
theorem isG_of (h : ascT l) (hn : nbT l) (hv : ∀ s ∈ l, (0 ≤ s.lo ∧ s.hi ≤ 65536) ∧ gOk K D B s.v) : isG K D B l :=
  ⟨right_of (K := K) h hn fun s hs => ⟨(hv s hs).1.1, (hv s hs).1.2, (hv s hs).2.1.1, (hv s hs).2.1.2.1⟩, fun s hs => (hv s hs).2⟩
theorem isG.pst1 {s : Tst} (h : isG K D B l) (h0 : 0 ≤ s.lo) (h1 : s.hi ≤ 65536) (hv : gOk K D B s.v) (hl : 0 < l.length → (l.getD (l.length - 1) tst0).hi ≤ s.lo) : isG K D B (An.pst1 l s) := by
  refine ⟨pst1_right h.1 h0 h1 hv.1.1 fun hp => ⟨hl hp, ?_⟩, ?_⟩
  · have := (h.2 _ (xe6 (l := l) (i := l.length - 1) (by omega))).1.2.1
    rw [this, hv.1.2.1]
  · intro x hx
    rw [An.pst1] at hx
    split at hx
    · exact h.2 x hx
    · split at hx
      · rcases List.mem_or_eq_of_mem_set hx with h' | h'
        · exact h.2 x h'
        · subst h'; exact h.2 (l.getD (l.length - 1) tst0) (xe6 (by omega))
      · rcases List.mem_append.1 hx with h' | h'
        · exact h.2 x h'
        · rw [List.mem_singleton.1 h']; exact hv
/-- Put together out of pieces. -/
theorem isG_pst {ps : List Tst} (hp : ps.Pairwise fun s t => s.lo < s.hi → s.hi ≤ t.lo) (hv : ∀ s ∈ ps, s.lo < s.hi → (0 ≤ s.lo ∧ s.hi ≤ 65536) ∧ gOk K D B s.v) : isG K D B (pst [] ps) := by
  have h := pst_val ps [] ⟨fun s hs => (by cases hs), .nil⟩ trivial hp fun x hx => by cases hx
  exact isG_of h.1 h.2.1 (pst_all (P := fun s => (0 ≤ s.lo ∧ s.hi ≤ 65536) ∧ gOk K D B s.v) (fun x s hx hs e => ⟨⟨hx.1.1, hs.1.2⟩, hx.2⟩) _ _ (fun s hs => by cases hs) hv)
theorem isG.cut {x y : Int} (h : isG K D B l) : isG K D B (cutT l x y) := by
  refine isG_pst (h.asc.2.map (clip x y) fun s t hst _ => by simp only [clip]; omega) fun s hs _ => ?_
  obtain ⟨z, hz, rfl⟩ := List.mem_map.1 hs
  have := h.bd z hz
  exact ⟨by simp only [clip]; omega, h.2 z hz⟩
theorem bds_bd (ha : isG K D B a) (hb : isG K D B b) {x : Int} (hx : x ∈ bds [a, b]) : 0 ≤ x ∧ x ≤ 65536 := by
  obtain ⟨l, hl, s, hs, he⟩ := bds_mem.1 hx
  have : 0 ≤ s.lo ∧ s.lo < s.hi ∧ s.hi ≤ 65536 := by
    rcases List.mem_cons.1 hl with rfl | hl
    · exact ha.bd s hs
    · rw [List.mem_singleton.1 hl] at hs; exact hb.bd s hs
  omega
theorem segL_mem {g : Int → Option Va} : ∀ {ds : List Int} {s : Tst}, s ∈ segL g ds → s.lo ∈ ds ∧ s.hi ∈ ds ∧ g s.lo = some s.v
  | [], s, h => by cases h
  | [x], s, h => by cases h
  | x :: y :: r, s, h => by
    rw [segL] at h
    rcases List.mem_append.1 h with h | h
    · cases hg : g x with
      | none => rw [hg] at h; cases h
      | some v =>
        rw [hg] at h
        rw [List.mem_singleton.1 h]
        exact ⟨by simp, by simp, hg⟩
    · have := segL_mem h
      exact ⟨List.mem_cons_of_mem _ this.1, List.mem_cons_of_mem _ this.2.1, this.2.2⟩
theorem isG.join (ha : isG K D B a) (hb : isG K D B b) : isG K D B (jnT a b) := by
  refine isG_pst ((segL_pw bds_pw).2.imp (S := fun s t : Tst => s.lo < s.hi → s.hi ≤ t.lo) fun h' _ => h') fun s hs _ => ?_
  obtain ⟨h1, h2, h3⟩ := segL_mem hs
  have b1 := bds_bd ha hb h1
  have b2 := bds_bd ha hb h2
  refine ⟨⟨b1.1, b2.2⟩, ?_⟩
  rw [jnG] at h3
  rcases Option.or_eq_some_iff.1 h3 with h4 | ⟨_, h4⟩
  · obtain ⟨t, ht, _, e⟩ := valT_some h4
    rw [← e]; exact hb.2 t ht
  · obtain ⟨t, ht, _, e⟩ := valT_some h4
    rw [← e]; exact ha.2 t ht
theorem isG.same {D' B' : Int} {K' : Nat} (ha : isG K D B a) (hb : isG K' D' B' b) (h : ∀ d, valT a d = valT b d) : a = b := tl_same ha.1 hb.1 h
/-- What Sum returns. -/
theorem isG.sum {x y : Int} (hK : K = 2 ∨ K = 3) (hD : 0 < D) (hDb : D ≤ 9223372036854775807) (hB0 : 0 ≤ B) (hB : B ≤ 140737488355327) (h : isG K D B l) (hxy : Sn.ok ⟨x, y⟩ = true) : sumC l x y ∧ sumT (cutT l x y) = some (Rat.divInt (gS (An.S.wt D) l x y) D) := by
  refine ⟨⟨⟨h.1, hxy⟩, ?_⟩, sum_cut hD hDb hB0 hB h.asc h.out h.wt⟩
  rcases Nat.eq_zero_or_pos l.length with h0 | h0
  · exact .inl h0
  · have := (h.2 _ (xe6 (l := l) h0)).1.2.1
    rcases hK with rfl | rfl
    · exact .inr (.inl this)
    · exact .inr (.inr this)
end
end An.S

/- Layer 4: sets are swept day by day. Plain data. -/
namespace An.S
open Go
/-- The i-th border of a set. -/
def bd (l : List Sn) (i : Nat) : Int := if i % 2 = 0 then (l.getD (i / 2) sn0).lo else (l.getD (i / 2) sn0).hi
/-- The next day at which something changes, if the borders i and j come next. -/
def cday1 (a : List Sn) (i : Nat) : Int := if i < 2 * a.length then min 65536 (bd a i) else 65536
def cday (a b : List Sn) (i j : Nat) : Int := if j < 2 * b.length then min (cday1 a i) (bd b j) else cday1 a i
def cnxt (a : List Sn) (i : Nat) (d : Int) : Nat := if i < 2 * a.length ∧ bd a i = d then i + 1 else i
abbrev Ch := Int × Nat × Nat
def ch0 : Ch := (0, 0, 0)
def chL (a b : List Sn) : Nat → Nat → Nat → List Ch
  | 0, _, _ => []
  | f + 1, i, j => if i < 2 * a.length ∨ j < 2 * b.length then (cday a b i j, cnxt a i (cday a b i j), cnxt b j (cday a b i j)) :: chL a b f (cnxt a i (cday a b i j)) (cnxt b j (cday a b i j)) else []
def chAll (a b : List Sn) : List Ch := chL a b (2 * a.length + 2 * b.length) 0 0
theorem bd_le {l : List Sn} {i : Nat} (h : sVal l = true) (hi : i < 2 * l.length) : 0 ≤ bd l i ∧ bd l i ≤ 65536 := by
  have := sVal_at h (i := i / 2) (by omega)
  rw [bd]; split <;> omega
theorem bd_succ {l : List Sn} {i : Nat} (h : sVal l = true) (hi : i + 1 < 2 * l.length) : bd l i < bd l (i + 1) := by
  rcases Nat.mod_two_eq_zero_or_one i with h0 | h0
  · have := sVal_at h (i := i / 2) (by omega)
    rw [bd, bd, if_pos h0, if_neg (by omega), show (i + 1) / 2 = i / 2 by omega]; exact this.2.1
  · have := (sOkA_iff.1 (sVal_iff.1 h ((i + 1) / 2) (by omega))).2.2.resolve_left (by omega)
    rw [bd, bd, if_neg (by omega), if_pos (by omega)]
    rw [show (i + 1) / 2 - 1 = i / 2 by omega] at this; exact this
theorem bd_lt {l : List Sn} (h : sVal l = true) : ∀ {j i : Nat}, i < j → j < 2 * l.length → bd l i < bd l j
  | j + 1, i, hij, hj => by
    have h1 := bd_succ h hj
    rcases Nat.lt_or_ge i j with h2 | h2
    · have := bd_lt h h2 (by omega); omega
    · have : i = j := by omega
      subst this; exact h1
/-- One of two borders is reached. -/
theorem cday_is {a b : List Sn} {i j : Nat} (ha : sVal a = true) (hb : sVal b = true) (h : i < 2 * a.length ∨ j < 2 * b.length) : (i < 2 * a.length → cday a b i j ≤ bd a i) ∧ (j < 2 * b.length → cday a b i j ≤ bd b j) ∧ (i < 2 * a.length ∧ cday a b i j = bd a i ∨ j < 2 * b.length ∧ cday a b i j = bd b j) := by
  have h1 := fun hi => bd_le (i := i) ha hi
  have h2 := fun hj => bd_le (i := j) hb hj
  simp only [cday, cday1]
  by_cases hi : i < 2 * a.length
  · have h1 := h1 hi
    by_cases hj : j < 2 * b.length
    · have h2 := h2 hj
      rw [if_pos hj, if_pos hi]; omega
    · rw [if_neg hj, if_pos hi]; omega
  · have hj : j < 2 * b.length := h.resolve_left hi
    have h2 := h2 hj
    rw [if_pos hj, if_neg hi]; omega
theorem cnxt_adv {a b : List Sn} {i j : Nat} (ha : sVal a = true) (hb : sVal b = true) (h : i < 2 * a.length ∨ j < 2 * b.length) : i ≤ cnxt a i (cday a b i j) ∧ cnxt a i (cday a b i j) ≤ i + 1 ∧ j ≤ cnxt b j (cday a b i j) ∧ cnxt b j (cday a b i j) ≤ j + 1 ∧ i + j < cnxt a i (cday a b i j) + cnxt b j (cday a b i j) := by
  have := (cday_is ha hb h).2.2
  generalize cday a b i j = d at *
  simp only [cnxt]
  rcases this with h1 | h1
  · rw [if_pos ⟨h1.1, h1.2.symm⟩]; split <;> omega
  · rw [if_pos (c := j < 2 * b.length ∧ bd b j = d) ⟨h1.1, h1.2.symm⟩]; split <;> omega
theorem cnxt_le {a : List Sn} {i : Nat} {d : Int} (h : i ≤ 2 * a.length) : cnxt a i d ≤ 2 * a.length := by rw [cnxt]; split <;> omega
theorem drop_cons {α : Type} {l r : List α} {x : α} {k : Nat} (h : l.drop k = x :: r) : k < l.length ∧ l[k]? = some x ∧ l.drop (k + 1) = r := by
  have hk : k < l.length := by
    rcases Nat.lt_or_ge k l.length with h1 | h1
    · exact h1
    · rw [List.drop_eq_nil_of_le h1] at h; cases h
  rw [List.drop_eq_getElem_cons hk, List.cons.injEq] at h
  exact ⟨hk, by rw [List.getElem?_eq_getElem hk, h.1], h.2⟩
/-- The round k, with the borders i and j next. -/
def CI (a b : List Sn) (k i j : Nat) : Prop := i ≤ 2 * a.length ∧ j ≤ 2 * b.length ∧ k ≤ (chAll a b).length ∧ ∃ f, chL a b f i j = (chAll a b).drop k ∧ 2 * a.length + 2 * b.length ≤ f + (i + j)
theorem CI.next {a b : List Sn} {k i j : Nat} (ha : sVal a = true) (hb : sVal b = true) (h : CI a b k i j) (hij : i < 2 * a.length ∨ j < 2 * b.length) : k < (chAll a b).length ∧ (chAll a b).getD k ch0 = (cday a b i j, cnxt a i (cday a b i j), cnxt b j (cday a b i j)) ∧ CI a b (k + 1) (cnxt a i (cday a b i j)) (cnxt b j (cday a b i j)) ∧ i + j < cnxt a i (cday a b i j) + cnxt b j (cday a b i j) := by
  obtain ⟨h1, h2, h3, f, h4, h5⟩ := h
  have hadv := cnxt_adv ha hb hij
  cases f with
  | zero => omega
  | succ f =>
    rw [chL, if_pos hij] at h4
    obtain ⟨e1, e2, e3⟩ := drop_cons h4.symm
    refine ⟨e1, by rw [List.getD_eq_getElem?_getD, e2]; rfl, ⟨cnxt_le h1, cnxt_le h2, e1, f, e3.symm, by omega⟩, hadv.2.2.2.2⟩
theorem CI.stop {a b : List Sn} {k i j : Nat} (h : CI a b k i j) (hij : ¬ (i < 2 * a.length ∨ j < 2 * b.length)) : (chAll a b).length ≤ k := by
  obtain ⟨_, _, _, f, h4, _⟩ := h
  have : chL a b f i j = [] := by cases f with
    | zero => rfl
    | succ f => rw [chL, if_neg hij]
  rw [this] at h4
  have := congrArg List.length h4
  simp at this; omega
theorem CI.zero {a b : List Sn} : CI a b 0 0 0 := ⟨Nat.zero_le _, Nat.zero_le _, Nat.zero_le _, _, rfl, by omega⟩
/-- What is chosen. -/
structure Ck where
  xs : List Sn
  lo : Int
  ins : Bool
def ck1 (kp : Bool → Bool → Bool) (s : Ck) (c : Ch) : Ck :=
  ⟨if s.ins && !kp (c.2.1 % 2 == 1) (c.2.2 % 2 == 1) then s.xs ++ [⟨if kp (c.2.1 % 2 == 1) (c.2.2 % 2 == 1) && !s.ins then c.1 else s.lo, c.1⟩] else s.xs, if kp (c.2.1 % 2 == 1) (c.2.2 % 2 == 1) && !s.ins then c.1 else s.lo, kp (c.2.1 % 2 == 1) (c.2.2 % 2 == 1)⟩
def ckRun (kp : Bool → Bool → Bool) (a b : List Sn) : Ck := (chAll a b).foldl (ck1 kp) ⟨[], 0, false⟩
end An.S

/- Layer 4: what is chosen is the set of the days that are wanted; sets with the same days are the same. Plain data. -/
namespace An.S
open Go
def mem (l : List Sn) (d : Int) : Bool := l.any fun s => decide (s.lo ≤ d) && decide (d < s.hi)
theorem mem_iff {l : List Sn} {d : Int} : mem l d = true ↔ ∃ s ∈ l, s.lo ≤ d ∧ d < s.hi := by simp [mem]
theorem mem_no {l : List Sn} {d : Int} : mem l d = false ↔ ∀ s ∈ l, ¬ (s.lo ≤ d ∧ d < s.hi) := by
  rw [← Bool.not_eq_true, mem_iff]; simp only [not_exists, not_and]
theorem mem_snoc {l : List Sn} {s : Sn} {d : Int} : mem (l ++ [s]) d = (mem l d || (decide (s.lo ≤ d) && decide (d < s.hi))) := by simp [mem]
/-- The border i is the first one behind the day D. -/
def Pos (l : List Sn) (i : Nat) (D : Int) : Prop := i ≤ 2 * l.length ∧ (∀ k, k < i → bd l k ≤ D) ∧ ∀ k, i ≤ k → k < 2 * l.length → D < bd l k
theorem exists_getS {l : List Sn} {s : Sn} (hs : s ∈ l) : ∃ i, i < l.length ∧ s = l.getD i sn0 := by
  obtain ⟨i, hi, e⟩ := List.getElem_of_mem hs
  exact ⟨i, hi, by rw [List.getD_eq_getElem?_getD, List.getElem?_eq_getElem hi]; exact e.symm⟩
theorem mem_getS {l : List Sn} {i : Nat} (hi : i < l.length) : l.getD i sn0 ∈ l := by
  rw [List.getD_eq_getElem?_getD, List.getElem?_eq_getElem hi]; exact List.getElem_mem hi
theorem bd_even (l : List Sn) (p : Nat) : bd l (2 * p) = (l.getD p sn0).lo := by rw [bd, if_pos (by omega), show 2 * p / 2 = p by omega]
theorem bd_odd (l : List Sn) (p : Nat) : bd l (2 * p + 1) = (l.getD p sn0).hi := by rw [bd, if_neg (by omega), show (2 * p + 1) / 2 = p by omega]
theorem Pos.mem {l : List Sn} {i : Nat} {D : Int} (h : Pos l i D) : mem l D = (i % 2 == 1) := by
  obtain ⟨h1, h2, h3⟩ := h
  rw [Bool.eq_iff_iff, mem_iff, beq_iff_eq]
  constructor
  · rintro ⟨s, hs, h4, h5⟩
    obtain ⟨p, hp, rfl⟩ := exists_getS hs
    rw [← bd_even] at h4; rw [← bd_odd] at h5
    have a1 : ¬ i ≤ 2 * p := fun h' => by have := h3 _ h' (by omega); omega
    have a2 : ¬ 2 * p + 1 < i := fun h' => by have := h2 _ h'; omega
    omega
  · intro h4
    have e : i = 2 * (i / 2) + 1 := by omega
    refine ⟨l.getD (i / 2) sn0, mem_getS (by omega), ?_, ?_⟩
    · rw [← bd_even]; exact h2 _ (by omega)
    · rw [← bd_odd]; exact h3 _ (by omega) (by omega)
theorem Pos.stay {l : List Sn} {i : Nat} {D d e : Int} (hv : sVal l = true) (h : Pos l i D) (hd : D ≤ d) (he : d < e) (hb : i < 2 * l.length → e ≤ bd l i) : Pos l i d := by
  refine ⟨h.1, fun k hk => by have := h.2.1 k hk; omega, fun k hk hk2 => ?_⟩
  have h1 := hb (by omega)
  rcases Nat.lt_or_ge i k with h2 | h2
  · have := bd_lt hv h2 hk2; omega
  · have : k = i := by omega
    subst this; omega
theorem Pos.next {l : List Sn} {i : Nat} {D e : Int} (hv : sVal l = true) (h : Pos l i D) (he : D < e) (hb : i < 2 * l.length → e ≤ bd l i) : Pos l (cnxt l i e) e := by
  refine ⟨cnxt_le h.1, fun k hk => ?_, fun k hk hk2 => ?_⟩
  · rw [cnxt] at hk
    split at hk
    · rename_i hc
      rcases Nat.lt_or_ge k i with h2 | h2
      · have := h.2.1 k h2; omega
      · have : k = i := by omega
        subst this; omega
    · have := h.2.1 k hk; omega
  · rw [cnxt] at hk
    split at hk
    · rename_i hc
      have := bd_lt hv (show i < k by omega) hk2; omega
    · rename_i hc
      have h1 := hb (by omega)
      rcases Nat.lt_or_ge i k with h2 | h2
      · have := bd_lt hv h2 hk2; omega
      · have : k = i := by omega
        subst this
        have : ¬ bd l k = e := fun h' => hc ⟨hk2, h'⟩
        omega
theorem Pos.zero {l : List Sn} (hv : sVal l = true) : Pos l 0 (-1) := ⟨Nat.zero_le _, fun k hk => by omega, fun k _ hk2 => by have := bd_le hv hk2; omega⟩
theorem sVal_lt {l : List Sn} (h : sVal l = true) {i j : Nat} (hij : i < j) (hj : j < l.length) : (l.getD i sn0).hi < (l.getD j sn0).lo := by
  have := bd_lt h (show 2 * i + 1 < 2 * j by omega) (by omega)
  rwa [bd_odd, bd_even] at this
theorem lastS_no {l : List Sn} {d : Int} (h : sVal l = true) (hl : 0 < l.length → (lastS l).hi ≤ d) : mem l d = false := mem_no.2 fun s hs h' => by
  obtain ⟨i, hi, rfl⟩ := exists_getS hs
  have h1 := hl (by omega)
  have h2 := sVal_at h hi
  rcases Nat.lt_or_ge i (l.length - 1) with h3 | h3
  · have h4 := sVal_lt h h3 (by omega)
    have h5 := sVal_at h (i := l.length - 1) (by omega)
    have h6 : (l.getD (l.length - 1) sn0).hi ≤ d := h1
    omega
  · have : i = l.length - 1 := by omega
    subst this
    have h6 : (l.getD (l.length - 1) sn0).hi ≤ d := h1
    omega
structure CkI (kp : Bool → Bool → Bool) (a b : List Sn) (s : Ck) (i j : Nat) (D : Int) : Prop where
  d0 : -1 ≤ D
  pa : Pos a i D
  pb : Pos b j D
  ins : s.ins = kp (i % 2 == 1) (j % 2 == 1)
  val : sVal s.xs = true
  last : 0 < s.xs.length → (lastS s.xs).hi ≤ D ∧ (s.ins = true → (lastS s.xs).hi < s.lo)
  lo : s.ins = true → 0 ≤ s.lo ∧ s.lo ≤ D
  all : ∀ d, d ≤ D → (mem s.xs d || (s.ins && decide (s.lo ≤ d))) = kp (mem a d) (mem b d)
theorem CkI.next {kp : Bool → Bool → Bool} {a b : List Sn} {s : Ck} {i j : Nat} {D : Int} (ha : sVal a = true) (hb : sVal b = true) (h : CkI kp a b s i j D) (hij : i < 2 * a.length ∨ j < 2 * b.length) : CkI kp a b (ck1 kp s (cday a b i j, cnxt a i (cday a b i j), cnxt b j (cday a b i j))) (cnxt a i (cday a b i j)) (cnxt b j (cday a b i j)) (cday a b i j) := by
  obtain ⟨c1, c2, c3⟩ := cday_is ha hb hij
  have hD : D < cday a b i j := by
    rcases c3 with c3 | c3
    · have := h.pa.2.2 i (Nat.le_refl _) c3.1; omega
    · have := h.pb.2.2 j (Nat.le_refl _) c3.1; omega
  have hE : cday a b i j ≤ 65536 := by
    rcases c3 with c3 | c3
    · have := bd_le ha c3.1; omega
    · have := bd_le hb c3.1; omega
  generalize cday a b i j = e at *
  have pa := h.pa.next ha hD c1
  have pb := h.pb.next hb hD c2
  have mid : ∀ d, D < d → d < e → kp (mem a d) (mem b d) = s.ins := fun d h1 h2 => by
    rw [(h.pa.stay ha (by omega) h2 c1).mem, (h.pb.stay hb (by omega) h2 c2).mem, h.ins]
  have now : kp (mem a e) (mem b e) = kp (cnxt a i e % 2 == 1) (cnxt b j e % 2 == 1) := by rw [pa.mem, pb.mem]
  have hno : ∀ d, D ≤ d → mem s.xs d = false := fun d hd => lastS_no h.val fun h0 => by have := (h.last h0).1; omega
  obtain ⟨xs, lo, ins⟩ := s
  have hd0 := h.d0
  have hd1 : -1 ≤ e := by omega
  obtain ⟨_, _, _, h3, h4, h5, h6, h7⟩ := h
  simp only at *
  cases hn : kp (cnxt a i e % 2 == 1) (cnxt b j e % 2 == 1) <;> cases ins
  · -- outside, outside
    have e1 : ck1 kp ⟨xs, lo, false⟩ (e, cnxt a i e, cnxt b j e) = ⟨xs, lo, false⟩ := by simp [ck1, hn]
    rw [e1]
    refine ⟨hd1, pa, pb, hn.symm, h4, fun h0 => ⟨by have := (h5 h0).1; show (lastS xs).hi ≤ e; omega, fun h' => by cases h'⟩, fun h' => (by cases h'), fun d hd => ?_⟩
    show (mem xs d || (false && decide (lo ≤ d))) = _
    rcases Int.lt_or_le D d with hd2 | hd2
    · rw [hno d (by omega)]
      rcases Int.lt_or_le d e with hd3 | hd3
      · rw [mid d hd2 hd3]; rfl
      · rw [show d = e by omega, now, hn]; rfl
    · exact h7 d hd2
  · -- ends
    have e1 : ck1 kp ⟨xs, lo, true⟩ (e, cnxt a i e, cnxt b j e) = ⟨xs ++ [⟨lo, e⟩], lo, false⟩ := by simp [ck1, hn]
    rw [e1]
    obtain ⟨l0, l1⟩ := h6 rfl
    refine ⟨hd1, pa, pb, hn.symm, sVal_snoc h4 ⟨l0, by show lo < e; omega, hE⟩ fun h0 => (h5 h0).2 rfl, fun _ => ⟨?_, fun h' => by cases h'⟩, fun h' => (by cases h'), fun d hd => ?_⟩
    · show (lastS (xs ++ [⟨lo, e⟩])).hi ≤ e
      rw [lastS, getD_snocS, List.length_append, List.length_singleton, if_neg (by omega), if_pos (by omega)]
      exact Int.le_refl _
    · show (mem (xs ++ [⟨lo, e⟩]) d || (false && _)) = _
      rw [mem_snoc]
      rcases Int.lt_or_le D d with hd2 | hd2
      · rw [hno d (by omega)]
        rcases Int.lt_or_le d e with hd3 | hd3
        · rw [mid d hd2 hd3]; simp; omega
        · rw [show d = e by omega, now, hn]; simp
      · rw [← h7 d hd2, show decide (d < e) = true from decide_eq_true (by omega)]; simp
  · -- begins
    have e1 : ck1 kp ⟨xs, lo, false⟩ (e, cnxt a i e, cnxt b j e) = ⟨xs, e, true⟩ := by simp [ck1, hn]
    rw [e1]
    refine ⟨hd1, pa, pb, hn.symm, h4, fun h0 => ⟨by have := (h5 h0).1; show (lastS xs).hi ≤ e; omega, fun _ => by have := (h5 h0).1; show (lastS xs).hi < e; omega⟩, fun _ => ⟨by show 0 ≤ e; omega, Int.le_refl _⟩, fun d hd => ?_⟩
    show (mem xs d || (true && decide (e ≤ d))) = _
    rcases Int.lt_or_le D d with hd2 | hd2
    · rw [hno d (by omega)]
      rcases Int.lt_or_le d e with hd3 | hd3
      · rw [mid d hd2 hd3]; simp; omega
      · rw [show d = e by omega, now, hn]; simp
    · rw [← h7 d hd2, show decide (e ≤ d) = false from decide_eq_false (by omega)]; simp
  · -- inside, inside
    have e1 : ck1 kp ⟨xs, lo, true⟩ (e, cnxt a i e, cnxt b j e) = ⟨xs, lo, true⟩ := by simp [ck1, hn]
    rw [e1]
    obtain ⟨l0, l1⟩ := h6 rfl
    refine ⟨hd1, pa, pb, hn.symm, h4, fun h0 => ⟨by have := (h5 h0).1; show (lastS xs).hi ≤ e; omega, (h5 h0).2⟩, fun _ => ⟨l0, by show lo ≤ e; omega⟩, fun d hd => ?_⟩
    show (mem xs d || (true && decide (lo ≤ d))) = _
    rcases Int.lt_or_le D d with hd2 | hd2
    · rw [hno d (by omega)]
      rcases Int.lt_or_le d e with hd3 | hd3
      · rw [mid d hd2 hd3]; simp; omega
      · rw [show d = e by omega, now, hn]; simp; omega
    · exact h7 d hd2
/-! Sets with the same days are the same. -/
def setS (l : List Sn) : Prop := (∀ s ∈ l, okS s) ∧ l.Pairwise fun s t => s.hi < t.lo
theorem mem_cons {s : Sn} {r : List Sn} {d : Int} : mem (s :: r) d = ((decide (s.lo ≤ d) && decide (d < s.hi)) || mem r d) := by simp [mem]
/-! Worked days. -/
theorem mem_append {a b : List Sn} {d : Int} : mem (a ++ b) d = (mem a d || mem b d) := by simp [mem]
theorem mem_mrg {d : Int} : ∀ (xs acc : List Sn), ascS xs → sVal acc = true → (0 < acc.length → ∀ s ∈ xs, (lastS acc).hi ≤ s.lo) → mem (xs.foldl mrg1 acc) d = (mem acc d || mem xs d)
  | [], acc, _, _, _ => by simp [mem]
  | s :: r, acc, hx, hv, hl => by
    have hs := hx.1 s (List.mem_cons_self ..)
    have hp := List.pairwise_cons.1 hx.2
    have hr : ascS r := ⟨fun t ht => hx.1 t (List.mem_cons_of_mem _ ht), hp.2⟩
    have h1 := mrg_asc [s] acc ⟨fun t ht => hx.1 t (by rw [List.mem_singleton.1 ht]; exact List.mem_cons_self ..), List.pairwise_singleton ..⟩ hv fun h0 t ht => hl h0 t (by rw [List.mem_singleton.1 ht]; exact List.mem_cons_self ..)
    have key : mem (mrg1 acc s) d = (mem acc d || (decide (s.lo ≤ d) && decide (d < s.hi))) ∧ (lastS (mrg1 acc s)).hi = s.hi := by
      rw [mrg1]
      split
      · rename_i hm
        have h2 : (lastS acc).hi = s.lo := by have := hl hm.1 s (List.mem_cons_self ..); have h2 : s.lo ≤ (lastS acc).hi := hm.2; omega
        have hmax : max (acc.getD (acc.length - 1) sn0).hi s.hi = s.hi := by
          have h3 : (acc.getD (acc.length - 1) sn0).hi = s.lo := h2
          have := hs.2.1; omega
        rw [hmax]
        refine ⟨?_, by rw [lastS, List.length_set, getD_setS (by omega), if_pos rfl]⟩
        rw [set_lastE hm.1, mem_snoc]
        have e3 : mem acc d = (mem (acc.take (acc.length - 1)) d || (decide ((lastS acc).lo ≤ d) && decide (d < (lastS acc).hi))) := by rw [← mem_snoc, ← split_last hm.1]
        rw [e3, h2]
        have h4 := sVal_at hv (i := acc.length - 1) (by omega)
        have h5 : (lastS acc).lo < s.lo := by rw [← h2]; exact h4.2.1
        have h6 : (acc.getD (acc.length - 1) sn0).lo = (lastS acc).lo := rfl
        have := hs.2.1
        dsimp only
        rw [h6, Bool.or_assoc]
        congr 1
        rw [Bool.eq_iff_iff]; simp; omega
      · rename_i hm
        exact ⟨mem_snoc, by rw [lastS, getD_snocS, List.length_append, List.length_singleton, if_neg (by omega), if_pos (by omega)]⟩
    have ih := mem_mrg (d := d) r (mrg1 acc s) hr h1.1 fun _ t ht => by rw [key.2]; exact hp.1 t ht
    rw [List.foldl_cons, ih, key.1, mem_cons, Bool.or_assoc]
end An.S

/- Layer 5: days looked for, days covered, days that differ. Plain data, but for what the walks define. -/
namespace An.S
open Go
/-- The index of the first step that has days from d on. -/
def fndT (l : List Tst) (d : Int) : Nat := (l.takeWhile fun s => decide (s.hi ≤ d)).length
/-- What At returns. -/
def atR (l : List Tst) (d : Int) : Option Va := if tRight l = true then valT l d else none
/-- The days of the steps. -/
def spT (s : Tst) : Sn := ⟨s.lo, s.hi⟩
def cvS (l : List Tst) : List Sn := l.map spT
def cvL (l : List Tst) (i : Nat) : List Sn := (l.take i).map spT ++ List.replicate (l.length - i) sn0
theorem cvL_len {l : List Tst} {i : Nat} (hi : i ≤ l.length) : (cvL l i).length = l.length := by simp [cvL]; omega
theorem cvL_set {l : List Tst} {i : Nat} (hi : i < l.length) : (cvL l i).set i (spT (l.getD i tst0)) = cvL l (i + 1) := by
  have h1 : ((l.take i).map spT).length = i := by simp; omega
  rw [cvL, List.set_append_right _ _ (by omega), h1, Nat.sub_self, show l.length - i = (l.length - (i + 1)) + 1 by omega, List.replicate_succ, List.set_cons_zero, cvL, List.take_succ_eq_append_getElem hi, List.map_append, List.append_assoc, List.getD_eq_getElem?_getD, List.getElem?_eq_getElem hi]
  rfl
theorem cvL_all (l : List Tst) : cvL l l.length = cvS l := by simp [cvL, cvS]
theorem cvS_asc {l : List Tst} (h : tRight l = true) : ascS (cvS l) := by
  refine ⟨fun s hs => ?_, (tRight_pair h).map spT fun s t hst => hst⟩
  obtain ⟨x, hx, rfl⟩ := List.mem_map.1 hs
  obtain ⟨i, hi, rfl⟩ := exists_getD hx
  have := tRight_at h hi
  exact ⟨this.1, this.2.1, this.2.2.1⟩
theorem mkS_asc {l : List Sn} (h : ascS l) : mkS l = mrg l := by rw [mkS, ascS_pos h, ascS_srt h]
/-- What Covers returns. -/
def cvT (l : List Tst) : List Sn := mkS (cvS l)
theorem mem_cvS {l : List Tst} {d : Int} : mem (cvS l) d = (valT l d).isSome := by
  rw [Bool.eq_iff_iff, mem_iff]
  constructor
  · rintro ⟨s, hs, h⟩
    obtain ⟨x, hx, rfl⟩ := List.mem_map.1 hs
    cases hv : valT l d with
    | some v => rfl
    | none => exact absurd h (valT_none.1 hv x hx)
  · intro h
    obtain ⟨v, hv⟩ := Option.isSome_iff_exists.1 h
    obtain ⟨s, hs, h2, _⟩ := valT_some hv
    exact ⟨spT s, List.mem_map_of_mem hs, h2⟩
theorem mk_set {l : List Sn} (h : ascS l) : sVal (mkS l) = true ∧ ∀ d, mem (mkS l) d = mem l d := by
  rw [mkS_asc h]
  have h1 := mrg_asc l [] h rfl fun h' => by cases h'
  refine ⟨h1.1, fun d => ?_⟩
  have := mem_mrg (d := d) l [] h rfl fun h' => by cases h'
  rw [mrg, this]; rfl
theorem cvT_set {l : List Tst} (h : tRight l = true) : sVal (cvT l) = true ∧ ∀ d, mem (cvT l) d = (valT l d).isSome := by
  have := mk_set (cvS_asc h)
  exact ⟨this.1, fun d => by rw [cvT, this.2, mem_cvS]⟩
theorem cvT_len {l : List Tst} : (cvT l).length ≤ l.length := by
  rw [cvT, mkS, mrg]
  have h1 := mrg_len (srt cfSn ((cvS l).filter pos)) []
  have h2 := (srt_spec swoSn ((cvS l).filter pos)).1
  have h3 := List.length_filter_le pos (cvS l)
  have h4 : (cvS l).length = l.length := by simp [cvS]
  simp only [List.length_nil] at h1
  omega
/-- When Join, when Diff are right. -/
def jnC (a b : List Tst) : Prop := (tRight a = true ∧ tRight b = true) ∧ ¬ (0 < a.length ∧ 0 < b.length ∧ (a.getD 0 tst0).v.kind ≠ (b.getD 0 tst0).v.kind)
instance (a b : List Tst) : Decidable (jnC a b) := inferInstanceAs (Decidable (_ ∧ _))
/-- The days on which two timelines differ: pieces in order. -/
def gdf (a b : List Tst) (d : Int) : Option Va := if dfB a b d then some An.va0 else none
/-- The set of the days on which two timelines differ. -/
def dfS (a b : List Tst) : List Sn := mkS (dfT a b)
end An.S

/- Arrays of structs that are written out, and their elements; the empty slice that is written out, as one's own. For any program. -/
namespace An
open Go
theorem BuI.array {P : Program} {T E len n : Nat} {agg : Bool} {z : Value} (hu : P.underlying T = some (.array len E)) (te : TyI P E n agg) (hz : (P.info? T).bind (·.zero) = some z) : BuI P T (fun i => some (i * n, n)) z := by
  refine ⟨fun parts w cs hf => ?_⟩
  simp only [Instr.build, Sem.run_bind, run_zero hz, Result.andThen_ok, run_underlying hu, te.size_run w]
  rw [hf]
  simp
section
variable {P : Program} {c : Base} {d ty : Nat} {pos : String} {af : Array Edge} {gd : Option (Nat × Bool)}
/-- The empty slice that is written out. -/
theorem d_empty {k : Nat} {T E es by_ : Nat} {agg : Bool} {z : Value} (sl : P.underlying T = some (.slice E)) (el : ElI P E es by_ agg z) (hes : Nat.blt 0 es = true) (hagg : agg = false → es = 1) :
    Does P c ⟨some d, .buildSlice T 0 #[], ty, pos, af, gd⟩ ⟨[], [], some (d, some (.own (.sl k es 0 0))), [(k, some ⟨E, es, agg, []⟩)], [k]⟩ := by
  intro g h al a w hp ⟨η, s⟩
  have hrun : (execOp a.eval ⟨some d, .buildSlice T 0 #[], ty, pos, af, gd⟩).run P w = .ok (.value (.slice (some ⟨w.heap.size, 0, none⟩) 0 0)) { w with heap := w.heap.push (.cells #[] E) } := by
    simp [execOp, Instr.buildSlice, Sem.run_bind, run_underlying sl, Result.andThen_ok, el.el.size_run w, Sem.run_pure, Instr.fill, run_newRow, go_sem]
  have hext : Ext w { w with heap := w.heap.push (.cells #[] E) } := ⟨rfl, rfl, rfl, by simp, fun b hb => by
    show (w.heap.push _)[b]? = _
    rw [Array.getElem?_push, if_neg (by omega)]⟩
  have s' := s.new' k hp.nk.1 ⟨E, es, agg, []⟩ 0 0 (Nat.le_refl _) (by simpa using hes) hagg (by decide) (fun j hj => by cases hj) hext fun h => absurd h (Nat.lt_irrefl _)
  refine xg1 hrun ?_
  refine ⟨_, s'.put (hp.d _ rfl) (e := .own (.sl k es 0 0)) ⟨_, by rw [Env.set_c], by omega, fun h => by rw [Env.set_c] at h; omega⟩ fun j hj => ?_⟩
  simp only [Ent.supp, VP.supp, List.mem_singleton] at hj
  subst hj; simp
end
end An

/- Layer 5: joins, parts, days. -/
namespace An.S
open Go Go.Proofs An
set_option maxHeartbeats 2000000
theorem fi60 : FnI Tryz.prog 60 := ⟨_, Tryz.func60, by kernel_rfl, rfl⟩
theorem bu98 : BuI Tryz.prog 98 (fun i => [(0, 1), (1, 1)][i]?) (.agg #[.int .i64 0, .int .i64 0]) := BuI.struct Tryz.underlying98 (by kernel_rfl) (by kernel_rfl)
theorem c_Covers (l : List Tst) (hl : l.length ≤ 200000) (hD : ∀ s ∈ l, s.v.f.dig) :
  Ct Tryz.prog 36 [tL 8 true tTs l] (tL 2 true tSn (if tRight l = true then cvT l else [])) := by
 refine Ct.intro Tryz.func36 rfl Tryz.ntmps36 rfl ?_
 intro w F
 refine x6 ?_
 refine x8 ?_
 refine R1 x5 rfl (x7 (by kernel_rfl) (x4 (x6 (x6 ?_))))
 refine x8 ?_
 refine R1 x3 rfl (R1 (xa0 (c_TRight l hD) fi50 rfl) rfl (R1 xe4 rfl (x7 (by kernel_rfl) (x4 ?_))))
 refine xf8 rfl (fun h202 => ?_) (fun h202 => ?_)
 ·
  refine x6 ?_
  refine x8 ?_
  refine R1 x5 rfl (x7 (by kernel_rfl) (x4 (xa1 (xa7 ?_))))
  exact xa4 Plain.mk' rfl rfl (leNil (by rw [if_neg (by simpa using h202)]))
 ·
  refine xa5 (x4 (x6 ?_))
  refine x8 ?_
  refine R1 x3 rfl (R1 (xc4 Tryz.underlying24) rfl (RE (d_makeO (k := 13) (t := tSn sn0) (ts := rV tSn (List.replicate l.length sn0)) l.length l.length Tryz.underlying71 el98 (fun F w => tSn_mk) rfl (by omega) (by omega) (Nat.le_refl _) (by omega) (by omega) (rV_rep _ _ rfl)) ⟨rfl, rfl, trivial⟩ trivial ⟨rfl, trivial⟩ (R1 x5 rfl (x7 (by kernel_rfl) (x4 (x6 (x6 ?_)))))))
  refine x8 ?_
  refine R1 x3 rfl (R1 (xc4 Tryz.underlying24) rfl (R1 x3 rfl (x7 (by kernel_rfl) (x4 (xb3 ?_)))))
  have hok : tRight l = true := by simpa using h202
  refine xe1 (fun (i : Nat) => i ≤ l.length) (fun (i : Nat) => upd (upd (upd (upd (fun _ => none) 3 (some (.own (.sl 13 2 0 l.length)))) 14 (some (.val (tL 8 true tTs l)))) 15 (some (.val (tI l.length)))) 16 (some (.val (tI i)))) (fun (i : Nat) => upd (fun _ => none) 13 (some (⟨98, 2, true, rV tSn (cvL l i)⟩))) (nm [13]) (fun (i : Nat) => l.length - i) (0) (Nat.zero_le _) (Sub.int rfl (by first | omega | rfl | (dsimp only; omega)) (Sub.int rfl (by first | omega | rfl | (dsimp only; omega)) (Sub.cons rfl (Sub.cons rfl Sub.nil)))) ((SubK.consI rfl (ImpK.of (by simp [cvL]))) SubK.nil) (SupG.val (SupG.val (SupG.val (SupG.own rfl SupG.nil)))) (SupH.cons rfl (supJ xe5) SupH.nil) (lkOk rfl) ?_
  intro i hI
  have hcl := cvL_len (l := l) (i := i) hI
  refine x6 ?_
  refine x8 ?_
  refine R2 xd8 rfl rfl (x7 (by kernel_rfl) (x4 (x6 ?_)))
  refine xc0 rfl (fun h206 => ?_) (fun h206 => ?_)
  ·
   refine xa5 (x4 (x6 (xb3 (x6 ?_))))
   refine x8 ?_
   refine R1 x3 rfl (R2 (xb9 sl24 (i) (by omega) (gD (l := l) (n := i) (d := tst0) (by omega))) rfl rfl (R1 (xc5 ti41) rfl (RE (xb4 (k := 5) (n := 8) (agg := true) zr41.1 zr41.2 rfl) trivial trivial ⟨rfl, trivial⟩ (R1 x5 rfl (RE (xa3 (es := 8) (agg := true) (0) ti41 rfl rfl rfl) ⟨rfl, rfl, trivial⟩ ⟨rfl, trivial⟩ trivial (x7 (by kernel_rfl) (x4 ?_)))))))
   refine x8 ?_
   refine R1 x3 rfl (R1 x3 rfl (R1 (x9 fo41_0 rfl) rfl (xa6 (0) ti3 rfl rfl rfl (At.g 0 rfl rfl) rfl (R1 (x9 fo41_1 rfl) rfl (xa6 (0) ti3 rfl rfl rfl (At.g 1 rfl rfl) rfl (R2 (xc8 (r := tS [⟨1, false, tI (l.getD i tst0).lo⟩, ⟨1, false, tI (l.getD i tst0).hi⟩]) (ts := [(0, tI (l.getD i tst0).lo), (1, tI (l.getD i tst0).hi)]) bu98 zr98.2 ⟨_, rfl⟩ rfl ⟨_, _, _, _, rfl, Up.f (fs := [⟨1, false, (tE (.int .i64 0))⟩, ⟨1, false, (tE (.int .i64 0))⟩]) (f := ⟨1, false, (tE (.int .i64 0))⟩) (fs' := [⟨1, false, tI (l.getD i tst0).lo⟩, ⟨1, false, (tE (.int .i64 0))⟩]) 0 rfl rfl rfl, inferInstance, ⟨_, _, _, _, rfl, Up.f (fs := [⟨1, false, tI (l.getD i tst0).lo⟩, ⟨1, false, (tE (.int .i64 0))⟩]) (f := ⟨1, false, (tE (.int .i64 0))⟩) (fs' := [⟨1, false, tI (l.getD i tst0).lo⟩, ⟨1, false, tI (l.getD i tst0).hi⟩]) 1 rfl rfl rfl, inferInstance, Le.refl⟩⟩) rfl rfl (R2 (xd0 sl71 (by omega) (by omega) rfl) rfl rfl ?_)))))))
   refine RE (xa3 (i) ti98 (rV_lt (by omega)) (by omega) (rV_set (m := (spT (l.getD i tst0))) rfl)) ⟨rfl, rfl, trivial⟩ ⟨rfl, trivial⟩ trivial (x7 (by kernel_rfl) (xc1 (x4 ?_)))
   refine x8 ?_
   refine R2 (xb6 (wr64 (by omega) (by omega))) rfl rfl (R1 x3 rfl (x7 (by kernel_rfl) ?_))
   exact xc2 (i + 1) ⟨(by omega), (by omega)⟩ (Sub.int rfl (by first | omega | rfl | (dsimp only; omega)) (Sub.int rfl (by first | omega | rfl | (dsimp only; omega)) (Sub.cons rfl (Sub.cons rfl Sub.nil)))) ((SubK.consI rfl (ImpK.of (by rw [cvL_set (by omega)]))) SubK.nil) (SupG.val (SupG.val (SupG.val (SupG.own rfl SupG.nil)))) (SupH.cons rfl (supJ xe5) SupH.nil) (lkOk rfl)
  ·
   refine xd4 (xb8 (xb8 (xe0 (x4 (x6 ?_)))))
   have hil : i = l.length := by omega
   subst hil
   refine C_key (k := 13) (e' := ⟨98, 2, true, rV tSn (cvS l)⟩) rfl (by rw [cvL_all]) ?_
   refine x8 ?_
   refine RE (d_moveS (f := tSn) (xs := cvS l) (fun _ h => h) (rV_all (by simp [cvS])) (by simp [cvS])) ⟨rfl, trivial⟩ ⟨rfl, trivial⟩ trivial (R1 (xa0 (c_SnMake (cvS l) (by simp [cvS]; omega)) fi60 rfl) rfl (R1 x3 rfl (R1 (xa2 rfl) rfl (R1 (xa2 rfl) rfl (R1 x5 rfl (R1 x5 rfl (x7 (by kernel_rfl) ?_)))))))
   refine x4 (x6 ?_)
   refine x8 ?_
   refine R1 x3 rfl (R1 x5 rfl (x7 (by kernel_rfl) (x4 (xa1 ?_))))
   exact xa4 Plain.mk' rfl rfl (Le.of (by rw [if_pos hok, if_pos (ascS_ok (cvS_asc hok))]; rfl))
end An.S

/- An element of an array value. For any program. -/
namespace An
open Go
theorem off_mapV {α : Type} {es : Nat} {agg : Bool} {f : α → Ty} : ∀ (l : List α) (i : Nat), i < l.length → Fd.off (l.map fun x => ⟨es, agg, f x⟩) i = i * es
  | [], i, h => by simp at h
  | _ :: r, 0, _ => by simp [Fd.off]
  | _ :: r, i + 1, h => by
    rw [List.map_cons, Fd.off, off_mapV r i (by simpa using h), Nat.succ_mul]
    exact Nat.add_comm _ _
/-- The element i of a row of fields of one kind. -/
theorem At.row {α : Type} {es : Nat} {agg : Bool} {f : α → Ty} {l : List α} {i : Nat} (d : α) (hi : i < l.length) : At (tS (l.map fun x => ⟨es, agg, f x⟩)) (i * es) es agg (f (l.getD i d)) :=
  At.f i (f := ⟨es, agg, f (l.getD i d)⟩) (by rw [List.getElem?_map, gD (d := d) hi]; rfl) (off_mapV l i hi)
section
variable {P : Program} {c : Base} {d ty : Nat} {pos : String} {af : Array Edge} {gd : Option (Nat × Bool)}
theorem run_part {E es : Nat} {agg : Bool} (t : TyI P E es agg) {cs : Array Value} {o : Nat} (ho : o + es ≤ cs.size) (h1 : agg = false → es = 1) (w : World) : (part E cs o).run P w = .ok (pick agg es cs o) w := by
  simp only [part, Sem.run_bind, t.agg_run w, Result.andThen_ok]
  cases agg with
  | true => simp only [↓reduceIte, Sem.run_bind, t.size_run w, Result.andThen_ok, Sem.run_pure, pick, cond_true]
  | false =>
    have := h1 rfl
    simp only [Bool.false_eq_true, ↓reduceIte, pick, cond_false]
    rw [Array.getD_eq_getD_getElem?, Array.getElem?_eq_getElem (show o < cs.size by omega)]
    rfl
/-- a[i]. -/
theorem d_indexV {T E es len : Nat} {agg : Bool} {k : IntKind} {x y : Operand} {t t' : Ty} {v : Int} (hT : P.underlying T = some (.array len E)) (ti : TyI P E es agg) (i : Nat) (hv : v = (i : Int)) (hi : i < len) (hat : At t (i * es) es agg t') :
    Does P c ⟨some d, .index T x y, ty, pos, af, gd⟩ ⟨[(x, .val t), (y, .val (tE (.int k v)))], [], some (d, some (.val t')), [], []⟩ :=
  Does.value rfl fun g h al a w η hrd _ s => by
    subst hv
    obtain ⟨cs, h1, h2, h3, h4⟩ := hat _ _ _ (xb5 s hrd.1).1
    have h5 : a.eval y = .int k (i : Int) := (xb5 s hrd.2.1).1
    refine ⟨_, w, ?_, Ext.refl w, h3, fun j hj => by cases hj⟩
    simp only [execOp, h1, h5, Instr.index, asIntOf, Sem.run_bind, Sem.run_pure, run_underlying hT, Result.andThen_ok]
    rw [if_pos ⟨by omega, by omega⟩]
    simp only [Sem.run_bind, ti.size_run w, Result.andThen_ok]
    rw [Int.toNat_natCast, run_part ti h2 h4 w]; rfl
end
end An

/- Law 5: timelines are built; days and values without the program. -/
namespace An.S
open Go Go.Proofs An
set_option maxHeartbeats 2000000
theorem sl54 : SlI Tryz.prog 54 3 1 false := ⟨Tryz.underlying54, ti3⟩
theorem take_succ_getI (l : List Int) (k : Nat) (hk : k < l.length) : l.take (k + 1) = l.take k ++ [l.getD k 0] := by
  rw [List.take_succ_eq_append_getElem hk, List.getD_eq_getElem?_getD, List.getElem?_eq_getElem hk]; rfl
theorem c_SameInts (xs ys : List Int) :
  Ct Tryz.prog 31 [tL 1 false tI xs, tL 1 false tI ys] (tB (decide (xs = ys))) := by
 refine Ct.intro Tryz.func31 rfl Tryz.ntmps31 rfl ?_
 intro w F
 refine C_len (s := 0) rfl (fun hl0 => ?_)
 refine x6 ?_
 refine x8 ?_
 refine R1 x5 rfl (x7 (by kernel_rfl) (x4 (x6 (x6 ?_))))
 refine x8 ?_
 refine R1 x3 rfl (R1 (xc4 Tryz.underlying54) rfl (R1 x3 rfl (R1 (xc4 Tryz.underlying54) rfl (R2 xf9 rfl rfl (x7 (by kernel_rfl) (x4 ?_))))))
 refine xc0 rfl (fun h27 => ?_) (fun h27 => ?_)
 ·
  refine x6 ?_
  refine x8 ?_
  refine R1 x5 rfl (x7 (by kernel_rfl) (x4 (xa1 (xa7 ?_))))
  exact xa4 Plain.mk' rfl rfl (Le.bool (decide_eq_false (fun h => by rw [h] at h27; omega)).symm)
 ·
  have hll : xs.length = ys.length := by omega
  refine xa5 (x4 (x6 (x6 ?_)))
  refine x8 ?_
  refine R1 x5 rfl (x7 (by kernel_rfl) (x4 (xb3 ?_)))
  refine xe1 (fun (i : Nat) => i ≤ xs.length ∧ xs.take i = ys.take i) (fun (i : Nat) => upd (upd (upd (fun _ => none) 0 (some (.val (tL 1 false tI xs)))) 1 (some (.val (tL 1 false tI ys)))) 5 (some (.val (tI i)))) (fun (i : Nat) => fun _ => none) (nm []) (fun (i : Nat) => xs.length - i) (0) ⟨Nat.zero_le _, rfl⟩ (Sub.int rfl (by first | omega | rfl | (dsimp only; omega)) (Sub.cons rfl (Sub.cons rfl Sub.nil))) SubK.nil (SupG.val (SupG.val (SupG.val SupG.nil))) SupH.nil (lkOk rfl) ?_
  intro i hI
  obtain ⟨hi, ht⟩ := hI
  refine x6 (x6 ?_)
  refine x8 ?_
  refine R1 x3 rfl (R1 x3 rfl (R1 (xc4 Tryz.underlying54) rfl (R2 xd8 rfl rfl (x7 (by kernel_rfl) (x4 ?_)))))
  refine xc0 rfl (fun h30 => ?_) (fun h30 => ?_)
  ·
   refine xa5 (x4 (x6 (xb3 (x6 ?_))))
   refine xd5 mixed ?_
   refine R1 x3 rfl (R1 x3 rfl (R2 (xb9 sl54 i (by omega) (gD (d := 0) (by omega))) rfl rfl (R1 (xc5 ti3) rfl (R1 x3 rfl (R1 x3 rfl (R2 (xb9 sl54 i (by omega) (gD (d := 0) (by omega))) rfl rfl (R1 (xc5 ti3) rfl ?_)))))))
   refine R2 xf9 rfl rfl (xd6 (by kernel_rfl) (x4 ?_))
   refine xc0 rfl (fun h31 => ?_) (fun h31 => ?_)
   ·
    refine x6 ?_
    refine x8 ?_
    refine R1 x5 rfl (x7 (by kernel_rfl) (x4 (xa1 (xc6 (xa7 (xa7 (xc6 ?_)))))))
    refine xa7 ?_
    exact xa4 Plain.mk' rfl rfl (Le.bool (decide_eq_false (fun h => by rw [h] at h31; exact (h31 rfl))).symm)
   ·
    refine xa5 (xc1 (x4 ?_))
    refine x8 ?_
    refine R1 x3 rfl (R2 (xb6 (wr64 (by omega) (by omega))) rfl rfl (R1 x5 rfl (x7 (by kernel_rfl) ?_)))
    exact xc2 (i + 1) ⟨⟨by omega, by rw [take_succ_getI xs i (by omega), take_succ_getI ys i (by omega), ht, show xs.getD i 0 = ys.getD i 0 from (Decidable.of_not_not h31)]⟩, (by omega)⟩ (Sub.int rfl (by first | omega | rfl | (dsimp only; omega)) (Sub.cons rfl (Sub.cons rfl Sub.nil))) SubK.nil (SupG.val (SupG.val (SupG.val SupG.nil))) SupH.nil (lkOk rfl)
  ·
   refine xd4 (xb8 (xb8 (xe0 (x4 (x6 ?_)))))
   refine x8 ?_
   refine R1 x5 rfl (x7 (by kernel_rfl) (x4 (xa1 ?_)))
   exact xa4 Plain.mk' rfl rfl (Le.bool (decide_eq_true (by rw [show i = xs.length by omega, List.take_length, hll, List.take_length] at ht; exact ht)).symm)
abbrev tP2 (p : Int × Int) : Ty := tS [⟨1, false, tI p.1⟩, ⟨1, false, tI p.2⟩]
def plP : List (Int × Int) := [(0, 1), (1, 1), (1, 2), (-3, 4), (5, 3), (65537, 7), (-1, 1), (1099511627776, 1)]
def plQ (n : Nat) : Int × Int := plP.getD (n % 8) (0, 1)
def plV (n : Nat) : Va := ⟨2, fr (kfr (plQ n).1 (plQ n).2), 0⟩
def tbF (m : List Nat) (k : Nat) (t : Int) : Int := t + ((m.getD (3 * k) 0 : Nat) : Int) % 3000
def tbE (m : List Nat) (k : Nat) (t : Int) : Int := tbF m k t + 1 + ((m.getD (3 * k + 1) 0 : Nat) : Int) % 3000
def tbS (m : List Nat) (k : Nat) (t : Int) : Tst := ⟨tbF m k t, tbE m k t, plV (m.getD (3 * k + 2) 0)⟩
def tbRun (m : List Nat) : Nat → Nat → List Tst → Int → List Tst
  | 0, _, out, _ => out
  | f + 1, k, out, t => if 3 * k + 2 < m.length ∧ k < 40 then (if 65536 < tbE m k t then out else tbRun m f (k + 1) (pst1 out (tbS m k t)) (tbE m k t)) else out
def tbT (m : List Nat) : List Tst := tbRun m 41 0 [] 0
def eds4 (l : List Tst) : List Int := l.flatMap fun s => [s.lo - 1, s.lo, s.hi - 1, s.hi]
/-- The days about the ends of steps. -/
def lkT (a b : List Tst) (d : Int) : List Int := d :: [a, b].flatMap eds4
end An.S

/- Law 5: what Built makes; contracts at timelines of one kind; the examples of the chapter. -/
namespace An.S
open Go Go.Proofs An
set_option maxHeartbeats 2000000
set_option maxRecDepth 100000
end An.S

/- The calendar: months and days. -/
namespace An.S
open Go Go.Proofs An
set_option maxHeartbeats 2000000
theorem fi53 : FnI Tryz.prog 53 := ⟨_, Tryz.func53, by kernel_rfl, rfl⟩
theorem fi58 : FnI Tryz.prog 58 := ⟨_, Tryz.func58, by kernel_rfl, rfl⟩
theorem c_startZ (m : Int) (h0 : 0 ≤ m) (h1 : m ≤ 100000) : Ct Tryz.prog 53 [tG KL (tI m)] (tI (startI m.toNat)) := by
  have h := c_start m.toNat (by omega)
  rwa [Int.toNat_of_nonneg h0] at h
theorem c_First (m : Int) :
  Ct Tryz.prog 27 [tG KL (tI m)] (tT [tI (if 0 ≤ m ∧ m < 2154 then startI m.toNat else 0), tI (if 0 ≤ m ∧ m < 2154 then 0 else 2)]) := by
 refine Ct.intro Tryz.func27 rfl Tryz.ntmps27 rfl ?_
 intro w F
 refine C_know (i := 0) (q := 1) rfl rfl (x6 ?_)
 refine x8 ?_
 refine R1 x5 rfl (R1 x5 rfl (x7 (by kernel_rfl) (x4 (x6 (x6 ?_)))))
 refine x8 ?_
 refine R1 x3 rfl (R2 xd8 rfl rfl (R1 x3 rfl ?_))
 refine RGcaseD (t := 6) rfl (fun h137 => ?_) (fun h137 => ?_)
 ·
  refine RGoff (decide_eq_true h137) rfl rfl (RGoff (decide_eq_true h137) rfl rfl (R2 (xb2 (decide_eq_true h137)) rfl rfl (x7 (by kernel_rfl) (x4 (C_bT rfl rfl (x6 ?_))))))
  refine x8 ?_
  refine R1 x5 rfl (R1 x5 rfl (x7 (by kernel_rfl) (x4 (xa1 (xa7 ?_)))))
  exact E_ret2 Plain.mk' rfl rfl rfl (Le.int (by rw [if_neg (by omega)])) (Le.int (by rw [if_neg (by omega)]))
 ·
  refine RGon (decide_eq_false h137) rfl x3 rfl ⟨rfl, trivial⟩ trivial trivial (RGon (decide_eq_false h137) rfl d_geq rfl ⟨rfl, rfl, trivial⟩ trivial trivial (R2 (xb0 (decide_eq_false h137)) rfl rfl (x7 (by kernel_rfl) (x4 ?_))))
  refine xc0 rfl (fun h137_2 => ?_) (fun h137_2 => ?_)
  ·
   refine x6 ?_
   refine x8 ?_
   refine R1 x5 rfl (R1 x5 rfl (x7 (by kernel_rfl) (x4 (xa1 (xa7 ?_)))))
   exact E_ret2 Plain.mk' rfl rfl rfl (Le.int (by rw [if_neg (by omega)])) (Le.int (by rw [if_neg (by omega)]))
  ·
   refine xa5 (x4 (x6 ?_))
   refine x8 ?_
   refine R1 x3 rfl (R2 (xg3 1 car_K (c_startZ m (by omega) (by omega)) fi53 rfl) rfl rfl (R1 x5 rfl (R1 x5 rfl (x7 (by kernel_rfl) (x4 (xa1 ?_))))))
   exact E_ret2 Plain.mk' rfl rfl rfl (Le.int (by rw [if_pos (by omega)])) (Le.int (by rw [if_pos (by omega)]))
end An.S

/- Layer 9: days that have an amount, averages, windows. Plain data, but for what the walks define. -/
namespace An.S
open Go
/-- The first of n numbers of which something holds; or n. -/
def fstI (n : Nat) (f : Nat → Bool) : Nat := ((List.range n).takeWhile fun i => !f i).length
theorem fst_is {n p : Nat} {f : Nat → Bool} (hp : p ≤ n) (h1 : ∀ i, i < p → f i = false) (h2 : p < n → f p = true) : fstI n f = p := by
  have e : List.range n = List.range p ++ (List.range (n - p)).map (p + ·) := by
    rw [← List.range_add]; congr 1; omega
  rw [fstI, e, List.takeWhile_append_of_pos fun i hi => by rw [h1 i (List.mem_range.1 hi)]; rfl]
  cases hm : n - p with
  | zero => simp
  | succ m =>
    rw [List.range_succ_eq_map, List.map_cons, List.takeWhile_cons, if_neg (by rw [Nat.add_zero, h2 (by omega)]; simp)]
    simp
theorem fst_spec (n : Nat) (f : Nat → Bool) : fstI n f ≤ n ∧ (∀ i, i < fstI n f → f i = false) ∧ (fstI n f < n → f (fstI n f) = true) := by
  have ex : ∃ p, p ≤ n ∧ (∀ i, i < p → f i = false) ∧ (p < n → f p = true) := by
    induction n with
    | zero => exact ⟨0, Nat.le_refl _, fun i hi => by omega, fun h => by omega⟩
    | succ n ih =>
      obtain ⟨p, h1, h2, h3⟩ := ih
      rcases Nat.lt_or_ge p n with h4 | h4
      · exact ⟨p, by omega, h2, fun _ => h3 h4⟩
      · have e : p = n := by omega
        subst e
        cases hf : f p with
        | true => exact ⟨p, by omega, h2, fun _ => hf⟩
        | false => exact ⟨p + 1, Nat.le_refl _, fun i hi => by
            rcases Nat.lt_or_ge i p with h5 | h5
            · exact h2 i h5
            · rw [show i = p by omega]; exact hf, fun h => by omega⟩
  obtain ⟨p, h1, h2, h3⟩ := ex
  rw [fst_is h1 h2 h3]; exact ⟨h1, h2, h3⟩
theorem hiS_mono {l : List Sn} (h : sVal l = true) {i j : Nat} (hij : i ≤ j) (hj : j < l.length) : (l.getD i sn0).hi ≤ (l.getD j sn0).hi := by
  rcases Nat.lt_or_ge i j with h1 | h1
  · have := sVal_lt h h1 hj
    have := sVal_at h hj; omega
  · rw [show i = j by omega]; exact Int.le_refl _
theorem loT_mono {l : List Tst} (h : ascT l) {i j : Nat} (hij : i ≤ j) (hj : j < l.length) : (l.getD i tst0).lo ≤ (l.getD j tst0).lo := by
  rcases Nat.lt_or_ge i j with h1 | h1
  · have := asc_lt h h1 hj
    have := h.1 _ (xe6 (l := l) (i := i) (by omega)); omega
  · rw [show i = j by omega]; exact Int.le_refl _
theorem hiT_asc {l : List Tst} (h : ascT l) {i j : Nat} (hij : i ≤ j) (hj : j < l.length) : (l.getD i tst0).hi ≤ (l.getD j tst0).hi := by
  rcases Nat.lt_or_ge i j with h1 | h1
  · have := asc_lt h h1 hj
    have := h.1 _ (xe6 (l := l) (i := j) (by omega)); omega
  · rw [show i = j by omega]; exact Int.le_refl _
/-- The span in which a day could be. -/
def fndS (l : List Sn) (d : Int) : Nat := fstI l.length fun i => decide (d < (l.getD i sn0).hi)
def cvB (l : List Sn) (a b : Int) : Bool := decide (fndS l a < l.length) && decide ((l.getD (fndS l a) sn0).lo ≤ a) && decide (b ≤ (l.getD (fndS l a) sn0).hi)
theorem cvB_iff {l : List Sn} {a b : Int} (h : sVal l = true) (hab : a < b) : cvB l a b = true ↔ ∀ d, a ≤ d → d < b → mem l d = true := by
  have sp := fst_spec l.length fun i => decide (a < (l.getD i sn0).hi)
  rw [← fndS] at sp
  simp only [cvB, Bool.and_eq_true, decide_eq_true_eq]
  constructor
  · rintro ⟨⟨h1, h2⟩, h3⟩ d hd1 hd2
    exact mem_iff.2 ⟨_, mem_getS h1, by omega, by omega⟩
  · intro hm
    obtain ⟨s, hs, h1, h2⟩ := mem_iff.1 (hm a (Int.le_refl _) hab)
    obtain ⟨j, hj, rfl⟩ := exists_getS hs
    have hij : fndS l a ≤ j := by
      rcases Nat.lt_or_ge j (fndS l a) with h3 | h3
      · have := of_decide_eq_false (sp.2.1 j h3); omega
      · exact h3
    have hi := of_decide_eq_true (sp.2.2 (by omega))
    have e : fndS l a = j := by
      rcases Nat.lt_or_ge (fndS l a) j with h3 | h3
      · have := sVal_lt h h3 hj; omega
      · omega
    refine ⟨⟨by omega, by rw [e]; exact h1⟩, ?_⟩
    rw [e] at hi ⊢
    rcases Int.lt_or_le (l.getD j sn0).hi b with h4 | h4
    · obtain ⟨t, ht, h5, h6⟩ := mem_iff.1 (hm _ (by omega) h4)
      obtain ⟨k, hk, rfl⟩ := exists_getS ht
      have hjj := sVal_at h hj
      rcases Nat.lt_or_ge k j with h7 | h7
      · have := sVal_lt h h7 hj; omega
      · rcases Nat.lt_or_ge j k with h8 | h8
        · have := sVal_lt h h8 hk; omega
        · rw [show k = j by omega] at h6; omega
    · exact h4
/-! Days. -/
theorem gS_cons {w : Va → Int} {s : Tst} {r : List Tst} {a b : Int} : gS w (s :: r) a b = gS1 w a b s + gS w r a b := by simp [gS]
theorem gS_day {w : Va → Int} {d : Int} : ∀ {l : List Tst}, ascT l → gS w l d (d + 1) = ((valT l d).map w).getD 0
  | [], _ => rfl
  | s :: r, h => by
    have hr : ascT r := ⟨fun t ht => h.1 t (List.mem_cons_of_mem _ ht), (List.pairwise_cons.1 h.2).2⟩
    have hs := (List.pairwise_cons.1 h.2).1
    have h0 := h.1 s (List.mem_cons_self ..)
    rw [gS_cons, gS_day hr, xf2]
    by_cases hc : s.lo ≤ d ∧ d < s.hi
    · have hn : valT r d = none := valT_none.2 fun t ht h' => by have := hs t ht; omega
      rw [if_pos hc, hn, gS1, if_neg (by simp only [dyG]; omega), show dyG d (d + 1) s = 1 by simp only [dyG]; omega]
      simp
    · rw [if_neg hc, gS1, if_pos (by simp only [dyG]; omega), Int.zero_add]
/-- How many days have an amount. -/
def nD (l : List Tst) (a b : Int) : Int := gS (fun _ => 1) l a b
theorem nD_n {l : List Tst} {a : Int} (h : ascT l) : ∀ n : Nat, (0 ≤ nD l a (a + n) ∧ nD l a (a + n) ≤ n) ∧ (nD l a (a + n) = n ↔ ∀ d, a ≤ d → d < a + n → (valT l d).isSome = true)
  | 0 => by
    have e : nD l a (a + (0 : Nat)) = 0 := gS_zero (by omega)
    rw [e]
    exact ⟨⟨Int.le_refl _, Int.le_refl _⟩, ⟨fun _ d h1 h2 => by omega, fun _ => rfl⟩⟩
  | n + 1 => by
    have ih := nD_n (a := a) h n
    have e : nD l a (a + ((n + 1 : Nat) : Int)) = nD l a (a + n) + nD l (a + n) (a + n + 1) := by
      rw [nD, nD, nD, gS_add h.1 (by omega) (by omega), Int.natCast_add, Int.add_assoc]; rfl
    have e1 : nD l (a + n) (a + n + 1) = if (valT l (a + n)).isSome = true then 1 else 0 := by
      rw [nD, gS_day h]
      cases valT l (a + n) <;> simp
    rw [e, e1]
    by_cases hv : (valT l (a + n)).isSome = true
    · rw [if_pos hv]
      refine ⟨⟨by omega, by omega⟩, fun h1 d h2 h3 => ?_, fun h1 => ?_⟩
      · rcases Int.lt_or_le d (a + n) with h4 | h4
        · exact ih.2.1 (by omega) d h2 h4
        · rw [show d = a + n by omega]; exact hv
      · have := ih.2.2 fun d h2 h3 => h1 d h2 (by omega)
        omega
    · rw [if_neg hv]
      refine ⟨⟨by omega, by omega⟩, fun h1 => by omega, fun h1 => absurd (h1 (a + n) (by omega) (by omega)) hv⟩
theorem nD_iff {l : List Tst} {a b : Int} (h : ascT l) (hab : a ≤ b) : nD l a b = b - a ↔ ∀ d, a ≤ d → d < b → (valT l d).isSome = true := by
  have := (nD_n (a := a) h (b - a).toNat).2
  rw [show a + (((b - a).toNat : Nat) : Int) = b by omega] at this
  rw [← this]; omega
/-- What isCovered says of the days that are covered. -/
theorem cvB_nD {l : List Tst} {a b : Int} (h : tRight l = true) (hab : a < b) : cvB (cvT l) a b = decide (nD l a b = b - a) := by
  have hc := cvT_set h
  rw [Bool.eq_iff_iff, cvB_iff hc.1 hab, decide_eq_true_eq, nD_iff (tRight_asc h) (Int.le_of_lt hab)]
  exact forall_congr' fun d => by rw [hc.2]
/-! Averages. -/
def fstA (l : List Tst) (a : Int) : Nat := fstI l.length fun i => decide (a < (l.getD i tst0).hi)
def endA (l : List Tst) (b : Int) : Nat := fstI l.length fun i => decide (b ≤ (l.getD i tst0).lo)
def subA (l : List Tst) (a b : Int) : List Tst := (l.take (endA l b)).drop (fstA l a)
theorem fst_end {l : List Tst} {a b : Int} (h : ascT l) (hab : a < b) : fstA l a ≤ endA l b ∧ endA l b ≤ l.length := by
  have s1 := fst_spec l.length fun i => decide (a < (l.getD i tst0).hi)
  have s2 := fst_spec l.length fun i => decide (b ≤ (l.getD i tst0).lo)
  rw [← fstA] at s1; rw [← endA] at s2
  refine ⟨?_, s2.1⟩
  rcases Nat.lt_or_ge (endA l b) (fstA l a) with h3 | h3
  · have h4 := of_decide_eq_false (s1.2.1 _ h3)
    have h5 := of_decide_eq_true (s2.2.2 (by omega))
    have := h.1 _ (xe6 (l := l) (i := endA l b) (by omega))
    omega
  · exact h3
theorem sum_none {f : Tst → Int} : ∀ {xs : List Tst}, (∀ s ∈ xs, f s = 0) → (xs.map f).sum = 0
  | [], _ => rfl
  | s :: r, h => by
    rw [List.map_cons, List.sum_cons, h s (List.mem_cons_self ..), sum_none fun t ht => h t (List.mem_cons_of_mem _ ht)]; rfl
theorem mem_take_get {l : List Tst} {n : Nat} {s : Tst} (h : s ∈ l.take n) : ∃ i, i < n ∧ i < l.length ∧ s = l.getD i tst0 := by
  obtain ⟨i, hi, e⟩ := List.getElem_of_mem h
  rw [List.length_take] at hi
  refine ⟨i, by omega, by omega, ?_⟩
  rw [List.getElem_take] at e
  rw [List.getD_eq_getElem?_getD, List.getElem?_eq_getElem (by omega)]; exact e.symm
theorem mem_drop_get {l : List Tst} {n : Nat} {s : Tst} (h : s ∈ l.drop n) : ∃ i, n ≤ i ∧ i < l.length ∧ s = l.getD i tst0 := by
  obtain ⟨i, hi, e⟩ := List.getElem_of_mem h
  rw [List.length_drop] at hi
  refine ⟨n + i, by omega, by omega, ?_⟩
  rw [List.getElem_drop] at e
  rw [List.getD_eq_getElem?_getD, List.getElem?_eq_getElem (by omega)]; exact e.symm
theorem gS_sub {w : Va → Int} {l : List Tst} {a b : Int} (h : ascT l) (hab : a < b) : gS w (subA l a b) a b = gS w l a b := by
  have hfe := fst_end h hab
  have s1 := fst_spec l.length fun i => decide (a < (l.getD i tst0).hi)
  have s2 := fst_spec l.length fun i => decide (b ≤ (l.getD i tst0).lo)
  rw [← fstA] at s1; rw [← endA] at s2
  have e : l = l.take (fstA l a) ++ (subA l a b ++ l.drop (endA l b)) := by
    have e1 : l.take (fstA l a) = (l.take (endA l b)).take (fstA l a) := by rw [List.take_take, Nat.min_eq_left hfe.1]
    rw [← List.append_assoc, subA, e1, List.take_append_drop, List.take_append_drop]
  have z1 : gS w (l.take (fstA l a)) a b = 0 := sum_none fun s hs => by
    obtain ⟨i, h1, h2, rfl⟩ := mem_take_get hs
    have := of_decide_eq_false (s1.2.1 i h1)
    rw [gS1, if_pos (by simp only [dyG]; omega)]
  have z2 : gS w (l.drop (endA l b)) a b = 0 := sum_none fun s hs => by
    obtain ⟨i, h1, h2, rfl⟩ := mem_drop_get hs
    have h3 := of_decide_eq_true (s2.2.2 (by omega))
    have h4 := loT_mono h h1 h2
    rw [gS1, if_pos (by simp only [dyG]; omega)]
  have ap : ∀ x y : List Tst, gS w (x ++ y) a b = gS w x a b + gS w y a b := fun x y => by simp [gS]
  conv => rhs; rw [e]
  rw [ap, ap, z1, z2]; omega
theorem isG.sub {K : Nat} {D B : Int} {l : List Tst} {a b : Int} (h : isG K D B l) : isG K D B (subA l a b) := by
  have hsl : (subA l a b).Sublist l := (List.drop_sublist ..).trans (List.take_sublist ..)
  refine isG_of ⟨fun s hs => h.asc.1 s (hsl.subset hs), h.asc.2.sublist hsl⟩ (nb_of fun i hi => ?_) fun s hs => ⟨⟨(h.out s (hsl.subset hs)).1, (h.out s (hsl.subset hs)).2⟩, h.2 s (hsl.subset hs)⟩
  have hl : (subA l a b).length = min (endA l b) l.length - fstA l a := by rw [subA, List.length_drop, List.length_take]
  have hg : ∀ j, j < (subA l a b).length → (subA l a b).getD j tst0 = l.getD (fstA l a + j) tst0 := fun j hj => by
    rw [subA, List.getD_eq_getElem?_getD, List.getElem?_drop, List.getElem?_take, if_pos (by omega), List.getD_eq_getElem?_getD]
  rw [hg i (by omega), hg (i + 1) hi, show fstA l a + (i + 1) = fstA l a + i + 1 by omega]
  exact nb_at h.nb (by omega)
/-- The average of the days from a to b. -/
def avQ (D : Int) (l : List Tst) (a b : Int) : Rat := Rat.divInt (gS (wt D) l a b) (D * (b - a))
theorem div_int (n d m : Int) : Rat.divInt n d / (m : Rat) = Rat.divInt n (d * m) := by
  have e : (m : Rat)⁻¹ = Rat.divInt 1 m := by rw [Rat.inv_def]; simp
  rw [Rat.div_def, e, Rat.divInt_mul_divInt, Int.mul_one]
/-- What is needed of the numbers. -/
def nOk (D B : Int) : Prop := (0 < D ∧ D ≤ 1000000) ∧ 0 ≤ B ∧ B ≤ 140737488355327
theorem gS_in {D B : Int} {l : List Tst} {a b : Int} {K : Nat} (hn : nOk D B) (h : isG K D B l) (ha : 0 ≤ a) (hab : a ≤ b) (hb : b ≤ 65536) : -9223372036854775808 ≤ gS (wt D) l a b ∧ gS (wt D) l a b ≤ 9223372036854775807 := by
  have h1 := gS_bd (D := D) (B := B) (a := a) (b := b) hn.2.1 h.asc h.out h.wt hab
  have h2 : B * (b - a) ≤ 140737488355327 * 65536 := Int.mul_le_mul hn.2.2 (by omega) (by omega) (by decide)
  omega
theorem av_den {D B : Int} {a b : Int} (hn : nOk D B) (ha : 0 ≤ a) (hab : a < b) (hb : b ≤ 65536) : 0 < D * (b - a) ∧ D * (b - a) ≤ 65536000000 := by
  have h2 : D * (b - a) ≤ 1000000 * 65536 := Int.mul_le_mul hn.1.2 (by omega) (by omega) (by decide)
  exact ⟨Int.mul_pos hn.1.1 (by omega), by omega⟩
theorem short_av {D B : Int} {l : List Tst} {a b : Int} {K : Nat} (hn : nOk D B) (h : isG K D B l) (ha : 0 ≤ a) (hab : a < b) (hb : b ≤ 65536) : short (avQ D l a b) := by
  have h1 := gS_in hn h ha (Int.le_of_lt hab) hb
  have h2 := av_den hn ha hab hb
  exact short_dv h2.1 h1.1 h1.2 (by omega)
/-! Windows. -/
/-- A possible window of n months, with which month it begins. -/
def okW (l : List Tst) (p q : Int) (n k : Nat) : Bool := decide (k + n < 2154) && decide (p ≤ startI k) && decide (startI (k + n) ≤ q) && decide (nD l (startI k) (startI (k + n)) = startI (k + n) - startI k)
def winP (l : List Tst) (p q : Int) (n k : Nat) : List Nat := (List.range k).filter (okW l p q n)
def winT (l : List Tst) (p q : Int) (n : Nat) : List Nat := winP l p q n 2154
theorem winP_next {l : List Tst} {p q : Int} {n k : Nat} : winP l p q n (k + 1) = winP l p q n k ++ if okW l p q n k = true then [k] else [] := by
  rw [winP, List.range_succ, List.filter_append, winP]
  congr 1
  by_cases h : okW l p q n k = true <;> simp [h]
theorem winP_add {l : List Tst} {p q : Int} {n k : Nat} : ∀ m, ∃ r, winP l p q n (k + m) = winP l p q n k ++ r
  | 0 => ⟨[], by simp⟩
  | m + 1 => by
    obtain ⟨r, hr⟩ := winP_add (l := l) (p := p) (q := q) (n := n) (k := k) m
    rw [← Nat.add_assoc, winP_next, hr, List.append_assoc]
    exact ⟨_, rfl⟩
/-- The window that comes next. -/
theorem win_at {l : List Tst} {p q : Int} {n k : Nat} (hk : k < 2154) (h : okW l p q n k = true) : (winP l p q n k).length < (winT l p q n).length ∧ (winT l p q n).getD (winP l p q n k).length 0 = k := by
  obtain ⟨r, hr⟩ := winP_add (l := l) (p := p) (q := q) (n := n) (k := k + 1) (2153 - k)
  rw [show k + 1 + (2153 - k) = 2154 by omega, winP_next (k := k), if_pos h] at hr
  rw [winT, hr]
  constructor
  · simp
  · rw [List.append_assoc, List.getD_eq_getElem?_getD, List.getElem?_append_right (Nat.le_refl _), Nat.sub_self]; rfl
theorem win_end {l : List Tst} {p q : Int} {n k : Nat} (hk : k ≤ 2154) (h : 2154 ≤ k + n) : (winP l p q n k).length = (winT l p q n).length := by
  have : ∀ m, k ≤ m → winP l p q n m = winP l p q n k := fun m hm => by
    induction m with
    | zero => rw [show k = 0 by omega]
    | succ m ih =>
      rcases Nat.lt_or_ge m k with h1 | h1
      · rw [show k = m + 1 by omega]
      · rw [winP_next, ih h1, if_neg (by rw [okW, decide_eq_false (by omega)]; simp), List.append_nil]
  rw [winT, this 2154 hk]
theorem win_mem {l : List Tst} {p q : Int} {n k : Nat} : k ∈ winT l p q n ↔ k < 2154 ∧ okW l p q n k = true := by
  rw [winT, winP, List.mem_filter, List.mem_range]
theorem win_is {l : List Tst} {p q : Int} {n k : Nat} (h : k ∈ winT l p q n) : k + n < 2154 ∧ p ≤ startI k ∧ startI (k + n) ≤ q ∧ nD l (startI k) (startI (k + n)) = startI (k + n) - startI k := by
  have := (win_mem.1 h).2
  simp only [okW, Bool.and_eq_true, decide_eq_true_eq] at this
  exact ⟨this.1.1.1, this.1.1.2, this.1.2, this.2⟩
theorem win_asc {l : List Tst} {p q : Int} {n : Nat} : (winT l p q n).Pairwise (· < ·) := List.pairwise_lt_range.filter _
/-- The average of the window of n months that begins with the month k. -/
def avW (D : Int) (l : List Tst) (n k : Nat) : Rat := avQ D l (startI k) (startI (k + n))
def bst1 (D : Int) (l : List Tst) (n : Nat) (o : Option Nat) (k : Nat) : Option Nat :=
  match o with
  | none => some k
  | some m => if avW D l n m < avW D l n k then some k else some m
/-- The first of the best ones. -/
def bstL (D : Int) (l : List Tst) (n : Nat) (ks : List Nat) : Option Nat := ks.foldl (bst1 D l n) none
def bstT (D : Int) (l : List Tst) (p q : Int) (n : Nat) : Option Nat := bstL D l n (winT l p q n)
theorem rle_lt {a b c : Rat} (h1 : a ≤ b) (h2 : b < c) : a < c := Rat.not_le.1 fun h => absurd (Rat.le_trans h h1) (Rat.not_le.2 h2)
theorem bstL_snoc {D : Int} {l : List Tst} {n k : Nat} {ks : List Nat} : bstL D l n (ks ++ [k]) = bst1 D l n (bstL D l n ks) k := by simp [bstL]
theorem bstL_spec {D : Int} {l : List Tst} {n : Nat} : ∀ (ks : List Nat), ks.Pairwise (· < ·) → match bstL D l n ks with
    | none => ks = []
    | some m => m ∈ ks ∧ (∀ k ∈ ks, avW D l n k ≤ avW D l n m) ∧ ∀ k ∈ ks, k < m → avW D l n k < avW D l n m := by
  intro ks
  suffices h : ∀ n', (ks.take n').Pairwise (· < ·) → match bstL D l n (ks.take n') with
      | none => ks.take n' = []
      | some m => m ∈ ks.take n' ∧ (∀ k ∈ ks.take n', avW D l n k ≤ avW D l n m) ∧ ∀ k ∈ ks.take n', k < m → avW D l n k < avW D l n m by
    intro hp
    have := h ks.length (by rwa [List.take_length])
    rwa [List.take_length] at this
  intro n'
  induction n' with
  | zero => intro _; simp [bstL]
  | succ i ih =>
    rcases Nat.lt_or_ge i ks.length with hi | hi
    · rw [List.take_succ_eq_append_getElem hi]
      intro hp
      have hp2 := List.pairwise_append.1 hp
      have h1 := ih hp2.1
      rw [bstL_snoc]
      cases hb : bstL D l n (ks.take i) with
      | none =>
        rw [hb] at h1
        simp only [bst1]
        rw [show ks.take i = [] from h1]
        refine ⟨by simp, fun k hk => ?_, fun k hk hlt => ?_⟩
        · simp at hk; subst hk; exact Rat.le_refl
        · simp at hk; omega
      | some m =>
        rw [hb] at h1
        obtain ⟨g1, g2, g3⟩ := h1
        have hml := hp2.2.2 m g1 _ (List.mem_singleton_self _)
        simp only [bst1]
        by_cases hlt : avW D l n m < avW D l n ks[i]
        · rw [if_pos hlt]
          refine ⟨List.mem_append_right _ (List.mem_singleton_self _), fun k hk => ?_, fun k hk hk2 => ?_⟩
          · rcases List.mem_append.1 hk with h | h
            · exact Rat.le_of_lt (rle_lt (g2 k h) hlt)
            · simp at h; subst h; exact Rat.le_refl
          · rcases List.mem_append.1 hk with h | h
            · exact rle_lt (g2 k h) hlt
            · simp at h; omega
        · rw [if_neg hlt]
          refine ⟨List.mem_append_left _ g1, fun k hk => ?_, fun k hk hk2 => ?_⟩
          · rcases List.mem_append.1 hk with h | h
            · exact g2 k h
            · simp at h; subst h; exact Rat.not_lt.1 hlt
          · rcases List.mem_append.1 hk with h | h
            · exact g3 k h hk2
            · simp at h; omega
    · rw [List.take_of_length_le (by omega : ks.length ≤ i + 1)]
      rw [List.take_of_length_le hi] at ih
      exact ih
end An.S

/- Layer 9: averages. -/
namespace An.S
open Go Go.Proofs An
set_option maxHeartbeats 2000000
theorem ti24 : TyI Tryz.prog 24 1 false := ⟨by kernel_rfl, by kernel_rfl⟩
theorem ti71 : TyI Tryz.prog 71 1 false := ⟨by kernel_rfl, by kernel_rfl⟩
theorem fi25 : FnI Tryz.prog 25 := ⟨_, Tryz.func25, by kernel_rfl, rfl⟩
theorem fi34 : FnI Tryz.prog 34 := ⟨_, Tryz.func34, by kernel_rfl, rfl⟩
theorem fi35 : FnI Tryz.prog 35 := ⟨_, Tryz.func35, by kernel_rfl, rfl⟩
theorem fi36 : FnI Tryz.prog 36 := ⟨_, Tryz.func36, by kernel_rfl, rfl⟩
theorem fi37 : FnI Tryz.prog 37 := ⟨_, Tryz.func37, by kernel_rfl, rfl⟩
theorem fi59 : FnI Tryz.prog 59 := ⟨_, Tryz.func59, by kernel_rfl, rfl⟩
theorem fi61 : FnI Tryz.prog 61 := ⟨_, Tryz.func61, by kernel_rfl, rfl⟩
theorem fi62 : FnI Tryz.prog 62 := ⟨_, Tryz.func62, by kernel_rfl, rfl⟩
theorem fi63 : FnI Tryz.prog 63 := ⟨_, Tryz.func63, by kernel_rfl, rfl⟩
theorem fi64 : FnI Tryz.prog 64 := ⟨_, Tryz.func64, by kernel_rfl, rfl⟩
section
variable {K : Nat} {D B : Int} {l a b : List Tst}
theorem c_CoversG (h : isG K D B l) (hl : l.length ≤ 200000) : Ct Tryz.prog 36 [tL 8 true tTs l] (tL 2 true tSn (cvT l)) := by
  have := c_Covers l hl h.dig
  rw [if_pos h.1] at this; exact this
/-- The sum of the days from x to y, of the steps that have any of them. -/
theorem c_SumA (x y : Int) (hn : nOk D B) (h : isG 3 D B l) (hl : l.length ≤ 200000) (hx : 0 ≤ x) (hxy : x < y) (hy : y ≤ 65536) : Ct Tryz.prog 63 [tL 8 true tTs (subA l x y), tI x, tI y] (tT [tFr (fr (Rat.divInt (gS (wt D) l x y) D)), tI 0]) := by
  have ok : Sn.ok ⟨x, y⟩ = true := by simp [Sn.ok]; omega
  have hs : (subA l x y).length ≤ 200000 := by rw [subA, List.length_drop, List.length_take]; omega
  have h2 := (h.sub (a := x) (b := y)).sum (.inr rfl) hn.1.1 (by have := hn.1.2; omega) hn.2.1 hn.2.2 ok
  have := c_TSum (subA l x y) x y (by omega) (h.sub (a := x) (b := y)).dig
  rw [if_pos h2.1, if_pos h2.1, h2.2, gS_sub h.asc hxy] at this; exact this
theorem c_DivA (x y : Int) (hn : nOk D B) (h : isG 3 D B l) (hx : 0 ≤ x) (hxy : x < y) (hy : y ≤ 65536) : Ct Tryz.prog 64 [tFr (fr (Rat.divInt (gS (wt D) l x y) D)), tFr (fr ((y - x : Int) : Rat))] (tT [tFr (fr (avQ D l x y)), tI 0]) := by
  have h1 := gS_in hn h hx (Int.le_of_lt hxy) hy
  have s1 : short (Rat.divInt (gS (wt D) l x y) D) := short_dv hn.1.1 h1.1 h1.2 (by have := hn.1.2; omega)
  have s2 : short ((y - x : Int) : Rat) := by rw [int_div]; exact short_dv (by decide) (by omega) (by omega) (by decide)
  have h3 := c_FDiv (Rat.divInt (gS (wt D) l x y) D) ((y - x : Int) : Rat) s1 s2 (fun h0 => absurd (show y - x = 0 by exact_mod_cast h0) (by omega))
  have s3 := short_av (a := x) (b := y) hn h hx hxy hy
  rw [div_int, ← avQ, resF, resFE, if_pos s3, if_pos s3] at h3; exact h3
end
/-- A pay record. -/
def payR (l : List Tst) : Bool := tRight l && (decide (l.length = 0) || decide ((l.getD 0 tst0).v.kind = 3))
def askB (l : List Tst) (a b : Int) : Bool := payR l && decide (0 ≤ a) && decide (a ≤ 65536) && decide (0 ≤ b) && decide (b ≤ 65536)
theorem askB_iff {l : List Tst} {a b : Int} : askB l a b = true ↔ payR l = true ∧ (0 ≤ a ∧ a ≤ 65536) ∧ 0 ≤ b ∧ b ≤ 65536 := by
  simp [askB, and_assoc]
theorem isG.pay {D B : Int} {l : List Tst} (h : isG 3 D B l) : payR l = true := by
  rw [payR, h.1, Bool.true_and]
  by_cases h0 : l.length = 0
  · rw [decide_eq_true h0]; rfl
  · rw [decide_eq_true (h.2 _ (xe6 (l := l) (i := 0) (by omega))).1.2.1, Bool.or_true]
/-- What Average returns. -/
def avR (D : Int) (l : List Tst) (a b : Int) : Fr × Int := if askB l a b = true then (if a < b ∧ nD l a b = b - a then (fr (avQ D l a b), 0) else (fr0, 6)) else (fr0, 2)
theorem c_PRight (l : List Tst) (hD : ∀ s ∈ l, s.v.f.dig) :
  Ct Tryz.prog 25 [tL 8 true tTs l] (tB (payR l)) := by
 refine Ct.intro Tryz.func25 rfl Tryz.ntmps25 rfl ?_
 intro w F
 refine C_len (s := 0) rfl (fun hl0 => ?_)
 refine x6 ?_
 refine x8 ?_
 refine R1 x5 rfl (x7 (by kernel_rfl) (x4 (x6 ?_)))
 refine x8 ?_
 refine R1 x3 rfl (R1 (xa0 (c_TRight l hD) fi50 rfl) rfl (R1 x3 rfl ?_))
 refine RGcase (t := 5) rfl (fun h16 => ?_) (fun h16 => ?_)
 ·
  refine RGon h16 rfl x3 rfl ⟨rfl, trivial⟩ trivial trivial (RGon h16 rfl (xc4 Tryz.underlying24) rfl ⟨rfl, trivial⟩ trivial trivial (RGon h16 rfl xe3 rfl ⟨rfl, rfl, trivial⟩ trivial trivial (RGon h16 rfl x3 rfl ⟨rfl, trivial⟩ trivial trivial ?_)))
  refine RGcaseD (t := 9) rfl (fun h16_2 => ?_) (fun h16_2 => ?_)
  ·
   refine RGoff (decide_eq_true h16_2) rfl rfl (RGoff (decide_eq_true h16_2) rfl rfl (RGoff (decide_eq_true h16_2) rfl rfl (RGoff (decide_eq_true h16_2) rfl rfl (RGoff (decide_eq_true h16_2) rfl rfl (RGoff (decide_eq_true h16_2) rfl rfl (RGon h16 rfl (xb2 (decide_eq_true h16_2)) rfl ⟨rfl, rfl, trivial⟩ trivial trivial (R2 (xb2 h16) rfl rfl ?_)))))))
   refine R1 x5 rfl (x7 (by kernel_rfl) (x4 (xa1 ?_)))
   exact xa4 Plain.mk' rfl rfl (Le.bool (by rw [payR, h16, decide_eq_true (show l.length = 0 by omega)]; rfl))
  ·
   refine RGon (decide_eq_false h16_2) rfl x3 rfl ⟨rfl, trivial⟩ trivial trivial (RGon (decide_eq_false h16_2) rfl (xb9 sl24 (0) (by omega) (gD (l := l) (n := 0) (d := tst0) (by omega))) rfl ⟨rfl, rfl, trivial⟩ trivial trivial (RGon (decide_eq_false h16_2) rfl (xh4 fo41_2 (At.f 2 rfl rfl) rfl) rfl ⟨rfl, trivial⟩ trivial trivial (RGon (decide_eq_false h16_2) rfl (xh4 fo39_0 (At.f 0 rfl rfl) rfl) rfl ⟨rfl, trivial⟩ trivial trivial (RGon (decide_eq_false h16_2) rfl (xc5 ti5) rfl ⟨rfl, trivial⟩ trivial trivial (RGon (decide_eq_false h16_2) rfl xe3 rfl ⟨rfl, rfl, trivial⟩ trivial trivial (RGon h16 rfl (xb0 (decide_eq_false h16_2)) rfl ⟨rfl, rfl, trivial⟩ trivial trivial (R2 (xb2 h16) rfl rfl ?_)))))))
   refine R1 x5 rfl (x7 (by kernel_rfl) (x4 (xa1 ?_)))
   exact xa4 Plain.mk' rfl rfl (Le.bool (by rw [payR, h16, decide_eq_false (show ¬ l.length = 0 by omega)]; simp; omega))
 ·
  refine RGoff h16 rfl rfl (RGoff h16 rfl rfl (RGoff h16 rfl rfl (RGoff h16 rfl rfl (RGoffU rfl rfl (RGoffU rfl rfl (RGoffU rfl rfl (RGoffU rfl rfl ?_)))))))
  refine RGoffU rfl rfl (RGoffU rfl rfl (RGoff h16 rfl rfl (R2 (xb0 h16) rfl rfl (R1 x5 rfl (x7 (by kernel_rfl) (x4 (xa1 ?_)))))))
  exact xa4 Plain.mk' rfl rfl (Le.bool (by rw [payR, h16]; rfl))
theorem c_isAsked (l : List Tst) (a b : Int) (hD : ∀ s ∈ l, s.v.f.dig) :
  Ct Tryz.prog 34 [tL 8 true tTs l, tI a, tI b] (tB (askB l a b)) := by
 refine Ct.intro Tryz.func34 rfl Tryz.ntmps34 rfl ?_
 intro w F
 refine x6 ?_
 refine x8 ?_
 refine R1 x5 rfl (x7 (by kernel_rfl) (x4 (x6 ?_)))
 refine x8 ?_
 refine R1 x3 rfl (R1 (xa0 (c_PRight l hD) fi25 rfl) rfl (R1 x3 rfl ?_))
 refine RGcase (t := 9) rfl (fun h21 => ?_) (fun h21 => ?_)
 ·
  refine RGon h21 rfl x3 rfl ⟨rfl, trivial⟩ trivial trivial (RGon h21 rfl xf5 rfl ⟨rfl, rfl, trivial⟩ trivial trivial (R2 (xb2 h21) rfl rfl (R1 x3 rfl ?_)))
  refine RGcaseD (t := 13) rfl (fun h21_2 => ?_) (fun h21_2 => ?_)
  ·
   refine RGon (decide_eq_true h21_2) rfl x3 rfl ⟨rfl, trivial⟩ trivial trivial (RGon (decide_eq_true h21_2) rfl xf5 rfl ⟨rfl, rfl, trivial⟩ trivial trivial (R2 (xb2 (decide_eq_true h21_2)) rfl rfl (R1 x3 rfl ?_)))
   refine RGcaseD (t := 17) rfl (fun h21_3 => ?_) (fun h21_3 => ?_)
   ·
    refine RGon (decide_eq_true h21_3) rfl x3 rfl ⟨rfl, trivial⟩ trivial trivial (RGon (decide_eq_true h21_3) rfl xf5 rfl ⟨rfl, rfl, trivial⟩ trivial trivial (R2 (xb2 (decide_eq_true h21_3)) rfl rfl (R1 x3 rfl ?_)))
    refine RGcaseD (t := 21) rfl (fun h21_4 => ?_) (fun h21_4 => ?_)
    ·
     refine RGon (decide_eq_true h21_4) rfl x3 rfl ⟨rfl, trivial⟩ trivial trivial (RGon (decide_eq_true h21_4) rfl xf5 rfl ⟨rfl, rfl, trivial⟩ trivial trivial (R2 (xb2 (decide_eq_true h21_4)) rfl rfl (R1 x5 rfl (x7 (by kernel_rfl) (x4 (xa1 ?_))))))
     exact xa4 Plain.mk' rfl rfl (Le.bool (by simp [askB, *]))
    ·
     refine RGoff (decide_eq_false h21_4) rfl rfl (RGoff (decide_eq_false h21_4) rfl rfl (R2 (xb0 (decide_eq_false h21_4)) rfl rfl (R1 x5 rfl (x7 (by kernel_rfl) (x4 (xa1 ?_))))))
     exact xa4 Plain.mk' rfl rfl (Le.bool (by simp [askB, *]))
   ·
    refine RGoff (decide_eq_false h21_3) rfl rfl (RGoff (decide_eq_false h21_3) rfl rfl (R2 (xb0 (decide_eq_false h21_3)) rfl rfl (R1 x3 rfl (RGoff0 rfl rfl (RGoff0 rfl rfl (R2 (xb0 rfl) rfl rfl (R1 x5 rfl ?_)))))))
    refine x7 (by kernel_rfl) (x4 (xa1 ?_))
    exact xa4 Plain.mk' rfl rfl (Le.bool (by simp [askB, *]))
  ·
   refine RGoff (decide_eq_false h21_2) rfl rfl (RGoff (decide_eq_false h21_2) rfl rfl (R2 (xb0 (decide_eq_false h21_2)) rfl rfl (R1 x3 rfl (RGoff0 rfl rfl (RGoff0 rfl rfl (R2 (xb0 rfl) rfl rfl (R1 x3 rfl ?_)))))))
   refine RGoff0 rfl rfl (RGoff0 rfl rfl (R2 (xb0 rfl) rfl rfl (R1 x5 rfl (x7 (by kernel_rfl) (x4 (xa1 ?_))))))
   exact xa4 Plain.mk' rfl rfl (Le.bool (by simp [askB, *]))
 ·
  refine RGoff h21 rfl rfl (RGoff h21 rfl rfl (R2 (xb0 h21) rfl rfl (R1 x3 rfl (RGoff0 rfl rfl (RGoff0 rfl rfl (R2 (xb0 rfl) rfl rfl (R1 x3 rfl ?_)))))))
  refine RGoff0 rfl rfl (RGoff0 rfl rfl (R2 (xb0 rfl) rfl rfl (R1 x3 rfl (RGoff0 rfl rfl (RGoff0 rfl rfl (R2 (xb0 rfl) rfl rfl (R1 x5 rfl ?_)))))))
  refine x7 (by kernel_rfl) (x4 (xa1 ?_))
  exact xa4 Plain.mk' rfl rfl (Le.bool (by simp [askB, *]))
theorem c_isLength (n : Int) :
  Ct Tryz.prog 48 [tI n] (tB (decide (1 ≤ n ∧ n ≤ 1200))) := by
 refine Ct.intro Tryz.func48 rfl Tryz.ntmps48 rfl ?_
 intro w F
 refine x6 ?_
 refine x8 ?_
 refine R1 x5 rfl (x7 (by kernel_rfl) (x4 (x6 ?_)))
 refine x8 ?_
 refine R1 x3 rfl (R2 xf5 rfl rfl (R1 x3 rfl ?_))
 refine RGcaseD (t := 5) rfl (fun h26 => ?_) (fun h26 => ?_)
 ·
  refine RGon (decide_eq_true h26) rfl x3 rfl ⟨rfl, trivial⟩ trivial trivial (RGon (decide_eq_true h26) rfl xf5 rfl ⟨rfl, rfl, trivial⟩ trivial trivial (R2 (xb2 (decide_eq_true h26)) rfl rfl (R1 x5 rfl (x7 (by kernel_rfl) (x4 (xa1 ?_))))))
  exact xa4 Plain.mk' rfl rfl (Le.bool (by simp; omega))
 ·
  refine RGoff (decide_eq_false h26) rfl rfl (RGoff (decide_eq_false h26) rfl rfl (R2 (xb0 (decide_eq_false h26)) rfl rfl (R1 x5 rfl (x7 (by kernel_rfl) (x4 (xa1 ?_))))))
  exact xa4 Plain.mk' rfl rfl (Le.bool (by simp; omega))
theorem c_isCov1 (l : List Sn) (d : Int) (i : Nat) (hi : i < l.length) :
  CtG Tryz.prog 59 [(3, ⟨71, 1, false, [.val (tL 2 true tSn l)]⟩), (4, ⟨3, 1, false, [.val (tI d)]⟩)] [.val (tI i), .own (.ptr 3 0), .own (.ptr 4 0)] (.val (tB (decide (d < (l.getD i sn0).hi)))) [(3, ⟨71, 1, false, [.val (tL 2 true tSn l)]⟩), (4, ⟨3, 1, false, [.val (tI d)]⟩)] [] := by
 refine CtG.intro [3, 4] Tryz.func59 rfl Tryz.ntmps59 rfl rfl ⟨⟨rfl, (SupX.lit rfl)⟩, ⟨rfl, (SupX.lit rfl)⟩, trivial⟩ ?_
 intro w F η
 refine x6 ?_
 refine x8 ?_
 refine R1 x5 rfl (x7 (by kernel_rfl) (x4 (x6 ?_)))
 refine xd5 mixed ?_
 refine RE (xa8 (0) ti71 rfl rfl) ⟨rfl, trivial⟩ ⟨rfl, trivial⟩ trivial (R1 x3 rfl (R2 (xb9 sl71 (i) (by omega) (gD (l := l) (n := i) (d := sn0) (by omega))) rfl rfl (R1 (xh4 fo98_1 (At.f 1 rfl rfl) rfl) rfl (R1 (xc5 ti3) rfl (RE (xa8 (0) ti3 rfl rfl) ⟨rfl, trivial⟩ ⟨rfl, trivial⟩ trivial (R2 d_gtr rfl rfl (R1 x5 rfl ?_)))))))
 refine xd6 (by kernel_rfl) (x4 (xa1 ?_))
 exact xg2 LentC.mk' rfl rfl Imp.refl ⟨rfl, rfl, trivial⟩ rfl ⟨⟨rfl, (SupX.lit rfl)⟩, ⟨rfl, (SupX.lit rfl)⟩, trivial⟩ rfl
theorem c_SearchC (l : List Sn) (d : Int) (hv : sVal l = true) (hl : l.length ≤ 1000000) :
  CtG Tryz.prog 58 [(3, ⟨71, 1, false, [.val (tL 2 true tSn l)]⟩), (4, ⟨3, 1, false, [.val (tI d)]⟩)] [.val (tI l.length), .own (.fn 59 [.ptr 3 0, .ptr 4 0])] (.val (tI (fndS l d))) [(3, ⟨71, 1, false, [.val (tL 2 true tSn l)]⟩), (4, ⟨3, 1, false, [.val (tI d)]⟩)] [] := by
 refine CtG.intro [3, 4] Tryz.func58 rfl Tryz.ntmps58 rfl rfl ⟨⟨rfl, (SupX.lit rfl)⟩, ⟨rfl, (SupX.lit rfl)⟩, trivial⟩ ?_
 intro w F η
 refine x6 ?_
 refine x8 ?_
 refine R1 x5 rfl (x7 (by kernel_rfl) (x4 (x6 ?_)))
 refine x8 ?_
 refine R1 x3 rfl (R1 x5 rfl (R1 x5 rfl (x7 (by kernel_rfl) (x4 (x6 (xb3 ?_))))))
 refine xe1 (fun (fm : (Nat) × (Nat)) => (fun (p : Nat) (q : Nat) => p ≤ q ∧ q ≤ l.length ∧ (∀ i, i < p → (l.getD i sn0).hi ≤ d) ∧ ∀ i, q ≤ i → i < l.length → d < (l.getD i sn0).hi) fm.1 fm.2) (fun (fm : (Nat) × (Nat)) => (fun (p : Nat) (q : Nat) => upd (upd (upd (fun _ => none) 1 (some (.own (.fn 59 [.ptr 3 0, .ptr 4 0])))) 5 (some (.val (tI p)))) 6 (some (.val (tI q)))) fm.1 fm.2) (fun (fm : (Nat) × (Nat)) => (fun (p : Nat) (q : Nat) => upd (upd (fun _ => none) 3 (some (⟨71, 1, false, [.val (tL 2 true tSn l)]⟩))) 4 (some (⟨3, 1, false, [.val (tI d)]⟩))) fm.1 fm.2) (nm [3, 4]) (fun (fm : (Nat) × (Nat)) => (fun (p : Nat) (q : Nat) => q - p) fm.1 fm.2) ((0, l.length)) (by dsimp only; exact ⟨Nat.zero_le _, Nat.le_refl _, fun i hi => by omega, fun i hi hi2 => by omega⟩) (Sub.int rfl (by first | omega | rfl | (dsimp only; omega)) (Sub.int rfl (by first | omega | rfl | (dsimp only; omega)) (Sub.cons rfl Sub.nil))) ((SubK.consI rfl ImpK.refl) ((SubK.consI rfl ImpK.refl) SubK.nil)) (SupG.val (SupG.val (SupG.own rfl SupG.nil))) (SupH.cons rfl (supJL rfl) (SupH.cons rfl (supJL rfl) SupH.nil)) (lkOk rfl) ?_
 intro fm hI
 obtain ⟨p, q⟩ := fm
 replace hI : p ≤ q ∧ q ≤ l.length ∧ (∀ i, i < p → (l.getD i sn0).hi ≤ d) ∧ ∀ i, q ≤ i → i < l.length → d < (l.getD i sn0).hi := hI
 show wc _ _ _ _ (upd (upd (upd (fun _ => none) 1 (some (.own (.fn 59 [.ptr 3 0, .ptr 4 0])))) 5 (some (.val (tI p)))) 6 (some (.val (tI q)))) (upd (upd (fun _ => none) 3 (some (⟨71, 1, false, [.val (tL 2 true tSn l)]⟩))) 4 (some (⟨3, 1, false, [.val (tI d)]⟩))) _
 obtain ⟨hp, hq, h1, h2⟩ := hI
 refine x6 (x6 ?_)
 refine x8 ?_
 refine R1 x3 rfl (R1 x3 rfl (R2 xd8 rfl rfl (x7 (by kernel_rfl) (x4 ?_))))
 refine xc0 rfl (fun h62 => ?_) (fun h62 => ?_)
 ·
  refine xa5 (x4 (xb3 (x6 ?_)))
  refine x8 ?_
  refine R1 x3 rfl (R1 x3 rfl (R2 (xb6 (wr64 (by omega) (by omega))) rfl rfl (R1 (xb1 Tryz.underlying111 (isS Tryz.underlying3) (by first | exact wu64 (by omega) (by omega) | exact mu64)) rfl (R2 (d_shr (r := ((((p + q) / 2) : Nat) : Int)) (by decide) ((shrN (s := 1) rfl (by decide)).trans (by simp))) rfl rfl (R1 (xb1 Tryz.underlying3 (isS Tryz.underlying111) (wr64 (by omega) (by omega))) rfl (R1 x5 rfl (x7 (by kernel_rfl) ?_)))))))
  refine x4 (x6 ?_)
  refine x8 ?_
  refine R1 x3 rfl (R1 x3 rfl (RE (d_callCX (ps := [.val (tI _)]) (caps := [.ptr 3 0, .ptr 4 0]) (fun j => cond (Nat.beq j 3) 3 (4)) (c_isCov1 l d ((p + q) / 2) (by omega)) fi59 rfl (krC (ρ := fun j => cond (Nat.beq j 3) 3 (4)) (k := 3) rfl (krC (ρ := fun j => cond (Nat.beq j 3) 3 (4)) (k := 4) rfl (krN (ρ := fun j => cond (Nat.beq j 3) 3 (4))))) (krC (ρ := fun j => cond (Nat.beq j 3) 3 (4)) (k := 3) rfl (krC (ρ := fun j => cond (Nat.beq j 3) 3 (4)) (k := 4) rfl (krN (ρ := fun j => cond (Nat.beq j 3) 3 (4))))) ⟨⟨rfl, (SupX.lit rfl)⟩, ⟨rfl, (SupX.lit rfl)⟩, trivial⟩ rfl) ⟨rfl, rfl, trivial⟩ ⟨rfl, rfl, trivial⟩ trivial (R1 xe4 rfl (x7 (by kernel_rfl) (x4 ?_)))))
  refine C_ifn rfl (fun h65 => ?_) (fun h65 => ?_)
  ·
   refine x8 ?_
   refine R1 x3 rfl (R2 (xb6 (wr64 (by omega) (by omega))) rfl rfl (R1 x5 rfl (x7 (by kernel_rfl) (xc1 ?_))))
   exact xc2 ((((p + q) / 2) + 1, q)) ⟨(by dsimp only; exact ⟨by omega, hq, fun i hi => by have := hiS_mono hv (show i ≤ ((p + q) / 2) by omega) (by omega); omega, h2⟩), (by dsimp only; omega)⟩ (Sub.int rfl (by first | omega | rfl | (dsimp only; omega)) (Sub.int rfl (by first | omega | rfl | (dsimp only; omega)) (Sub.cons rfl Sub.nil))) ((SubK.consI rfl ImpK.refl) ((SubK.consI rfl ImpK.refl) SubK.nil)) (SupG.val (SupG.val (SupG.own rfl SupG.nil))) (SupH.cons rfl (supJL rfl) (SupH.cons rfl (supJL rfl) SupH.nil)) (lkOk rfl)
  ·
   refine x8 ?_
   refine R1 x3 rfl (R1 x5 rfl (x7 (by kernel_rfl) (xc1 ?_)))
   exact xc2 ((p, ((p + q) / 2))) ⟨(by dsimp only; exact ⟨by omega, by omega, h1, fun i hi hi2 => by have := hiS_mono hv hi hi2; omega⟩), (by dsimp only; omega)⟩ (Sub.int rfl (by first | omega | rfl | (dsimp only; omega)) (Sub.int rfl (by first | omega | rfl | (dsimp only; omega)) (Sub.cons rfl Sub.nil))) ((SubK.consI rfl ImpK.refl) ((SubK.consI rfl ImpK.refl) SubK.nil)) (SupG.val (SupG.val (SupG.own rfl SupG.nil))) (SupH.cons rfl (supJL rfl) (SupH.cons rfl (supJL rfl) SupH.nil)) (lkOk rfl)
 ·
  refine xd4 (xb8 (xb8 (xe0 (x4 (x6 ?_)))))
  refine x8 ?_
  refine R1 x3 rfl (R1 x5 rfl (x7 (by kernel_rfl) (x4 (xa1 ?_))))
  exact xg2 LentC.mk' rfl rfl (Imp.int (congrArg Int.ofNat (fst_is (n := l.length) (f := fun i => decide (d < (l.getD i sn0).hi)) (by omega) (fun i hi => decide_eq_false (by have := h1 i hi; omega)) (fun hp2 => decide_eq_true (h2 p (by omega) hp2))).symm)) ⟨rfl, rfl, trivial⟩ rfl ⟨⟨rfl, (SupX.lit rfl)⟩, ⟨rfl, (SupX.lit rfl)⟩, trivial⟩ rfl
theorem c_isCov (l : List Sn) (a b : Int) (hv : sVal l = true) (hl : l.length ≤ 1000000) :
  Ct Tryz.prog 35 [tL 2 true tSn l, tI a, tI b] (tB (cvB l a b)) := by
 refine Ct.intro Tryz.func35 rfl Tryz.ntmps35 rfl ?_
 intro w F
 refine x6 ?_
 refine x8 ?_
 refine RE (xc9 (k := 3) ti71 rfl) ⟨rfl, trivial⟩ trivial ⟨rfl, trivial⟩ (RE (xc9 (k := 4) ti3 rfl) ⟨rfl, trivial⟩ trivial ⟨rfl, trivial⟩ (R1 x5 rfl (x7 (by kernel_rfl) (x4 (x6 ?_)))))
 refine x8 ?_
 refine RE (xa8 (0) ti71 rfl rfl) ⟨rfl, trivial⟩ ⟨rfl, trivial⟩ trivial (R1 (xc4 Tryz.underlying71) rfl (R2 (xi0 (ps := [.ptr 3 0, .ptr 4 0]) rfl) rfl rfl (RE (xg8 (fun j => cond (Nat.beq j 3) 3 (4)) (c_SearchC l a hv hl) fi58 rfl (krC (ρ := fun j => cond (Nat.beq j 3) 3 (4)) (k := 3) rfl (krC (ρ := fun j => cond (Nat.beq j 3) 3 (4)) (k := 4) rfl (krN (ρ := fun j => cond (Nat.beq j 3) 3 (4))))) (krC (ρ := fun j => cond (Nat.beq j 3) 3 (4)) (k := 3) rfl (krC (ρ := fun j => cond (Nat.beq j 3) 3 (4)) (k := 4) rfl (krN (ρ := fun j => cond (Nat.beq j 3) 3 (4))))) ⟨⟨rfl, (SupX.lit rfl)⟩, ⟨rfl, (SupX.lit rfl)⟩, trivial⟩ rfl) ⟨rfl, rfl, trivial⟩ ⟨rfl, rfl, trivial⟩ trivial (R1 x5 rfl (x7 (by kernel_rfl) (x4 (x6 ?_)))))))
 refine xd5 mixed ?_
 refine R1 x3 rfl (RE (xa8 (0) ti71 rfl rfl) ⟨rfl, trivial⟩ ⟨rfl, trivial⟩ trivial (R1 (xc4 Tryz.underlying71) rfl (R2 xd8 rfl rfl (R1 x3 rfl ?_))))
 refine RGcaseD (t := 16) rfl (fun h32 => ?_) (fun h32 => ?_)
 ·
  refine RGon (decide_eq_true h32) rfl (xa8 (0) ti71 rfl rfl) rfl ⟨rfl, trivial⟩ ⟨rfl, trivial⟩ trivial (RGon (decide_eq_true h32) rfl x3 rfl ⟨rfl, trivial⟩ trivial trivial (RGon (decide_eq_true h32) rfl (xb9 sl71 (fndS l a) (by omega) (gD (l := l) (n := fndS l a) (d := sn0) (by omega))) rfl ⟨rfl, rfl, trivial⟩ trivial trivial (RGon (decide_eq_true h32) rfl (xh4 fo98_0 (At.f 0 rfl rfl) rfl) rfl ⟨rfl, trivial⟩ trivial trivial (RGon (decide_eq_true h32) rfl (xc5 ti3) rfl ⟨rfl, trivial⟩ trivial trivial (RGon (decide_eq_true h32) rfl (xa8 (0) ti3 rfl rfl) rfl ⟨rfl, trivial⟩ ⟨rfl, trivial⟩ trivial (RGon (decide_eq_true h32) rfl xf5 rfl ⟨rfl, rfl, trivial⟩ trivial trivial (R2 (xb2 (decide_eq_true h32)) rfl rfl ?_)))))))
  refine R1 x3 rfl ?_
  refine RGcaseD (t := 25) rfl (fun h32_2 => ?_) (fun h32_2 => ?_)
  ·
   refine RGon (decide_eq_true h32_2) rfl x3 rfl ⟨rfl, trivial⟩ trivial trivial (RGon (decide_eq_true h32_2) rfl (xa8 (0) ti71 rfl rfl) rfl ⟨rfl, trivial⟩ ⟨rfl, trivial⟩ trivial (RGon (decide_eq_true h32_2) rfl x3 rfl ⟨rfl, trivial⟩ trivial trivial (RGon (decide_eq_true h32_2) rfl (xb9 sl71 (fndS l a) (by omega) (gD (l := l) (n := fndS l a) (d := sn0) (by omega))) rfl ⟨rfl, rfl, trivial⟩ trivial trivial (RGon (decide_eq_true h32_2) rfl (xh4 fo98_1 (At.f 1 rfl rfl) rfl) rfl ⟨rfl, trivial⟩ trivial trivial (RGon (decide_eq_true h32_2) rfl (xc5 ti3) rfl ⟨rfl, trivial⟩ trivial trivial (RGon (decide_eq_true h32_2) rfl xf5 rfl ⟨rfl, rfl, trivial⟩ trivial trivial (R2 (xb2 (decide_eq_true h32_2)) rfl rfl ?_)))))))
   refine R1 x5 rfl (xd6 (by kernel_rfl) (x4 (xa1 ?_)))
   exact xa4 Plain.mk' rfl rfl (Le.bool (by rw [cvB, decide_eq_true (show fndS l a < l.length by omega), decide_eq_true h32_2]; rfl))
  ·
   refine RGoff (decide_eq_false h32_2) rfl rfl (RGoff (decide_eq_false h32_2) rfl rfl (RGoff (decide_eq_false h32_2) rfl rfl (RGoff (decide_eq_false h32_2) rfl rfl (RGoff (decide_eq_false h32_2) rfl rfl (RGoff (decide_eq_false h32_2) rfl rfl (RGoff (decide_eq_false h32_2) rfl rfl (R2 (xb0 (decide_eq_false h32_2)) rfl rfl ?_)))))))
   refine R1 x5 rfl (xd6 (by kernel_rfl) (x4 (xa1 ?_)))
   exact xa4 Plain.mk' rfl rfl (Le.bool (by rw [cvB, decide_eq_true (show fndS l a < l.length by omega), decide_eq_false h32_2]; rfl))
 ·
  refine RGoff (decide_eq_false h32) rfl rfl (RGoff (decide_eq_false h32) rfl rfl (RGoff (decide_eq_false h32) rfl rfl (RGoff (decide_eq_false h32) rfl rfl (RGoff (decide_eq_false h32) rfl rfl (RGoff (decide_eq_false h32) rfl rfl (RGoff (decide_eq_false h32) rfl rfl (R2 (xb0 (decide_eq_false h32)) rfl rfl ?_)))))))
  refine R1 x3 rfl (RGoff0 rfl rfl (RGoff0 rfl rfl (RGoff0 rfl rfl (RGoff0 rfl rfl (RGoff0 rfl rfl (RGoff0 rfl rfl (RGoff0 rfl rfl ?_)))))))
  refine R2 (xb0 rfl) rfl rfl (R1 x5 rfl (xd6 (by kernel_rfl) (x4 (xa1 ?_))))
  exact xa4 Plain.mk' rfl rfl (Le.bool (by rw [cvB, decide_eq_false (show ¬ fndS l a < l.length by omega)]; rfl))
theorem c_avg1 (l : List Tst) (d : Int) (i : Nat) (hi : i < l.length) :
  CtG Tryz.prog 61 [(3, ⟨24, 1, false, [.val (tL 8 true tTs l)]⟩), (4, ⟨3, 1, false, [.val (tI d)]⟩)] [.val (tI i), .own (.ptr 3 0), .own (.ptr 4 0)] (.val (tB (decide (d < (l.getD i tst0).hi)))) [(3, ⟨24, 1, false, [.val (tL 8 true tTs l)]⟩), (4, ⟨3, 1, false, [.val (tI d)]⟩)] [] := by
 refine CtG.intro [3, 4] Tryz.func61 rfl Tryz.ntmps61 rfl rfl ⟨⟨rfl, (SupX.lit rfl)⟩, ⟨rfl, (SupX.lit rfl)⟩, trivial⟩ ?_
 intro w F η
 refine x6 ?_
 refine x8 ?_
 refine R1 x5 rfl (x7 (by kernel_rfl) (x4 (x6 ?_)))
 refine xd5 mixed ?_
 refine RE (xa8 (0) ti24 rfl rfl) ⟨rfl, trivial⟩ ⟨rfl, trivial⟩ trivial (R1 x3 rfl (R2 (xb9 sl24 (i) (by omega) (gD (l := l) (n := i) (d := tst0) (by omega))) rfl rfl (R1 (xh4 fo41_1 (At.f 1 rfl rfl) rfl) rfl (R1 (xc5 ti3) rfl (RE (xa8 (0) ti3 rfl rfl) ⟨rfl, trivial⟩ ⟨rfl, trivial⟩ trivial (R2 d_gtr rfl rfl (R1 x5 rfl ?_)))))))
 refine xd6 (by kernel_rfl) (x4 (xa1 ?_))
 exact xg2 LentC.mk' rfl rfl Imp.refl ⟨rfl, rfl, trivial⟩ rfl ⟨⟨rfl, (SupX.lit rfl)⟩, ⟨rfl, (SupX.lit rfl)⟩, trivial⟩ rfl
theorem c_avg2 (l : List Tst) (d : Int) (i : Nat) (hi : i < l.length) :
  CtG Tryz.prog 62 [(3, ⟨24, 1, false, [.val (tL 8 true tTs l)]⟩), (5, ⟨3, 1, false, [.val (tI d)]⟩)] [.val (tI i), .own (.ptr 3 0), .own (.ptr 5 0)] (.val (tB (decide (d ≤ (l.getD i tst0).lo)))) [(3, ⟨24, 1, false, [.val (tL 8 true tTs l)]⟩), (5, ⟨3, 1, false, [.val (tI d)]⟩)] [] := by
 refine CtG.intro [3, 5] Tryz.func62 rfl Tryz.ntmps62 rfl rfl ⟨⟨rfl, (SupX.lit rfl)⟩, ⟨rfl, (SupX.lit rfl)⟩, trivial⟩ ?_
 intro w F η
 refine x6 ?_
 refine x8 ?_
 refine R1 x5 rfl (x7 (by kernel_rfl) (x4 (x6 ?_)))
 refine xd5 mixed ?_
 refine RE (xa8 (0) ti24 rfl rfl) ⟨rfl, trivial⟩ ⟨rfl, trivial⟩ trivial (R1 x3 rfl (R2 (xb9 sl24 (i) (by omega) (gD (l := l) (n := i) (d := tst0) (by omega))) rfl rfl (R1 (xh4 fo41_0 (At.f 0 rfl rfl) rfl) rfl (R1 (xc5 ti3) rfl (RE (xa8 (0) ti3 rfl rfl) ⟨rfl, trivial⟩ ⟨rfl, trivial⟩ trivial (R2 d_geq rfl rfl (R1 x5 rfl ?_)))))))
 refine xd6 (by kernel_rfl) (x4 (xa1 ?_))
 exact xg2 LentC.mk' rfl rfl Imp.refl ⟨rfl, rfl, trivial⟩ rfl ⟨⟨rfl, (SupX.lit rfl)⟩, ⟨rfl, (SupX.lit rfl)⟩, trivial⟩ rfl
theorem c_SearchA (l : List Tst) (d : Int) (hv : ascT l) (hl : l.length ≤ 1000000) :
  CtG Tryz.prog 58 [(3, ⟨24, 1, false, [.val (tL 8 true tTs l)]⟩), (4, ⟨3, 1, false, [.val (tI d)]⟩)] [.val (tI l.length), .own (.fn 61 [.ptr 3 0, .ptr 4 0])] (.val (tI (fstA l d))) [(3, ⟨24, 1, false, [.val (tL 8 true tTs l)]⟩), (4, ⟨3, 1, false, [.val (tI d)]⟩)] [] := by
 refine CtG.intro [3, 4] Tryz.func58 rfl Tryz.ntmps58 rfl rfl ⟨⟨rfl, (SupX.lit rfl)⟩, ⟨rfl, (SupX.lit rfl)⟩, trivial⟩ ?_
 intro w F η
 refine x6 ?_
 refine x8 ?_
 refine R1 x5 rfl (x7 (by kernel_rfl) (x4 (x6 ?_)))
 refine x8 ?_
 refine R1 x3 rfl (R1 x5 rfl (R1 x5 rfl (x7 (by kernel_rfl) (x4 (x6 (xb3 ?_))))))
 refine xe1 (fun (fm : (Nat) × (Nat)) => (fun (p : Nat) (q : Nat) => p ≤ q ∧ q ≤ l.length ∧ (∀ i, i < p → (l.getD i tst0).hi ≤ d) ∧ ∀ i, q ≤ i → i < l.length → d < (l.getD i tst0).hi) fm.1 fm.2) (fun (fm : (Nat) × (Nat)) => (fun (p : Nat) (q : Nat) => upd (upd (upd (fun _ => none) 1 (some (.own (.fn 61 [.ptr 3 0, .ptr 4 0])))) 5 (some (.val (tI p)))) 6 (some (.val (tI q)))) fm.1 fm.2) (fun (fm : (Nat) × (Nat)) => (fun (p : Nat) (q : Nat) => upd (upd (fun _ => none) 3 (some (⟨24, 1, false, [.val (tL 8 true tTs l)]⟩))) 4 (some (⟨3, 1, false, [.val (tI d)]⟩))) fm.1 fm.2) (nm [3, 4]) (fun (fm : (Nat) × (Nat)) => (fun (p : Nat) (q : Nat) => q - p) fm.1 fm.2) ((0, l.length)) (by dsimp only; exact ⟨Nat.zero_le _, Nat.le_refl _, fun i hi => by omega, fun i hi hi2 => by omega⟩) (Sub.int rfl (by first | omega | rfl | (dsimp only; omega)) (Sub.int rfl (by first | omega | rfl | (dsimp only; omega)) (Sub.cons rfl Sub.nil))) ((SubK.consI rfl ImpK.refl) ((SubK.consI rfl ImpK.refl) SubK.nil)) (SupG.val (SupG.val (SupG.own rfl SupG.nil))) (SupH.cons rfl (supJL rfl) (SupH.cons rfl (supJL rfl) SupH.nil)) (lkOk rfl) ?_
 intro fm hI
 obtain ⟨p, q⟩ := fm
 replace hI : p ≤ q ∧ q ≤ l.length ∧ (∀ i, i < p → (l.getD i tst0).hi ≤ d) ∧ ∀ i, q ≤ i → i < l.length → d < (l.getD i tst0).hi := hI
 show wc _ _ _ _ (upd (upd (upd (fun _ => none) 1 (some (.own (.fn 61 [.ptr 3 0, .ptr 4 0])))) 5 (some (.val (tI p)))) 6 (some (.val (tI q)))) (upd (upd (fun _ => none) 3 (some (⟨24, 1, false, [.val (tL 8 true tTs l)]⟩))) 4 (some (⟨3, 1, false, [.val (tI d)]⟩))) _
 obtain ⟨hp, hq, h1, h2⟩ := hI
 refine x6 (x6 ?_)
 refine x8 ?_
 refine R1 x3 rfl (R1 x3 rfl (R2 xd8 rfl rfl (x7 (by kernel_rfl) (x4 ?_))))
 refine xc0 rfl (fun h62 => ?_) (fun h62 => ?_)
 ·
  refine xa5 (x4 (xb3 (x6 ?_)))
  refine x8 ?_
  refine R1 x3 rfl (R1 x3 rfl (R2 (xb6 (wr64 (by omega) (by omega))) rfl rfl (R1 (xb1 Tryz.underlying111 (isS Tryz.underlying3) (by first | exact wu64 (by omega) (by omega) | exact mu64)) rfl (R2 (d_shr (r := ((((p + q) / 2) : Nat) : Int)) (by decide) ((shrN (s := 1) rfl (by decide)).trans (by simp))) rfl rfl (R1 (xb1 Tryz.underlying3 (isS Tryz.underlying111) (wr64 (by omega) (by omega))) rfl (R1 x5 rfl (x7 (by kernel_rfl) ?_)))))))
  refine x4 (x6 ?_)
  refine x8 ?_
  refine R1 x3 rfl (R1 x3 rfl (RE (d_callCX (ps := [.val (tI _)]) (caps := [.ptr 3 0, .ptr 4 0]) (fun j => cond (Nat.beq j 3) 3 (4)) (c_avg1 l d ((p + q) / 2) (by omega)) fi61 rfl (krC (ρ := fun j => cond (Nat.beq j 3) 3 (4)) (k := 3) rfl (krC (ρ := fun j => cond (Nat.beq j 3) 3 (4)) (k := 4) rfl (krN (ρ := fun j => cond (Nat.beq j 3) 3 (4))))) (krC (ρ := fun j => cond (Nat.beq j 3) 3 (4)) (k := 3) rfl (krC (ρ := fun j => cond (Nat.beq j 3) 3 (4)) (k := 4) rfl (krN (ρ := fun j => cond (Nat.beq j 3) 3 (4))))) ⟨⟨rfl, (SupX.lit rfl)⟩, ⟨rfl, (SupX.lit rfl)⟩, trivial⟩ rfl) ⟨rfl, rfl, trivial⟩ ⟨rfl, rfl, trivial⟩ trivial (R1 xe4 rfl (x7 (by kernel_rfl) (x4 ?_)))))
  refine C_ifn rfl (fun h65 => ?_) (fun h65 => ?_)
  ·
   refine x8 ?_
   refine R1 x3 rfl (R2 (xb6 (wr64 (by omega) (by omega))) rfl rfl (R1 x5 rfl (x7 (by kernel_rfl) (xc1 ?_))))
   exact xc2 ((((p + q) / 2) + 1, q)) ⟨(by dsimp only; exact ⟨by omega, hq, fun i hi => by have := hiT_asc hv (show i ≤ ((p + q) / 2) by omega) (by omega); omega, h2⟩), (by dsimp only; omega)⟩ (Sub.int rfl (by first | omega | rfl | (dsimp only; omega)) (Sub.int rfl (by first | omega | rfl | (dsimp only; omega)) (Sub.cons rfl Sub.nil))) ((SubK.consI rfl ImpK.refl) ((SubK.consI rfl ImpK.refl) SubK.nil)) (SupG.val (SupG.val (SupG.own rfl SupG.nil))) (SupH.cons rfl (supJL rfl) (SupH.cons rfl (supJL rfl) SupH.nil)) (lkOk rfl)
  ·
   refine x8 ?_
   refine R1 x3 rfl (R1 x5 rfl (x7 (by kernel_rfl) (xc1 ?_)))
   exact xc2 ((p, ((p + q) / 2))) ⟨(by dsimp only; exact ⟨by omega, by omega, h1, fun i hi hi2 => by have := hiT_asc hv hi hi2; omega⟩), (by dsimp only; omega)⟩ (Sub.int rfl (by first | omega | rfl | (dsimp only; omega)) (Sub.int rfl (by first | omega | rfl | (dsimp only; omega)) (Sub.cons rfl Sub.nil))) ((SubK.consI rfl ImpK.refl) ((SubK.consI rfl ImpK.refl) SubK.nil)) (SupG.val (SupG.val (SupG.own rfl SupG.nil))) (SupH.cons rfl (supJL rfl) (SupH.cons rfl (supJL rfl) SupH.nil)) (lkOk rfl)
 ·
  refine xd4 (xb8 (xb8 (xe0 (x4 (x6 ?_)))))
  refine x8 ?_
  refine R1 x3 rfl (R1 x5 rfl (x7 (by kernel_rfl) (x4 (xa1 ?_))))
  exact xg2 LentC.mk' rfl rfl (Imp.int (congrArg Int.ofNat (fst_is (n := l.length) (f := fun i => decide (d < (l.getD i tst0).hi)) (by omega) (fun i hi => decide_eq_false (by have := h1 i hi; omega)) (fun hp2 => decide_eq_true (h2 p (by omega) hp2))).symm)) ⟨rfl, rfl, trivial⟩ rfl ⟨⟨rfl, (SupX.lit rfl)⟩, ⟨rfl, (SupX.lit rfl)⟩, trivial⟩ rfl
theorem c_SearchB (l : List Tst) (d : Int) (hv : ascT l) (hl : l.length ≤ 1000000) :
  CtG Tryz.prog 58 [(3, ⟨24, 1, false, [.val (tL 8 true tTs l)]⟩), (5, ⟨3, 1, false, [.val (tI d)]⟩)] [.val (tI l.length), .own (.fn 62 [.ptr 3 0, .ptr 5 0])] (.val (tI (endA l d))) [(3, ⟨24, 1, false, [.val (tL 8 true tTs l)]⟩), (5, ⟨3, 1, false, [.val (tI d)]⟩)] [] := by
 refine CtG.intro [3, 5] Tryz.func58 rfl Tryz.ntmps58 rfl rfl ⟨⟨rfl, (SupX.lit rfl)⟩, ⟨rfl, (SupX.lit rfl)⟩, trivial⟩ ?_
 intro w F η
 refine x6 ?_
 refine x8 ?_
 refine R1 x5 rfl (x7 (by kernel_rfl) (x4 (x6 ?_)))
 refine x8 ?_
 refine R1 x3 rfl (R1 x5 rfl (R1 x5 rfl (x7 (by kernel_rfl) (x4 (x6 (xb3 ?_))))))
 refine xe1 (fun (fm : (Nat) × (Nat)) => (fun (p : Nat) (q : Nat) => p ≤ q ∧ q ≤ l.length ∧ (∀ i, i < p → (l.getD i tst0).lo < d) ∧ ∀ i, q ≤ i → i < l.length → d ≤ (l.getD i tst0).lo) fm.1 fm.2) (fun (fm : (Nat) × (Nat)) => (fun (p : Nat) (q : Nat) => upd (upd (upd (fun _ => none) 1 (some (.own (.fn 62 [.ptr 3 0, .ptr 5 0])))) 5 (some (.val (tI p)))) 6 (some (.val (tI q)))) fm.1 fm.2) (fun (fm : (Nat) × (Nat)) => (fun (p : Nat) (q : Nat) => upd (upd (fun _ => none) 3 (some (⟨24, 1, false, [.val (tL 8 true tTs l)]⟩))) 5 (some (⟨3, 1, false, [.val (tI d)]⟩))) fm.1 fm.2) (nm [3, 5]) (fun (fm : (Nat) × (Nat)) => (fun (p : Nat) (q : Nat) => q - p) fm.1 fm.2) ((0, l.length)) (by dsimp only; exact ⟨Nat.zero_le _, Nat.le_refl _, fun i hi => by omega, fun i hi hi2 => by omega⟩) (Sub.int rfl (by first | omega | rfl | (dsimp only; omega)) (Sub.int rfl (by first | omega | rfl | (dsimp only; omega)) (Sub.cons rfl Sub.nil))) ((SubK.consI rfl ImpK.refl) ((SubK.consI rfl ImpK.refl) SubK.nil)) (SupG.val (SupG.val (SupG.own rfl SupG.nil))) (SupH.cons rfl (supJL rfl) (SupH.cons rfl (supJL rfl) SupH.nil)) (lkOk rfl) ?_
 intro fm hI
 obtain ⟨p, q⟩ := fm
 replace hI : p ≤ q ∧ q ≤ l.length ∧ (∀ i, i < p → (l.getD i tst0).lo < d) ∧ ∀ i, q ≤ i → i < l.length → d ≤ (l.getD i tst0).lo := hI
 show wc _ _ _ _ (upd (upd (upd (fun _ => none) 1 (some (.own (.fn 62 [.ptr 3 0, .ptr 5 0])))) 5 (some (.val (tI p)))) 6 (some (.val (tI q)))) (upd (upd (fun _ => none) 3 (some (⟨24, 1, false, [.val (tL 8 true tTs l)]⟩))) 5 (some (⟨3, 1, false, [.val (tI d)]⟩))) _
 obtain ⟨hp, hq, h1, h2⟩ := hI
 refine x6 (x6 ?_)
 refine x8 ?_
 refine R1 x3 rfl (R1 x3 rfl (R2 xd8 rfl rfl (x7 (by kernel_rfl) (x4 ?_))))
 refine xc0 rfl (fun h62 => ?_) (fun h62 => ?_)
 ·
  refine xa5 (x4 (xb3 (x6 ?_)))
  refine x8 ?_
  refine R1 x3 rfl (R1 x3 rfl (R2 (xb6 (wr64 (by omega) (by omega))) rfl rfl (R1 (xb1 Tryz.underlying111 (isS Tryz.underlying3) (by first | exact wu64 (by omega) (by omega) | exact mu64)) rfl (R2 (d_shr (r := ((((p + q) / 2) : Nat) : Int)) (by decide) ((shrN (s := 1) rfl (by decide)).trans (by simp))) rfl rfl (R1 (xb1 Tryz.underlying3 (isS Tryz.underlying111) (wr64 (by omega) (by omega))) rfl (R1 x5 rfl (x7 (by kernel_rfl) ?_)))))))
  refine x4 (x6 ?_)
  refine x8 ?_
  refine R1 x3 rfl (R1 x3 rfl (RE (d_callCX (ps := [.val (tI _)]) (caps := [.ptr 3 0, .ptr 5 0]) (fun j => cond (Nat.beq j 3) 3 (5)) (c_avg2 l d ((p + q) / 2) (by omega)) fi62 rfl (krC (ρ := fun j => cond (Nat.beq j 3) 3 (5)) (k := 3) rfl (krC (ρ := fun j => cond (Nat.beq j 3) 3 (5)) (k := 5) rfl (krN (ρ := fun j => cond (Nat.beq j 3) 3 (5))))) (krC (ρ := fun j => cond (Nat.beq j 3) 3 (5)) (k := 3) rfl (krC (ρ := fun j => cond (Nat.beq j 3) 3 (5)) (k := 5) rfl (krN (ρ := fun j => cond (Nat.beq j 3) 3 (5))))) ⟨⟨rfl, (SupX.lit rfl)⟩, ⟨rfl, (SupX.lit rfl)⟩, trivial⟩ rfl) ⟨rfl, rfl, trivial⟩ ⟨rfl, rfl, trivial⟩ trivial (R1 xe4 rfl (x7 (by kernel_rfl) (x4 ?_)))))
  refine C_ifn rfl (fun h65 => ?_) (fun h65 => ?_)
  ·
   refine x8 ?_
   refine R1 x3 rfl (R2 (xb6 (wr64 (by omega) (by omega))) rfl rfl (R1 x5 rfl (x7 (by kernel_rfl) (xc1 ?_))))
   exact xc2 ((((p + q) / 2) + 1, q)) ⟨(by dsimp only; exact ⟨by omega, hq, fun i hi => by have := loT_mono hv (show i ≤ ((p + q) / 2) by omega) (by omega); omega, h2⟩), (by dsimp only; omega)⟩ (Sub.int rfl (by first | omega | rfl | (dsimp only; omega)) (Sub.int rfl (by first | omega | rfl | (dsimp only; omega)) (Sub.cons rfl Sub.nil))) ((SubK.consI rfl ImpK.refl) ((SubK.consI rfl ImpK.refl) SubK.nil)) (SupG.val (SupG.val (SupG.own rfl SupG.nil))) (SupH.cons rfl (supJL rfl) (SupH.cons rfl (supJL rfl) SupH.nil)) (lkOk rfl)
  ·
   refine x8 ?_
   refine R1 x3 rfl (R1 x5 rfl (x7 (by kernel_rfl) (xc1 ?_)))
   exact xc2 ((p, ((p + q) / 2))) ⟨(by dsimp only; exact ⟨by omega, by omega, h1, fun i hi hi2 => by have := loT_mono hv hi hi2; omega⟩), (by dsimp only; omega)⟩ (Sub.int rfl (by first | omega | rfl | (dsimp only; omega)) (Sub.int rfl (by first | omega | rfl | (dsimp only; omega)) (Sub.cons rfl Sub.nil))) ((SubK.consI rfl ImpK.refl) ((SubK.consI rfl ImpK.refl) SubK.nil)) (SupG.val (SupG.val (SupG.own rfl SupG.nil))) (SupH.cons rfl (supJL rfl) (SupH.cons rfl (supJL rfl) SupH.nil)) (lkOk rfl)
 ·
  refine xd4 (xb8 (xb8 (xe0 (x4 (x6 ?_)))))
  refine x8 ?_
  refine R1 x3 rfl (R1 x5 rfl (x7 (by kernel_rfl) (x4 (xa1 ?_))))
  exact xg2 LentC.mk' rfl rfl (Imp.int (congrArg Int.ofNat (fst_is (n := l.length) (f := fun i => decide (d ≤ (l.getD i tst0).lo)) (by omega) (fun i hi => decide_eq_false (by have := h1 i hi; omega)) (fun hp2 => decide_eq_true (h2 p (by omega) hp2))).symm)) ⟨rfl, rfl, trivial⟩ rfl ⟨⟨rfl, (SupX.lit rfl)⟩, ⟨rfl, (SupX.lit rfl)⟩, trivial⟩ rfl
theorem c_average (D B : Int) (l : List Tst) (a b : Int) (hn : nOk D B) (h : isG 3 D B l) (hl : l.length ≤ 200000) (ha : 0 ≤ a) (hab : a < b) (hb : b ≤ 65536) :
  Ct Tryz.prog 37 [tL 8 true tTs l, tI a, tI b] (tT [tFr (fr (avQ D l a b)), tI 0]) := by
 have hfe := fst_end h.asc hab
 refine Ct.intro Tryz.func37 rfl Tryz.ntmps37 rfl ?_
 intro w F
 refine x6 ?_
 refine x8 ?_
 refine RE (xc9 (k := 3) ti24 rfl) ⟨rfl, trivial⟩ trivial ⟨rfl, trivial⟩ (RE (xc9 (k := 4) ti3 rfl) ⟨rfl, trivial⟩ trivial ⟨rfl, trivial⟩ (RE (xc9 (k := 5) ti3 rfl) ⟨rfl, trivial⟩ trivial ⟨rfl, trivial⟩ (RE (xb4 (k := 6) (n := 4) (agg := true) zr31.1 zr31.2 rfl) trivial trivial ⟨rfl, trivial⟩ (R1 x5 rfl (x7 (by kernel_rfl) (x4 (x6 ?_)))))))
 refine x8 ?_
 refine RE (xa8 (0) ti24 rfl rfl) ⟨rfl, trivial⟩ ⟨rfl, trivial⟩ trivial (R1 (xc4 Tryz.underlying24) rfl (R2 (xi0 (ps := [.ptr 3 0, .ptr 4 0]) rfl) rfl rfl (RE (xg8 (fun j => cond (Nat.beq j 3) 3 (4)) (c_SearchA l a h.asc (by omega)) fi58 rfl (krC (ρ := fun j => cond (Nat.beq j 3) 3 (4)) (k := 3) rfl (krC (ρ := fun j => cond (Nat.beq j 3) 3 (4)) (k := 4) rfl (krN (ρ := fun j => cond (Nat.beq j 3) 3 (4))))) (krC (ρ := fun j => cond (Nat.beq j 3) 3 (4)) (k := 3) rfl (krC (ρ := fun j => cond (Nat.beq j 3) 3 (4)) (k := 4) rfl (krN (ρ := fun j => cond (Nat.beq j 3) 3 (4))))) ⟨⟨rfl, (SupX.lit rfl)⟩, ⟨rfl, (SupX.lit rfl)⟩, trivial⟩ rfl) ⟨rfl, rfl, trivial⟩ ⟨rfl, rfl, trivial⟩ trivial (R1 x5 rfl (x7 (by kernel_rfl) (x4 (x6 ?_)))))))
 refine x8 ?_
 refine RE (xa8 (0) ti24 rfl rfl) ⟨rfl, trivial⟩ ⟨rfl, trivial⟩ trivial (R1 (xc4 Tryz.underlying24) rfl (R2 (xi0 (ps := [.ptr 3 0, .ptr 5 0]) rfl) rfl rfl (RE (xg8 (fun j => cond (Nat.beq j 3) 3 (5)) (c_SearchB l b h.asc (by omega)) fi58 rfl (krC (ρ := fun j => cond (Nat.beq j 3) 3 (5)) (k := 3) rfl (krC (ρ := fun j => cond (Nat.beq j 3) 3 (5)) (k := 5) rfl (krN (ρ := fun j => cond (Nat.beq j 3) 3 (5))))) (krC (ρ := fun j => cond (Nat.beq j 3) 3 (5)) (k := 3) rfl (krC (ρ := fun j => cond (Nat.beq j 3) 3 (5)) (k := 5) rfl (krN (ρ := fun j => cond (Nat.beq j 3) 3 (5))))) ⟨⟨rfl, (SupX.lit rfl)⟩, ⟨rfl, (SupX.lit rfl)⟩, trivial⟩ rfl) ⟨rfl, rfl, trivial⟩ ⟨rfl, rfl, trivial⟩ trivial (R1 x5 rfl (x7 (by kernel_rfl) (x4 (x6 ?_)))))))
 refine xd5 mixed ?_
 refine RE (xa8 (0) ti24 rfl rfl) ⟨rfl, trivial⟩ ⟨rfl, trivial⟩ trivial (R1 x3 rfl (R1 x3 rfl (R3 (d_sliceFT sl24 (fstA l a) (endA l b) rfl rfl hfe.1 hfe.2 rfl) rfl rfl rfl (RE (xa8 (0) ti3 rfl rfl) ⟨rfl, trivial⟩ ⟨rfl, trivial⟩ trivial (RE (xa8 (0) ti3 rfl rfl) ⟨rfl, trivial⟩ ⟨rfl, trivial⟩ trivial (R3 (xa0 (c_SumA a b hn h hl ha hab hb) fi63 rfl) rfl rfl rfl (R1 x3 rfl ?_)))))))
 refine R1 (xa2 rfl) rfl (R1 (xa2 rfl) rfl (RE (xb4 (k := 10) (n := 4) (agg := true) zr31.1 zr31.2 rfl) trivial trivial ⟨rfl, trivial⟩ (RE (xa3 (es := 4) (agg := true) (0) ti31 rfl rfl rfl) ⟨rfl, rfl, trivial⟩ ⟨rfl, trivial⟩ trivial (R1 x5 rfl (xd6 (by kernel_rfl) (x4 (x6 ?_)))))))
 refine x6 ?_
 refine x8 ?_
 refine R1 x3 rfl (R2 xf9 rfl rfl (x7 (by kernel_rfl) (x4 (C_bF rfl (decide_eq_false (by omega)) (xa5 (x4 (x6 ?_)))))))
 refine xd5 mixed ?_
 refine RE (xa8 (0) ti31 rfl rfl) ⟨rfl, trivial⟩ ⟨rfl, trivial⟩ trivial (RE (xa8 (0) ti3 rfl rfl) ⟨rfl, trivial⟩ ⟨rfl, trivial⟩ trivial (RE (xa8 (0) ti3 rfl rfl) ⟨rfl, trivial⟩ ⟨rfl, trivial⟩ trivial (R2 (xd9 (wr64 (by omega) (by omega))) rfl rfl (R1 (xa0 (c_FFromInt (b - a) (by omega) (by omega)) fi65 rfl) rfl (R2 (xa0 (c_DivA a b hn h ha hab hb) fi64 rfl) rfl rfl (R1 (xa2 rfl) rfl (R1 (xa2 rfl) rfl ?_)))))))
 refine RE (xa3 (es := 4) (agg := true) (0) ti31 rfl rfl rfl) ⟨rfl, rfl, trivial⟩ ⟨rfl, trivial⟩ trivial (R1 x5 rfl (xd6 (by kernel_rfl) (x4 (xa1 ?_))))
 exact xf1 Plain.mk' (rs := [.cell 6 31, .tmp 7]) rfl rfl ⟨⟨_, _, _, _, _, rfl, rfl, ti31, Le.refl⟩, ⟨_, rfl, Le.refl⟩, trivial⟩
theorem c_Average (D B : Int) (l : List Tst) (a b : Int) (hn : nOk D B) (hD : ∀ s ∈ l, s.v.f.dig) (hG : askB l a b = true → isG 3 D B l) (hl : l.length ≤ 200000) :
  Ct Tryz.prog 12 [tL 8 true tTs l, tI a, tI b] (tT [tFr (avR D l a b).1, tI (avR D l a b).2]) := by
 refine Ct.intro Tryz.func12 rfl Tryz.ntmps12 rfl ?_
 intro w F
 refine x6 ?_
 refine x8 ?_
 refine RE (xb4 (k := 6) (n := 4) (agg := true) zr31.1 zr31.2 rfl) trivial trivial ⟨rfl, trivial⟩ (R1 x5 rfl (x7 (by kernel_rfl) (x4 (x6 (x6 ?_)))))
 refine x8 ?_
 refine R1 x3 rfl (R1 x3 rfl (R1 x3 rfl (R3 (xa0 (c_isAsked l a b hD) fi34 rfl) rfl rfl rfl (R1 xe4 rfl (x7 (by kernel_rfl) (x4 ?_))))))
 refine xf8 rfl (fun h48 => ?_) (fun h48 => ?_)
 ·
  have hk : askB l a b = false := by simpa using h48
  refine x6 ?_
  refine x8 ?_
  refine R0 (xc8 (r := tS [⟨2, true, (tS [⟨1, false, (tE (.bool false))⟩, ⟨1, false, (tLm [])⟩])⟩, ⟨2, true, (tS [⟨1, false, (tE (.bool false))⟩, ⟨1, false, (tLm [])⟩])⟩]) (ts := []) bu31 zr31.2 ⟨_, rfl⟩ rfl Le.refl)  (RE (xa3 (es := 4) (agg := true) (0) ti31 rfl rfl rfl) ⟨rfl, rfl, trivial⟩ ⟨rfl, trivial⟩ trivial (R1 x5 rfl (x7 (by kernel_rfl) (x4 (xa1 (xa7 ?_))))))
  exact xf1 Plain.mk' (rs := [.cell 6 31, .tmp 7]) rfl rfl ⟨⟨_, _, _, _, _, rfl, rfl, ti31, (Le.of (by rw [avR, if_neg (by rw [hk]; simp)]; rfl))⟩, ⟨_, rfl, (Le.int (by rw [avR, if_neg (by rw [hk]; simp)]))⟩, trivial⟩
 ·
  have hk : askB l a b = true := by simpa using h48
  have h := hG hk
  have hk2 := (askB_iff.1 hk).2
  refine xa5 (x4 (x6 (x6 ?_)))
  refine x8 ?_
  refine R1 x3 rfl (R1 x3 rfl (R2 xf5 rfl rfl (R1 x3 rfl ?_)))
  refine RGcaseD (t := 17) rfl (fun h51 => ?_) (fun h51 => ?_)
  ·
   refine RGoff (decide_eq_true h51) rfl rfl (RGoff (decide_eq_true h51) rfl rfl (RGoff (decide_eq_true h51) rfl rfl (RGoff (decide_eq_true h51) rfl rfl (RGoff (decide_eq_true h51) rfl rfl (RGoff (decide_eq_true h51) rfl rfl (R2 (xb2 (decide_eq_true h51)) rfl rfl (x7 (by kernel_rfl) ?_)))))))
   refine x4 (C_bT rfl rfl (x6 ?_))
   refine x8 ?_
   refine R0 (xc8 (r := tS [⟨2, true, (tS [⟨1, false, (tE (.bool false))⟩, ⟨1, false, (tLm [])⟩])⟩, ⟨2, true, (tS [⟨1, false, (tE (.bool false))⟩, ⟨1, false, (tLm [])⟩])⟩]) (ts := []) bu31 zr31.2 ⟨_, rfl⟩ rfl Le.refl)  (RE (xa3 (es := 4) (agg := true) (0) ti31 rfl rfl rfl) ⟨rfl, rfl, trivial⟩ ⟨rfl, trivial⟩ trivial (R1 x5 rfl (x7 (by kernel_rfl) (x4 (xa1 (xa7 ?_))))))
   exact xf1 Plain.mk' (rs := [.cell 6 31, .tmp 7]) rfl rfl ⟨⟨_, _, _, _, _, rfl, rfl, ti31, (Le.of (by rw [avR, if_pos hk, if_neg (by omega)]; rfl))⟩, ⟨_, rfl, (Le.int (by rw [avR, if_pos hk, if_neg (by omega)]))⟩, trivial⟩
  ·
   refine RGon (decide_eq_false h51) rfl x3 rfl ⟨rfl, trivial⟩ trivial trivial (RGon (decide_eq_false h51) rfl (xa0 (c_CoversG h hl) fi36 rfl) rfl ⟨rfl, trivial⟩ trivial trivial (RGon (decide_eq_false h51) rfl x3 rfl ⟨rfl, trivial⟩ trivial trivial (RGon (decide_eq_false h51) rfl x3 rfl ⟨rfl, trivial⟩ trivial trivial (RGon (decide_eq_false h51) rfl (xa0 (c_isCov (cvT l) a b (cvT_set h.1).1 (by have := cvT_len (l := l); omega)) fi35 rfl) rfl ⟨rfl, rfl, rfl, trivial⟩ trivial trivial (RGon (decide_eq_false h51) rfl xe4 rfl ⟨rfl, trivial⟩ trivial trivial (R2 (xb0 (decide_eq_false h51)) rfl rfl (x7 (by kernel_rfl) ?_)))))))
   refine x4 ?_
   refine xf8 rfl (fun h51_2 => ?_) (fun h51_2 => ?_)
   ·
    have hc : nD l a b ≠ b - a := by
     have h1 : cvB (cvT l) a b = false := by simpa using h51_2
     rw [cvB_nD h.1 (by omega)] at h1; exact of_decide_eq_false h1
    refine x6 ?_
    refine x8 ?_
    refine R0 (xc8 (r := tS [⟨2, true, (tS [⟨1, false, (tE (.bool false))⟩, ⟨1, false, (tLm [])⟩])⟩, ⟨2, true, (tS [⟨1, false, (tE (.bool false))⟩, ⟨1, false, (tLm [])⟩])⟩]) (ts := []) bu31 zr31.2 ⟨_, rfl⟩ rfl Le.refl)  (RE (xa3 (es := 4) (agg := true) (0) ti31 rfl rfl rfl) ⟨rfl, rfl, trivial⟩ ⟨rfl, trivial⟩ trivial (R1 x5 rfl (x7 (by kernel_rfl) (x4 (xa1 (xa7 ?_))))))
    exact xf1 Plain.mk' (rs := [.cell 6 31, .tmp 7]) rfl rfl ⟨⟨_, _, _, _, _, rfl, rfl, ti31, (Le.of (by rw [avR, if_pos hk, if_neg (fun h => hc h.2)]; rfl))⟩, ⟨_, rfl, (Le.int (by rw [avR, if_pos hk, if_neg (fun h => hc h.2)]))⟩, trivial⟩
   ·
    have hc : nD l a b = b - a := by
     have h1 : cvB (cvT l) a b = true := by simpa using h51_2
     rw [cvB_nD h.1 (by omega)] at h1; exact of_decide_eq_true h1
    refine xa5 (x4 (x6 ?_))
    refine x8 ?_
    refine R1 x3 rfl (R1 x3 rfl (R1 x3 rfl (R3 (xa0 (c_average D B l a b hn h hl (by omega) (by omega) (by omega)) fi37 rfl) rfl rfl rfl (R1 (xa2 rfl) rfl (R1 (xa2 rfl) rfl (RE (xa3 (es := 4) (agg := true) (0) ti31 rfl rfl rfl) ⟨rfl, rfl, trivial⟩ ⟨rfl, trivial⟩ trivial (R1 x5 rfl ?_)))))))
    refine x7 (by kernel_rfl) (x4 (xa1 ?_))
    exact xf1 Plain.mk' (rs := [.cell 6 31, .tmp 7]) rfl rfl ⟨⟨_, _, _, _, _, rfl, rfl, ti31, (Le.of (by rw [avR, if_pos hk, if_pos ⟨by omega, hc⟩]))⟩, ⟨_, rfl, (Le.int (by rw [avR, if_pos hk, if_pos ⟨by omega, hc⟩]))⟩, trivial⟩
end An.S

/- Layer 9: windows. -/
namespace An.S
open Go Go.Proofs An
set_option maxHeartbeats 2000000
theorem fi27 : FnI Tryz.prog 27 := ⟨_, Tryz.func27, by kernel_rfl, rfl⟩
theorem zr85 : (Tryz.prog.info? 85).bind (·.zero) = some (.agg #[.int .i64 0, .int .i64 0, .int .i64 0]) ∧ ∀ F w, (tS [⟨1, false, (tE (.int .i64 0))⟩, ⟨1, false, (tE (.int .i64 0))⟩, ⟨1, false, (tE (.int .i64 0))⟩]).p F w (.agg #[.int .i64 0, .int .i64 0, .int .i64 0]) := ⟨by kernel_rfl, fun _ _ => ⟨_, rfl, rfl, ⟨fun _ => rfl, rfl⟩, ⟨fun _ => rfl, rfl⟩, ⟨fun _ => rfl, rfl⟩, trivial⟩⟩
theorem bu85 : BuI Tryz.prog 85 (fun i => [(0, 1), (1, 1), (2, 1)][i]?) (.agg #[.int .i64 0, .int .i64 0, .int .i64 0]) := BuI.struct Tryz.underlying85 (by kernel_rfl) (by kernel_rfl)
/-- What First returns. -/
def fstD (m : Int) : Int := if 0 ≤ m ∧ m < 2154 then startI m.toNat else 0
def fstE (m : Int) : Int := if 0 ≤ m ∧ m < 2154 then 0 else 2
theorem c_FirstZ (m : Int) : Ct Tryz.prog 27 [tG KL (tI m)] (tT [tI (fstD m), tI (fstE m)]) := c_First m
theorem fstE_iff {m : Int} (h : 0 ≤ m) : fstE m = 0 ↔ m < 2154 := by
  unfold fstE; split <;> omega
theorem fstD_is {k : Nat} (h : k < 2154) : fstD (k : Int) = startI k := by rw [fstD, if_pos ⟨by omega, by omega⟩, Int.toNat_natCast]
theorem fstD_add {k n : Nat} (h : k + n < 2154) : fstD ((k : Int) + (n : Int)) = startI (k + n) := by rw [← Int.natCast_add]; exact fstD_is h
/-- A window. -/
abbrev tWin (m a b : Int) : Ty := tS [⟨1, false, tI m⟩, ⟨1, false, tI a⟩, ⟨1, false, tI b⟩]
abbrev tWn (n k : Nat) : Ty := tWin k (startI k) (startI (k + n))
def psY (l : List Tst) (p q : Int) (n j : Nat) : List Ty := [tWn n ((winT l p q n).getD j 0)]
theorem ps_le {l : List Tst} {p q : Int} {n k j : Nat} {a b : Int} (h : (winT l p q n).getD j 0 = k) (ha : a = startI k) (hb : b = startI (k + n)) : LeL [tWin (k : Int) a b] (psY l p q n j) := by
  subst ha hb; rw [psY, h]; exact ⟨Le.refl, trivial⟩
theorem okW_of {D B : Int} {l : List Tst} {p q : Int} {n k : Nat} (h : isG 3 D B l) (hk : k + n < 2154) (hn : 1 ≤ n) (h1 : p ≤ startI k) (h2 : startI (k + n) ≤ q) (h3 : cvB (cvT l) (startI k) (startI (k + n)) = true) : okW l p q n k = true := by
  have hlt := start_lt (show k < k + n by omega) (by omega)
  rw [cvB_nD h.1 (by omega)] at h3
  rw [okW, decide_eq_true hk, decide_eq_true h1, decide_eq_true h2, h3]; rfl
theorem okW_not {D B : Int} {l : List Tst} {p q : Int} {n k : Nat} (h : isG 3 D B l) (hn : 1 ≤ n) (h1 : k + n < 2154 → startI k < p ∨ q < startI (k + n) ∨ cvB (cvT l) (startI k) (startI (k + n)) = false) : ¬ okW l p q n k = true := fun hw => by
  simp only [okW, Bool.and_eq_true, decide_eq_true_eq] at hw
  have hlt := start_lt (show k < k + n by omega) (by omega)
  rcases h1 hw.1.1.1 with h2 | h2 | h2
  · omega
  · omega
  · rw [cvB_nD h.1 (by omega), decide_eq_true hw.2] at h2; cases h2
theorem winP_no {l : List Tst} {p q : Int} {n k : Nat} (h : ¬ okW l p q n k = true) : winP l p q n (k + 1) = winP l p q n k := by rw [winP_next, if_neg h, List.append_nil]
theorem winP_yes {l : List Tst} {p q : Int} {n k : Nat} (h : okW l p q n k = true) : (winP l p q n (k + 1)).length = (winP l p q n k).length + 1 := by rw [winP_next, if_pos h]; simp
theorem c_possible (a : List Tst) (p q : Int) (n : Nat) :
  CtG Tryz.prog 49 [] [.val (tG KL (tL 8 true tTs a)), .val (tI p), .val (tI q), .val (tI (n : Int))] (.own (.fn 80 [.ptr 4 0, .ptr 7 0, .ptr 5 0, .ptr 6 0])) [(4, ⟨24, 1, false, [.val (tG KL (tL 8 true tTs a))]⟩), (7, ⟨3, 1, false, [.val (tI (n : Int))]⟩), (5, ⟨3, 1, false, [.val (tI p)]⟩), (6, ⟨3, 1, false, [.val (tI q)]⟩)] [4, 5, 6, 7] := by
 refine CtG.intro [] Tryz.func49 rfl Tryz.ntmps49 rfl rfl trivial ?_
 intro w F η
 refine x6 ?_
 refine x8 ?_
 refine RE (xc9 (k := 4) ti24 rfl) ⟨rfl, trivial⟩ trivial ⟨rfl, trivial⟩ (RE (xc9 (k := 5) ti3 rfl) ⟨rfl, trivial⟩ trivial ⟨rfl, trivial⟩ (RE (xc9 (k := 6) ti3 rfl) ⟨rfl, trivial⟩ trivial ⟨rfl, trivial⟩ (RE (xc9 (k := 7) ti3 rfl) ⟨rfl, trivial⟩ trivial ⟨rfl, trivial⟩ (R1 x5 rfl (x7 (by kernel_rfl) (x4 (x6 ?_)))))))
 refine x8 ?_
 refine RE (xi0 (ps := [.ptr 4 0, .ptr 7 0, .ptr 5 0, .ptr 6 0]) rfl) ⟨rfl, rfl, rfl, rfl, trivial⟩ trivial trivial (R1 x5 rfl (x7 (by kernel_rfl) (x4 (xa1 ?_))))
 exact xg2 LentC.mk' rfl rfl Imp.refl ⟨rfl, rfl, rfl, rfl, trivial⟩ rfl ⟨⟨rfl, (SupX.lit rfl)⟩, ⟨rfl, (SupX.lit rfl)⟩, ⟨rfl, (SupX.lit rfl)⟩, ⟨rfl, (SupX.lit rfl)⟩, trivial⟩ rfl
theorem i_possible (D B : Int) (a : List Tst) (p q : Int) (n : Nat) (h : isG 3 D B a) (hl : a.length ≤ 200000) (hn1 : 1 ≤ n) (hn2 : n ≤ 1200) :
  ItC Tryz.prog 80 [(4, ⟨24, 1, false, [.val (tG KL (tL 8 true tTs a))]⟩), (7, ⟨3, 1, false, [.val (tI (n : Int))]⟩), (5, ⟨3, 1, false, [.val (tI p)]⟩), (6, ⟨3, 1, false, [.val (tI q)]⟩)] [.ptr 4 0, .ptr 7 0, .ptr 5 0, .ptr 6 0] ((winT a p q n).length) (psY a p q n) := by
 refine ItC.intro (K := 99) [4, 7, 5, 6] Tryz.func80 rfl Tryz.ntmps80 rfl rfl ⟨⟨rfl, (SupX.lit rfl)⟩, ⟨rfl, (SupX.lit rfl)⟩, ⟨rfl, (SupX.lit rfl)⟩, ⟨rfl, (SupX.lit rfl)⟩, trivial⟩ rfl ?_
 intro w F η l V J Jc hB
 refine x6 ?_
 refine x8 ?_
 refine RE (d_loadG ti24) ⟨rfl, trivial⟩ ⟨rfl, trivial⟩ trivial (R1 (xa0 (c_CoversG h hl) fi36 rfl) rfl (R1 x5 rfl (x7 (by kernel_rfl) (x4 (x6 ?_)))))
 refine x8 ?_
 refine R1 x5 rfl (x7 (by kernel_rfl) (x4 (xb3 ?_)))
 refine xe1 (fun (fm : (Nat) × (Nat)) => (fun (m : Nat) (j : Nat) => m ≤ 2154 ∧ j = (winP a p q n m).length) fm.1 fm.2) (fun (fm : (Nat) × (Nat)) => (fun (m : Nat) (j : Nat) => upd (upd (upd (upd (upd (upd (upd (fun _ => none) 0 (some (.val (tE (.func (.yield l) #[] #[]))))) 1 (some (.own (.ptr 4 0)))) 2 (some (.own (.ptr 7 0)))) 3 (some (.own (.ptr 5 0)))) 4 (some (.own (.ptr 6 0)))) 6 (some (.val (tL 2 true tSn (cvT a))))) 7 (some (.val (tI m)))) fm.1 fm.2) (fun (fm : (Nat) × (Nat)) => (fun (m : Nat) (j : Nat) => upd (upd (upd (upd (upd (fun _ => none) 4 (some (⟨24, 1, false, [.val (tG KL (tL 8 true tTs a))]⟩))) 7 (some (⟨3, 1, false, [.val (tI (n : Int))]⟩))) 5 (some (⟨3, 1, false, [.val (tI p)]⟩))) 6 (some (⟨3, 1, false, [.val (tI q)]⟩))) 99 (some (⟨2 * j, 1, false, []⟩))) fm.1 fm.2) (nm [4, 7, 5, 6, 99]) (fun (fm : (Nat) × (Nat)) => (fun (m : Nat) (j : Nat) => 2154 - m) fm.1 fm.2) ((0, 0)) (by dsimp only; exact ⟨Nat.zero_le _, rfl⟩) (Sub.int rfl (by first | omega | rfl | (dsimp only; omega)) (Sub.cons rfl (Sub.cons rfl (Sub.cons rfl (Sub.cons rfl (Sub.cons rfl (Sub.cons rfl Sub.nil))))))) ((SubK.consI rfl ImpK.refl) ((SubK.consI rfl ImpK.refl) ((SubK.consI rfl ImpK.refl) ((SubK.consI rfl ImpK.refl) ((SubK.consI rfl ImpK.refl) SubK.nil))))) (SupG.val (SupG.val (SupG.own rfl (SupG.own rfl (SupG.own rfl (SupG.own rfl (SupG.val SupG.nil))))))) (SupH.cons rfl (supJL rfl) (SupH.cons rfl (supJL rfl) (SupH.cons rfl (supJL rfl) (SupH.cons rfl (supJL rfl) (SupH.cons rfl (supJL rfl) SupH.nil))))) (lkOk rfl) ?_
 intro fm hI
 obtain ⟨m, j⟩ := fm
 replace hI : m ≤ 2154 ∧ j = (winP a p q n m).length := hI
 show wc _ _ _ _ (upd (upd (upd (upd (upd (upd (upd (fun _ => none) 0 (some (.val (tE (.func (.yield l) #[] #[]))))) 1 (some (.own (.ptr 4 0)))) 2 (some (.own (.ptr 7 0)))) 3 (some (.own (.ptr 5 0)))) 4 (some (.own (.ptr 6 0)))) 6 (some (.val (tL 2 true tSn (cvT a))))) 7 (some (.val (tI m)))) (upd (upd (upd (upd (upd (fun _ => none) 4 (some (⟨24, 1, false, [.val (tG KL (tL 8 true tTs a))]⟩))) 7 (some (⟨3, 1, false, [.val (tI (n : Int))]⟩))) 5 (some (⟨3, 1, false, [.val (tI p)]⟩))) 6 (some (⟨3, 1, false, [.val (tI q)]⟩))) 99 (some (⟨2 * j, 1, false, []⟩))) _
 obtain ⟨hm0, hj⟩ := hI
 refine x6 (xb3 (x6 ?_))
 refine x8 ?_
 refine R1 x3 rfl (RE (d_callTK 4 24 1 false car_G full_one (c_FirstZ (m : Int)) fi27 rfl) ⟨rfl, trivial⟩ ⟨rfl, trivial⟩ trivial (R1 x3 rfl (R1 (xa2 rfl) rfl (R1 (xa2 rfl) rfl (R1 x5 rfl (R1 x5 rfl (x7 (by kernel_rfl) ?_)))))))
 refine x4 (x6 ?_)
 refine x8 ?_
 refine R1 x3 rfl (RE (xa8 (0) ti3 rfl rfl) ⟨rfl, trivial⟩ ⟨rfl, trivial⟩ trivial (R2 (xb6 (wr64 (by omega) (by omega))) rfl rfl (RE (d_callTK 4 24 1 false car_G full_one (c_FirstZ ((m : Int) + (n : Int))) fi27 rfl) ⟨rfl, trivial⟩ ⟨rfl, trivial⟩ trivial (R1 x3 rfl (R1 (xa2 rfl) rfl (R1 (xa2 rfl) rfl (R1 x5 rfl ?_)))))))
 refine R1 x5 rfl (x7 (by kernel_rfl) (x4 (x6 (x6 ?_))))
 have f1 := fstE_iff (m := (m : Int)) (by omega)
 have f2 := fstE_iff (m := (m : Int) + (n : Int)) (by omega)
 refine x8 ?_
 refine R1 x3 rfl (R2 xf9 rfl rfl (R1 x3 rfl ?_))
 refine RGcaseD (t := 30) rfl (fun h70 => ?_) (fun h70 => ?_)
 ·
  refine RGoff (decide_eq_true h70) rfl rfl (RGoff (decide_eq_true h70) rfl rfl (R2 (xb2 (decide_eq_true h70)) rfl rfl (x7 (by kernel_rfl) (x4 (C_bT rfl rfl (xa1 (xa7 ?_)))))))
  refine xc6 (xa7 (xa7 (xc6 ?_)))
  exact E_it hB rfl trivial rfl (.inl rfl) rfl (.inl (by rw [hj, win_end hm0 (by omega)]))
 ·
  refine RGon (decide_eq_false h70) rfl x3 rfl ⟨rfl, trivial⟩ trivial trivial (RGon (decide_eq_false h70) rfl xf9 rfl ⟨rfl, rfl, trivial⟩ trivial trivial (R2 (xb0 (decide_eq_false h70)) rfl rfl (x7 (by kernel_rfl) (x4 ?_))))
  refine xc0 rfl (fun h70_2 => ?_) (fun h70_2 => ?_)
  ·
   refine xa1 (xa7 (xc6 (xa7 (xa7 (xc6 ?_)))))
   exact E_it hB rfl trivial rfl (.inl rfl) rfl (.inl (by rw [hj, win_end hm0 (by omega)]))
  ·
   refine xa5 (x4 (x6 (x6 ?_)))
   have hm : m < 2154 := by omega
   have hmn : m + n < 2154 := by omega
   have e1 := fstD_is hm
   have e2 := fstD_add hmn
   refine x8 ?_
   refine R1 x3 rfl (RE (xa8 (0) ti3 rfl rfl) ⟨rfl, trivial⟩ ⟨rfl, trivial⟩ trivial (R2 xd8 rfl rfl (R1 x3 rfl ?_)))
   refine RGcaseD (t := 37) rfl (fun h73 => ?_) (fun h73 => ?_)
   ·
    refine RGoff (decide_eq_true h73) rfl rfl (RGoff (decide_eq_true h73) rfl rfl (RGoff (decide_eq_true h73) rfl rfl (R2 (xb2 (decide_eq_true h73)) rfl rfl (R1 x3 rfl (RGoff1 rfl rfl (RGoff1 rfl rfl (RGoff1 rfl rfl ?_)))))))
    refine RGoff1 rfl rfl (RGoff1 rfl rfl (R2 (xb2 rfl) rfl rfl (x7 (by kernel_rfl) (x4 (C_bT rfl rfl (xd4 (xb8 ?_)))))))
    refine xe0 (x4 ?_)
    refine x8 ?_
    refine R1 x3 rfl (R2 (xb6 (wr64 (by omega) (by omega))) rfl rfl (R1 x5 rfl (x7 (by kernel_rfl) ?_)))
    exact xc2 ((m + 1, j)) ⟨(by dsimp only; exact ⟨by omega, by rw [winP_no (okW_not h hn1 (fun _ => .inl (by omega)))]; exact hj⟩), (by dsimp only; omega)⟩ (Sub.int rfl (by first | omega | rfl | (dsimp only; omega)) (Sub.cons rfl (Sub.cons rfl (Sub.cons rfl (Sub.cons rfl (Sub.cons rfl (Sub.cons rfl Sub.nil))))))) ((SubK.consI rfl ImpK.refl) ((SubK.consI rfl ImpK.refl) ((SubK.consI rfl ImpK.refl) ((SubK.consI rfl ImpK.refl) ((SubK.consI rfl ImpK.refl) SubK.nil))))) (SupG.val (SupG.val (SupG.own rfl (SupG.own rfl (SupG.own rfl (SupG.own rfl (SupG.val SupG.nil))))))) (SupH.cons rfl (supJL rfl) (SupH.cons rfl (supJL rfl) (SupH.cons rfl (supJL rfl) (SupH.cons rfl (supJL rfl) (SupH.cons rfl (supJL rfl) SupH.nil))))) (lkOk rfl)
   ·
    refine RGon (decide_eq_false h73) rfl x3 rfl ⟨rfl, trivial⟩ trivial trivial (RGon (decide_eq_false h73) rfl (xa8 (0) ti3 rfl rfl) rfl ⟨rfl, trivial⟩ ⟨rfl, trivial⟩ trivial (RGon (decide_eq_false h73) rfl d_gtr rfl ⟨rfl, rfl, trivial⟩ trivial trivial (R2 (xb0 (decide_eq_false h73)) rfl rfl (R1 x3 rfl ?_))))
    refine RGcaseD (t := 42) rfl (fun h73_2 => ?_) (fun h73_2 => ?_)
    ·
     refine RGoff (decide_eq_true h73_2) rfl rfl (RGoff (decide_eq_true h73_2) rfl rfl (RGoff (decide_eq_true h73_2) rfl rfl (RGoff (decide_eq_true h73_2) rfl rfl (RGoff (decide_eq_true h73_2) rfl rfl (R2 (xb2 (decide_eq_true h73_2)) rfl rfl (x7 (by kernel_rfl) (x4 ?_)))))))
     refine C_bT rfl rfl (xd4 (xb8 (xe0 (x4 ?_))))
     refine x8 ?_
     refine R1 x3 rfl (R2 (xb6 (wr64 (by omega) (by omega))) rfl rfl (R1 x5 rfl (x7 (by kernel_rfl) ?_)))
     exact xc2 ((m + 1, j)) ⟨(by dsimp only; exact ⟨by omega, by rw [winP_no (okW_not h hn1 (fun _ => .inr (.inl (by omega))))]; exact hj⟩), (by dsimp only; omega)⟩ (Sub.int rfl (by first | omega | rfl | (dsimp only; omega)) (Sub.cons rfl (Sub.cons rfl (Sub.cons rfl (Sub.cons rfl (Sub.cons rfl (Sub.cons rfl Sub.nil))))))) ((SubK.consI rfl ImpK.refl) ((SubK.consI rfl ImpK.refl) ((SubK.consI rfl ImpK.refl) ((SubK.consI rfl ImpK.refl) ((SubK.consI rfl ImpK.refl) SubK.nil))))) (SupG.val (SupG.val (SupG.own rfl (SupG.own rfl (SupG.own rfl (SupG.own rfl (SupG.val SupG.nil))))))) (SupH.cons rfl (supJL rfl) (SupH.cons rfl (supJL rfl) (SupH.cons rfl (supJL rfl) (SupH.cons rfl (supJL rfl) (SupH.cons rfl (supJL rfl) SupH.nil))))) (lkOk rfl)
    ·
     refine RGon (decide_eq_false h73_2) rfl x3 rfl ⟨rfl, trivial⟩ trivial trivial (RGon (decide_eq_false h73_2) rfl x3 rfl ⟨rfl, trivial⟩ trivial trivial (RGon (decide_eq_false h73_2) rfl x3 rfl ⟨rfl, trivial⟩ trivial trivial (RGon (decide_eq_false h73_2) rfl (xa0 (c_isCov (cvT a) (fstD (m : Int)) (fstD ((m : Int) + (n : Int))) (cvT_set h.1).1 (by have := cvT_len (l := a); omega)) fi35 rfl) rfl ⟨rfl, rfl, rfl, trivial⟩ trivial trivial (RGon (decide_eq_false h73_2) rfl xe4 rfl ⟨rfl, trivial⟩ trivial trivial (R2 (xb0 (decide_eq_false h73_2)) rfl rfl (x7 (by kernel_rfl) (x4 ?_)))))))
     refine xf8 rfl (fun h73_3 => ?_) (fun h73_3 => ?_)
     ·
      refine xd4 (xb8 (xe0 (x4 ?_)))
      refine x8 ?_
      refine R1 x3 rfl (R2 (xb6 (wr64 (by omega) (by omega))) rfl rfl (R1 x5 rfl (x7 (by kernel_rfl) ?_)))
      exact xc2 ((m + 1, j)) ⟨(by dsimp only; exact ⟨by omega, by rw [winP_no (okW_not h hn1 (fun _ => .inr (.inr (by rw [← e1, ← e2]; simpa using h73_3))))]; exact hj⟩), (by dsimp only; omega)⟩ (Sub.int rfl (by first | omega | rfl | (dsimp only; omega)) (Sub.cons rfl (Sub.cons rfl (Sub.cons rfl (Sub.cons rfl (Sub.cons rfl (Sub.cons rfl Sub.nil))))))) ((SubK.consI rfl ImpK.refl) ((SubK.consI rfl ImpK.refl) ((SubK.consI rfl ImpK.refl) ((SubK.consI rfl ImpK.refl) ((SubK.consI rfl ImpK.refl) SubK.nil))))) (SupG.val (SupG.val (SupG.own rfl (SupG.own rfl (SupG.own rfl (SupG.own rfl (SupG.val SupG.nil))))))) (SupH.cons rfl (supJL rfl) (SupH.cons rfl (supJL rfl) (SupH.cons rfl (supJL rfl) (SupH.cons rfl (supJL rfl) (SupH.cons rfl (supJL rfl) SupH.nil))))) (lkOk rfl)
     ·
      refine xa5 (x4 (x6 ?_))
      refine C_regY ?_
      refine wl_op x3 ⟨rfl, trivial⟩ trivial trivial rfl (wl_op x3 ⟨rfl, trivial⟩ trivial trivial rfl (wl_op x3 ⟨rfl, trivial⟩ trivial trivial rfl (wl_op x3 ⟨rfl, trivial⟩ trivial trivial rfl (wl_op (xc8 (r := tS [⟨1, false, tI (m : Int)⟩, ⟨1, false, tI (fstD (m : Int))⟩, ⟨1, false, tI (fstD ((m : Int) + (n : Int)))⟩]) (ts := [(0, tI (m : Int)), (1, tI (fstD (m : Int))), (2, tI (fstD ((m : Int) + (n : Int))))]) bu85 zr85.2 ⟨_, rfl⟩ rfl ⟨_, _, _, _, rfl, Up.f (fs := [⟨1, false, (tE (.int .i64 0))⟩, ⟨1, false, (tE (.int .i64 0))⟩, ⟨1, false, (tE (.int .i64 0))⟩]) (f := ⟨1, false, (tE (.int .i64 0))⟩) (fs' := [⟨1, false, tI (m : Int)⟩, ⟨1, false, (tE (.int .i64 0))⟩, ⟨1, false, (tE (.int .i64 0))⟩]) 0 rfl rfl rfl, inferInstance, ⟨_, _, _, _, rfl, Up.f (fs := [⟨1, false, tI (m : Int)⟩, ⟨1, false, (tE (.int .i64 0))⟩, ⟨1, false, (tE (.int .i64 0))⟩]) (f := ⟨1, false, (tE (.int .i64 0))⟩) (fs' := [⟨1, false, tI (m : Int)⟩, ⟨1, false, tI (fstD (m : Int))⟩, ⟨1, false, (tE (.int .i64 0))⟩]) 1 rfl rfl rfl, inferInstance, ⟨_, _, _, _, rfl, Up.f (fs := [⟨1, false, tI (m : Int)⟩, ⟨1, false, tI (fstD (m : Int))⟩, ⟨1, false, (tE (.int .i64 0))⟩]) (f := ⟨1, false, (tE (.int .i64 0))⟩) (fs' := [⟨1, false, tI (m : Int)⟩, ⟨1, false, tI (fstD (m : Int))⟩, ⟨1, false, tI (fstD ((m : Int) + (n : Int)))⟩]) 2 rfl rfl rfl, inferInstance, Le.refl⟩⟩⟩) ⟨rfl, rfl, rfl, trivial⟩ trivial trivial rfl ?_))))
      have hok := okW_of (p := p) (q := q) h hmn hn1 (by omega) (by omega) (by rw [← e1, ← e2]; simpa using h73_3)
      have hwa := win_at (by omega) hok
      rw [← hj] at hwa
      have hwy := winP_yes hok
      refine wl_yield (ts := [tWin (m : Int) (fstD (m : Int)) (fstD ((m : Int) + (n : Int)))]) hB (wanted_none rfl) rfl rfl ⟨rfl, trivial⟩ rfl rfl hwa.1 (ps_le hwa.2 e1 e2) ?_ ?_
      ·
       refine wl_op xe4 ⟨rfl, trivial⟩ trivial trivial rfl (wl_nil (x4 (C_bF rfl rfl (xa5 (xc1 (x4 ?_))))))
       refine x8 ?_
       refine R1 x3 rfl (R2 (xb6 (wr64 (by omega) (by omega))) rfl rfl (R1 x5 rfl (x7 (by kernel_rfl) ?_)))
       exact xc2 ((m + 1, j + 1)) ⟨(by dsimp only; exact ⟨by omega, by rw [hwy, hj]⟩), (by dsimp only; omega)⟩ (Sub.int rfl (by first | omega | rfl | (dsimp only; omega)) (Sub.cons rfl (Sub.cons rfl (Sub.cons rfl (Sub.cons rfl (Sub.cons rfl (Sub.cons rfl Sub.nil))))))) ((SubK.consI rfl ImpK.refl) ((SubK.consI rfl ImpK.refl) ((SubK.consI rfl ImpK.refl) ((SubK.consI rfl ImpK.refl) ((SubK.consI rfl ImpK.refl) SubK.nil))))) (SupG.val (SupG.val (SupG.own rfl (SupG.own rfl (SupG.own rfl (SupG.own rfl (SupG.val SupG.nil))))))) (SupH.cons rfl (supJL rfl) (SupH.cons rfl (supJL rfl) (SupH.cons rfl (supJL rfl) (SupH.cons rfl (supJL rfl) (SupH.cons rfl (supJL rfl) SupH.nil))))) (lkOk rfl)
      ·
       refine wl_op xe4 ⟨rfl, trivial⟩ trivial trivial rfl (wl_nil (x4 (C_bT rfl rfl (xa1 (xc6 (xa7 (xa7 ?_)))))))
       refine xc6 ?_
       exact E_it hB rfl trivial rfl (.inl rfl) rfl (.inr ⟨j, hwa.1, rfl⟩)
end An.S

/- Layer 9: the windows, the best one. -/
namespace An.S
open Go Go.Proofs An
set_option maxHeartbeats 2000000
theorem ti54 : TyI Tryz.prog 54 1 false := ⟨by kernel_rfl, by kernel_rfl⟩
theorem ti85 : TyI Tryz.prog 85 3 true := ⟨by kernel_rfl, by kernel_rfl⟩
theorem fo85_0 : fieldO Tryz.prog 85 0 = some 0 := by kernel_rfl
theorem fi48 : FnI Tryz.prog 48 := ⟨_, Tryz.func48, by kernel_rfl, rfl⟩
theorem fi49 : FnI Tryz.prog 49 := ⟨_, Tryz.func49, by kernel_rfl, rfl⟩
theorem fi80 : FnI Tryz.prog 80 := ⟨_, Tryz.func80, by kernel_rfl, rfl⟩
theorem el3 : ElI Tryz.prog 3 1 8 false (.int .i64 0) := ⟨ti3, by kernel_rfl, by kernel_rfl⟩
theorem zf3 : Flat 1 false (.int .i64 0) := xg0 rfl
theorem znI : (Tryz.prog.info? 54).bind (·.zero) = some (.slice none 0 0) ∧ ∀ F w, (tE (.slice none 0 0)).p F w (.slice none 0 0) := ⟨by kernel_rfl, fun _ _ => rfl⟩
def iL (ks : List Nat) : List Int := ks.map fun (k : Nat) => (k : Int)
theorem iL_len {ks : List Nat} : (iL ks).length = ks.length := List.length_map ..
theorem win_len {l : List Tst} {p q : Int} {n : Nat} : (winT l p q n).length ≤ 2154 := by
  have := List.length_filter_le (okW l p q n) (List.range 2154)
  rw [List.length_range] at this; exact this
theorem take_next {ks : List Nat} {k : Nat} (h : k < ks.length) : ks.take (k + 1) = ks.take k ++ [ks.getD k 0] := by
  rw [List.take_succ_eq_append_getElem h, List.getD_eq_getElem?_getD, List.getElem?_eq_getElem h]; rfl
theorem getD_memN {ks : List Nat} {k : Nat} (h : k < ks.length) : ks.getD k 0 ∈ ks := by
  rw [List.getD_eq_getElem?_getD, List.getElem?_eq_getElem h]; exact List.getElem_mem h
/-- What Windows returns. -/
def lenOk (l : List Tst) (p q n : Int) : Prop := askB l p q = true ∧ 1 ≤ n ∧ n ≤ 1200
instance (l : List Tst) (p q n : Int) : Decidable (lenOk l p q n) := inferInstanceAs (Decidable (_ ∧ _))
def winR (l : List Tst) (p q n : Int) : List Int × Int := if lenOk l p q n then (iL (winT l p q n.toNat), 0) else ([], 2)
theorem c_Windows (D B : Int) (l : List Tst) (p q n : Int) (hD : ∀ s ∈ l, s.v.f.dig) (hG : askB l p q = true → isG 3 D B l) (hl : l.length ≤ 200000) :
  Ct Tryz.prog 24 [tG KL (tL 8 true tTs l), tI p, tI q, tI n] (tT [tL 1 false tI (winR l p q n).1, tI (winR l p q n).2]) := by
 refine Ct.intro Tryz.func24 rfl Tryz.ntmps24 rfl ?_
 intro w F
 refine x6 ?_
 refine x8 ?_
 refine R1 x5 rfl (R1 x5 rfl (x7 (by kernel_rfl) (x4 (x6 (x6 ?_)))))
 refine x8 ?_
 refine R1 (d_moveG) rfl (R1 x3 rfl (R1 x3 rfl (R3 (xa0 (c_isAsked l p q hD) fi34 rfl) rfl rfl rfl (R1 xe4 rfl (R1 x3 rfl ?_)))))
 refine RGcase (t := 17) rfl (fun h85 => ?_) (fun h85 => ?_)
 ·
  have hk : askB l p q = false := by simpa using h85
  refine RGoff h85 rfl rfl (RGoff h85 rfl rfl (RGoff h85 rfl rfl (R2 (xb2 h85) rfl rfl (x7 (by kernel_rfl) (x4 (C_bT rfl rfl (x6 ?_)))))))
  refine x8 ?_
  refine R1 x5 rfl (R1 x5 rfl (x7 (by kernel_rfl) (x4 (xa1 (xa7 ?_)))))
  exact E_ret2 Plain.mk' rfl rfl rfl (leNil (by rw [winR, if_neg (fun h => by have := h.1; rw [hk] at this; cases this)])) (Le.int (by rw [winR, if_neg (fun h => by have := h.1; rw [hk] at this; cases this)]))
 ·
  have hk : askB l p q = true := by simpa using h85
  have h := hG hk
  have hk2 := (askB_iff.1 hk).2
  refine RGon h85 rfl x3 rfl ⟨rfl, trivial⟩ trivial trivial (RGon h85 rfl (xa0 (c_isLength n) fi48 rfl) rfl ⟨rfl, trivial⟩ trivial trivial (RGon h85 rfl xe4 rfl ⟨rfl, trivial⟩ trivial trivial (R2 (xb0 h85) rfl rfl (x7 (by kernel_rfl) (x4 ?_)))))
  refine xf8 rfl (fun h85_2 => ?_) (fun h85_2 => ?_)
  ·
   have hn0 : ¬ (1 ≤ n ∧ n ≤ 1200) := by
    have h1 := h85_2
    simp at h1; omega
   refine x6 ?_
   refine x8 ?_
   refine R1 x5 rfl (R1 x5 rfl (x7 (by kernel_rfl) (x4 (xa1 (xa7 ?_)))))
   exact E_ret2 Plain.mk' rfl rfl rfl (leNil (by rw [winR, if_neg (fun h => hn0 h.2)])) (Le.int (by rw [winR, if_neg (fun h => hn0 h.2)]))
  ·
   have hn0 : 1 ≤ n ∧ n ≤ 1200 := by simpa using h85_2
   have hok : lenOk l p q n := ⟨hk, hn0⟩
   obtain ⟨k0, rfl⟩ : ∃ k0 : Nat, n = k0 := ⟨n.toNat, by omega⟩
   have hn1 : 1 ≤ k0 := by omega
   have hn2 : k0 ≤ 1200 := by omega
   refine xa5 (x4 (x6 ?_))
   refine x8 ?_
   refine RE (xb4 (k := 10) (n := 1) (agg := false) znI.1 znI.2 rfl) trivial trivial ⟨rfl, trivial⟩ (x7 (by kernel_rfl) (x4 (x6 (x6 (C_nilC (q := 10) 60 3 1 false 0 rfl rfl rfl rfl (fun _ => rfl) rfl rfl ?_)))))
   refine x8 ?_
   refine R1 x3 rfl (R1 x3 rfl (R1 x3 rfl (R1 x3 rfl (RE (xg8 (fun j => cond (Nat.beq j 6) 2026 (cond (Nat.beq j 5) 1026 (cond (Nat.beq j 4) 26 (3026)))) (c_possible l p q k0) fi49 rfl (krN (ρ := fun j => cond (Nat.beq j 6) 2026 (cond (Nat.beq j 5) 1026 (cond (Nat.beq j 4) 26 (3026))))) (krC (ρ := fun j => cond (Nat.beq j 6) 2026 (cond (Nat.beq j 5) 1026 (cond (Nat.beq j 4) 26 (3026)))) (k := 4) rfl (krC (ρ := fun j => cond (Nat.beq j 6) 2026 (cond (Nat.beq j 5) 1026 (cond (Nat.beq j 4) 26 (3026)))) (k := 7) rfl (krC (ρ := fun j => cond (Nat.beq j 6) 2026 (cond (Nat.beq j 5) 1026 (cond (Nat.beq j 4) 26 (3026)))) (k := 5) rfl (krC (ρ := fun j => cond (Nat.beq j 6) 2026 (cond (Nat.beq j 5) 1026 (cond (Nat.beq j 4) 26 (3026)))) (k := 6) rfl (krN (ρ := fun j => cond (Nat.beq j 6) 2026 (cond (Nat.beq j 5) 1026 (cond (Nat.beq j 4) 26 (3026))))))))) ⟨⟨rfl, (SupX.lit rfl)⟩, ⟨rfl, (SupX.lit rfl)⟩, ⟨rfl, (SupX.lit rfl)⟩, ⟨rfl, (SupX.lit rfl)⟩, trivial⟩ rfl) ⟨rfl, rfl, rfl, rfl, trivial⟩ trivial ⟨rfl, rfl, rfl, rfl, trivial⟩ (x7 (by kernel_rfl) (x4 (xb3 ?_)))))))
   refine C_range (caps := [.ptr 4 0, .ptr 7 0, .ptr 5 0, .ptr 6 0]) (κ := Empty) (fun j => cond (Nat.beq j 7) 3026 (cond (Nat.beq j 6) 2026 (cond (Nat.beq j 5) 1026 (cond (Nat.beq j 4) 26 (j))))) rfl (fun _ h => h) trivial (i_possible D B l p q k0 h hl hn1 hn2) fi80 rfl ⟨rfl, rfl, rfl, rfl, trivial⟩ rfl rfl (fun _ _ => rfl) (upd (fun _ => none) 10 (some (.own (.ptr 10 0)))) [10, 60] [10] (Sub.cons rfl Sub.nil) (SupG.own rfl SupG.nil) rfl (lkOk rfl) (fun (k : Nat) (xs : List Int) => xs = iL ((winT l p q k0).take k)) (fun (k : Nat) (xs : List Int) => upd (upd (fun _ => none) 10 (some (⟨54, 1, false, [.own (.sl 60 1 0 xs.length)]⟩))) 60 (some (⟨3, 1, false, rV tI xs⟩))) (fun k x => (SupH.cons rfl (supJ xe5) (SupH.cons rfl (supJL rfl) SupH.nil))) (fun k x y hy => by simp only [List.mem_cons, List.not_mem_nil, or_false] at hy; rcases hy with rfl | rfl | rfl | rfl <;> rfl) (fun _ _ => False) (fun i => i.elim) (fun _ _ h => h.elim) ([]) rfl ((SubK.consI rfl ImpK.refl) ((SubK.consI rfl ImpK.refl) SubK.nil)) ?_ ?_ ?_
   ·
    intro D lp o1 o2 O W lη lb V0 k xs hk hI
    have hwl := win_len (l := l) (p := p) (q := q) (n := k0)
    have hxl : xs.length ≤ 2154 := by rw [hI, iL_len, List.length_take]; omega
    apply rnd_mk
    ·
     refine x8 ?_
     refine RE (xb4 (k := 11) (n := 3) (agg := true) zr85.1 zr85.2 rfl) trivial trivial ⟨rfl, trivial⟩ (RE (xa3 (es := 3) (agg := true) (0) ti85 rfl rfl rfl) ⟨rfl, rfl, trivial⟩ ⟨rfl, trivial⟩ trivial (x7 (by kernel_rfl) ?_))
     exact K_thenF fun _ _ h => h
    ·
     refine xb3 ?_
     refine x8 ?_
     refine RE (xa8 (ts := [.own (.sl 60 1 0 xs.length)]) (0) ti54 rfl rfl) ⟨rfl, trivial⟩ ⟨rfl, trivial⟩ trivial (R1 (x9 fo85_0 rfl) rfl (xa6 (0) ti3 rfl rfl rfl (At.g 0 rfl rfl) rfl (R1 (xf7 (n := 1) (f := fun n : Int => tI n) [(((winT l p q k0).getD k 0) : Int)] Tryz.underlying54 el3 zf3 rfl (fun _ => inferInstance) rfl rfl rfl) rfl (RE (xf6 (k := 60) (k' := 32) (f := fun n : Int => tI n) (ys := [(((winT l p q k0).getD k 0) : Int)]) (ts' := rV tI (xs ++ [(((winT l p q k0).getD k 0) : Int)])) Tryz.underlying54 el3 zf3 rfl rfl (fun _ => inferInstance) rV_len (by simp; omega) (by simp; omega) (by simp [rV]) (n' := xs.length + 1) rfl) ⟨rfl, rfl, trivial⟩ ⟨rfl, trivial⟩ ⟨rfl, trivial⟩ (RE (xa3 (es := 1) (agg := false) (e := .own (.sl 32 1 0 (xs.length + 1))) (0) ti54 rfl rfl rfl) ⟨rfl, rfl, trivial⟩ ⟨rfl, trivial⟩ trivial (x7 (by kernel_rfl) (xc1 ?_)))))))
     exact K_ren (g' := fun _ => none) [10, 60] (fun j => cond (Nat.beq j 60) 32 (j)) SubR.nil ((SubKR.consI rfl (ImpK.of ren_rV.symm)) ((SubKR.consI rfl (ImpK.of (by rw [List.length_append]; rfl))) SubKR.nil)) SupG.nil (SupH.cons rfl (supJ xe5) (SupH.cons rfl (supJL rfl) SupH.nil)) (lkOk rfl) rfl rfl (fun _ h => by cases h) (K_rnd ((xs ++ [(((winT l p q k0).getD k 0) : Int)])) (by rw [take_next hk, hI]; simp [iL]) SubK.refl (SupH.cons rfl (supJ xe5) (SupH.cons rfl (supJL rfl) SupH.nil)) (lkOk rfl))
   ·
    intro D hD xs hI
    rw [List.take_length] at hI
    refine xc1 (x4 (x6 ?_))
    refine x8 ?_
    refine RE (Does.giveL (k := 60) (es := 1) (off := 0) (len := xs.length) (xs := xs) (f := tI) (ts := rV tI xs) (xa8 (ts := [.own (.sl 60 1 0 xs.length)]) (0) ti54 rfl rfl) (fun _ h => h) (rV_all rfl) rfl) ⟨rfl, trivial⟩ ⟨rfl, rfl, trivial⟩ trivial (R1 x5 rfl (R1 x5 rfl (x7 (by kernel_rfl) (x4 (xa1 ?_)))))
    exact E_ret2 (Plain.loop Plain.mk' hD) rfl rfl rfl (Le.of (by rw [winR, if_pos hok, Int.toNat_natCast, hI])) (Le.int (by rw [winR, if_pos hok]))
   ·
    intro D hD e i; exact i.elim
end An.S

/- Layer 9: the best window. -/
namespace An.S
open Go Go.Proofs An
set_option maxHeartbeats 2000000
theorem ti32 : TyI Tryz.prog 32 1 false := ⟨by kernel_rfl, by kernel_rfl⟩
theorem ti116 : TyI Tryz.prog 116 1 false := ⟨by kernel_rfl, by kernel_rfl⟩
theorem fo85_1 : fieldO Tryz.prog 85 1 = some 1 := by kernel_rfl
theorem fo85_2 : fieldO Tryz.prog 85 2 = some 2 := by kernel_rfl
theorem fi15 : FnI Tryz.prog 15 := ⟨_, Tryz.func15, by kernel_rfl, rfl⟩
theorem fi47 : FnI Tryz.prog 47 := ⟨_, Tryz.func47, by kernel_rfl, rfl⟩
theorem fi78 : FnI Tryz.prog 78 := ⟨_, Tryz.func78, by kernel_rfl, rfl⟩
theorem fi79 : FnI Tryz.prog 79 := ⟨_, Tryz.func79, by kernel_rfl, rfl⟩
theorem zr4 : (Tryz.prog.info? 4).bind (·.zero) = some (.bool false) ∧ ∀ F w, (tE (.bool false)).p F w (.bool false) := ⟨by kernel_rfl, fun _ _ => rfl⟩
theorem zr32 : (Tryz.prog.info? 32).bind (·.zero) = some (.int .i64 0) ∧ ∀ F w, (tE (.int .i64 0)).p F w (.int .i64 0) := ⟨by kernel_rfl, fun _ _ => rfl⟩
/-- The best window, or none. -/
def wM (o : Option Nat) : Int := (o.map fun (k : Nat) => (k : Int)).getD 0
def wA (o : Option Nat) : Int := (o.map startI).getD 0
def wB (n : Nat) (o : Option Nat) : Int := (o.map fun k => startI (k + n)).getD 0
abbrev tWo (n : Nat) (o : Option Nat) : Ty := tWin (wM o) (wA o) (wB n o)
def fO (D : Int) (l : List Tst) (n : Nat) (o : Option Nat) : Fr := match o with
  | none => fr0
  | some k => fr (avW D l n k)
def eO (o : Option Nat) : Int := match o with
  | none => 6
  | some _ => 0
theorem win_rng {l : List Tst} {p q : Int} {n k : Nat} (hp : 0 ≤ p) (hq : q ≤ 65536) (hn : 1 ≤ n) (h : k ∈ winT l p q n) : 0 ≤ startI k ∧ startI k < startI (k + n) ∧ startI (k + n) ≤ 65536 := by
  have h1 := win_is h
  have := start_lt (show k < k + n by omega) (by omega)
  omega
theorem short_win {D B : Int} {l : List Tst} {p q : Int} {n k : Nat} (hn : nOk D B) (hl : isG 3 D B l) (hp : 0 ≤ p) (hq : q ≤ 65536) (h1 : 1 ≤ n) (h : k ∈ winT l p q n) : short (avW D l n k) := by
  have := win_rng hp hq h1 h
  exact short_av hn hl this.1 this.2.1 this.2.2
theorem cmp_gt {a b : Rat} : 0 < cmpQ a b ↔ b < a := by
  unfold cmpQ
  by_cases h1 : a < b
  · rw [if_pos h1]
    exact ⟨fun h => by omega, fun h => absurd h (Rat.not_lt.2 (Rat.le_of_lt h1))⟩
  · rw [if_neg h1]
    by_cases h2 : a = b
    · rw [if_pos h2]; subst h2
      exact ⟨fun h => by omega, fun h => absurd h (Rat.not_lt.2 Rat.le_refl)⟩
    · rw [if_neg h2]
      refine ⟨fun _ => Rat.not_le.1 fun h => ?_, fun _ => by decide⟩
      rcases Rat.le_iff_lt_or_eq.1 h with h3 | h3
      · exact h1 h3
      · exact h2 h3
theorem c_best1 (D B : Int) (l : List Tst) (hn : nOk D B) (h : isG 3 D B l) (hl : l.length ≤ 200000) (m : Int) (x y : Int) (hx : 0 ≤ x) (hxy : x < y) (hy : y ≤ 65536) :
  CtG Tryz.prog 79 [(20, ⟨24, 1, false, [.val (tG KL (tL 8 true tTs l))]⟩)] [.val (tWin m x y), .own (.ptr 20 0)] (.val (tT [tFr (fr (avQ D l x y)), tI 0])) [(20, ⟨24, 1, false, [.val (tG KL (tL 8 true tTs l))]⟩)] [] := by
 refine CtG.intro [20] Tryz.func79 rfl Tryz.ntmps79 rfl rfl ⟨⟨rfl, (SupX.lit rfl)⟩, trivial⟩ ?_
 intro w F η
 refine x6 ?_
 refine x8 ?_
 refine RE (xc9 (k := 2) ti85 rfl) ⟨rfl, trivial⟩ trivial ⟨rfl, trivial⟩ (RE (xb4 (k := 3) (n := 4) (agg := true) zr31.1 zr31.2 rfl) trivial trivial ⟨rfl, trivial⟩ (R1 x5 rfl (x7 (by kernel_rfl) (x4 (x6 ?_)))))
 refine x8 ?_
 refine RE (d_loadG ti24) ⟨rfl, trivial⟩ ⟨rfl, trivial⟩ trivial (R1 (x9 fo85_1 rfl) rfl (xa6 (0) ti3 rfl rfl rfl (At.g 1 rfl rfl) rfl (R1 (x9 fo85_2 rfl) rfl (xa6 (0) ti3 rfl rfl rfl (At.g 2 rfl rfl) rfl (R3 (xa0 (c_average D B l x y hn h hl hx hxy hy) fi37 rfl) rfl rfl rfl (R1 (xa2 rfl) rfl (R1 (xa2 rfl) rfl ?_)))))))
 refine RE (xa3 (es := 4) (agg := true) (0) ti31 rfl rfl rfl) ⟨rfl, rfl, trivial⟩ ⟨rfl, trivial⟩ trivial (R1 x5 rfl (x7 (by kernel_rfl) (x4 (xa1 ?_))))
 exact E_retGN LentC.mk' (rs := [.cell 3 31, .tmp 4]) rfl rfl ⟨⟨_, _, _, _, _, rfl, rfl, ti31, Le.refl⟩, ⟨_, rfl, Le.refl⟩, trivial⟩ ⟨rfl, trivial⟩ ⟨⟨rfl, (SupX.lit rfl)⟩, trivial⟩ rfl
theorem c_greatest (E B : Int) (l : List Tst) (p q : Int) (n : Nat) (hn : nOk E B) (h : isG 3 E B l) (hl : l.length ≤ 200000) (hp : 0 ≤ p) (hq : q ≤ 65536) (hn1 : 1 ≤ n) (hn2 : n ≤ 1200) :
  CtG Tryz.prog 78 [(104, ⟨24, 1, false, [.val (tG KL (tL 8 true tTs l))]⟩), (107, ⟨3, 1, false, [.val (tI (n : Int))]⟩), (105, ⟨3, 1, false, [.val (tI p)]⟩), (106, ⟨3, 1, false, [.val (tI q)]⟩), (120, ⟨24, 1, false, [.val (tG KL (tL 8 true tTs l))]⟩)] [.own (.fn 80 [.ptr 104 0, .ptr 107 0, .ptr 105 0, .ptr 106 0]), .own (.fn 79 [.ptr 120 0])] (.val (tT [tWo n (bstT E l p q n), tFr (fO E l n (bstT E l p q n)), tI (eO (bstT E l p q n))])) [] [] := by
 refine CtG.intro [104, 107, 105, 106, 120] Tryz.func78 rfl Tryz.ntmps78 rfl rfl ⟨⟨rfl, (SupX.lit rfl)⟩, ⟨rfl, (SupX.lit rfl)⟩, ⟨rfl, (SupX.lit rfl)⟩, ⟨rfl, (SupX.lit rfl)⟩, ⟨rfl, (SupX.lit rfl)⟩, trivial⟩ ?_
 intro w F η
 refine x6 ?_
 refine x8 ?_
 refine RE (xc9 (k := 3) ti116 rfl) ⟨rfl, trivial⟩ trivial ⟨rfl, trivial⟩ (RE (xb4 (k := 4) (n := 3) (agg := true) zr85.1 zr85.2 rfl) trivial trivial ⟨rfl, trivial⟩ (RE (xb4 (k := 5) (n := 4) (agg := true) zr31.1 zr31.2 rfl) trivial trivial ⟨rfl, trivial⟩ (RE (xb4 (k := 6) (n := 1) (agg := false) zr32.1 zr32.2 rfl) trivial trivial ⟨rfl, trivial⟩ (x7 (by kernel_rfl) (x4 (x6 ?_))))))
 refine x8 ?_
 refine RE (xb4 (k := 7) (n := 3) (agg := true) zr85.1 zr85.2 rfl) trivial trivial ⟨rfl, trivial⟩ (RE (xb4 (k := 8) (n := 3) (agg := true) zr85.1 zr85.2 rfl) trivial trivial ⟨rfl, trivial⟩ (x7 (by kernel_rfl) (x4 (x6 ?_))))
 refine x8 ?_
 refine RE (xb4 (k := 9) (n := 4) (agg := true) zr31.1 zr31.2 rfl) trivial trivial ⟨rfl, trivial⟩ (x7 (by kernel_rfl) (x4 (x6 ?_)))
 refine x8 ?_
 refine RE (xb4 (k := 10) (n := 1) (agg := false) zr4.1 zr4.2 rfl) trivial trivial ⟨rfl, trivial⟩ (RE (xa3 (es := 1) (agg := false) (0) ti4 rfl rfl rfl) ⟨rfl, rfl, trivial⟩ ⟨rfl, trivial⟩ trivial (x7 (by kernel_rfl) (x4 (x6 (x6 ?_)))))
 refine x8 ?_
 refine R1 x3 rfl (x7 (by kernel_rfl) (x4 (xb3 ?_)))
 refine C_range (caps := [.ptr 4 0, .ptr 7 0, .ptr 5 0, .ptr 6 0]) (κ := Empty) (fun j => cond (Nat.beq j 7) 107 (cond (Nat.beq j 6) 106 (cond (Nat.beq j 5) 105 (cond (Nat.beq j 4) 104 (j))))) rfl (fun _ h => h) trivial (i_possible E B l p q n h hl hn1 hn2) fi80 rfl ⟨rfl, rfl, rfl, rfl, trivial⟩ rfl rfl (fun _ _ => rfl) (upd (upd (upd (upd (upd (upd (upd (upd (fun _ => none) 3 (some (.own (.ptr 3 0)))) 4 (some (.own (.ptr 4 0)))) 5 (some (.own (.ptr 5 0)))) 6 (some (.own (.ptr 6 0)))) 7 (some (.own (.ptr 7 0)))) 8 (some (.own (.ptr 8 0)))) 9 (some (.own (.ptr 9 0)))) 10 (some (.own (.ptr 10 0)))) [3, 4, 5, 6, 7, 8, 9, 10, 104, 107, 105, 106, 120] [3, 4, 5, 6, 7, 8, 9, 10] (Sub.cons rfl (Sub.cons rfl (Sub.cons rfl (Sub.cons rfl (Sub.cons rfl (Sub.cons rfl (Sub.cons rfl (Sub.cons rfl Sub.nil)))))))) (SupG.own rfl (SupG.own rfl (SupG.own rfl (SupG.own rfl (SupG.own rfl (SupG.own rfl (SupG.own rfl (SupG.own rfl SupG.nil)))))))) rfl (lkOk rfl) (fun (k : Nat) (o : Option Nat) => o = bstL E l n ((winT l p q n).take k)) (fun (k : Nat) (o : Option Nat) => upd (upd (upd (upd (upd (upd (upd (upd (upd (fun _ => none) 3 (some (⟨116, 1, false, [.own (.fn 79 [.ptr 120 0])]⟩))) 4 (some (⟨85, 3, true, [.val (tWin 0 0 0)]⟩))) 5 (some (⟨31, 4, true, [.val (tFr fr0)]⟩))) 6 (some (⟨32, 1, false, [.val (tI 0)]⟩))) 7 (some (⟨85, 3, true, [.val (tWin 0 0 0)]⟩))) 8 (some (⟨85, 3, true, [.val (tWo n o)]⟩))) 9 (some (⟨31, 4, true, [.val (tFr (fO E l n o))]⟩))) 10 (some (⟨4, 1, false, [.val (tB o.isSome)]⟩))) 120 (some (⟨24, 1, false, [.val (tG KL (tL 8 true tTs l))]⟩))) (fun k x => (SupH.cons rfl (supJL rfl) (SupH.cons rfl (supJL rfl) (SupH.cons rfl (supJL rfl) (SupH.cons rfl (supJL rfl) (SupH.cons rfl (supJL rfl) (SupH.cons rfl (supJL rfl) (SupH.cons rfl (supJL rfl) (SupH.cons rfl (supJL rfl) (SupH.cons rfl (supJL rfl) SupH.nil)))))))))) (fun k x y hy => by simp only [List.mem_cons, List.not_mem_nil, or_false] at hy; rcases hy with rfl | rfl | rfl | rfl <;> rfl) (fun _ _ => False) (fun i => i.elim) (fun _ _ h => h.elim) (none) rfl ((SubK.consI rfl ImpK.refl) ((SubK.consI rfl ImpK.refl) ((SubK.consI rfl ImpK.refl) ((SubK.consI rfl ImpK.refl) ((SubK.consI rfl ImpK.refl) ((SubK.consI rfl ImpK.refl) ((SubK.consI rfl ImpK.refl) ((SubK.consI rfl ImpK.refl) ((SubK.consI rfl ImpK.refl) SubK.nil))))))))) ?_ ?_ ?_
 ·
  intro D lp o1 o2 O W lη lb V0 k o hk hI
  have hwm := getD_memN hk
  have hr := win_rng hp hq hn1 hwm
  have hsw := short_win hn h hp hq hn1 hwm
  have hnx := bstL_snoc (D := E) (l := l) (n := n) (k := ((winT l p q n).getD k 0)) (ks := (winT l p q n).take k)
  rw [← take_next hk, ← hI] at hnx
  apply rnd_mk
  ·
   refine x8 ?_
   refine RE (xb4 (k := 11) (n := 3) (agg := true) zr85.1 zr85.2 rfl) trivial trivial ⟨rfl, trivial⟩ (RE (xa3 (es := 3) (agg := true) (0) ti85 rfl rfl rfl) ⟨rfl, rfl, trivial⟩ ⟨rfl, trivial⟩ trivial (x7 (by kernel_rfl) ?_))
   exact K_thenF fun _ _ h => h
  ·
   refine xb3 (x6 ?_)
   refine x8 ?_
   refine RE (xa8 (0) ti116 rfl rfl) ⟨rfl, trivial⟩ ⟨rfl, trivial⟩ trivial (RE (xa8 (0) ti85 rfl rfl) ⟨rfl, trivial⟩ ⟨rfl, trivial⟩ trivial (RE (d_callCX (ps := [.val (tWn n ((winT l p q n).getD k 0))]) (caps := [.ptr 20 0]) (fun _ => 120) (c_best1 E B l hn h hl ((winT l p q n).getD k 0) (startI ((winT l p q n).getD k 0)) (startI (((winT l p q n).getD k 0) + n)) hr.1 hr.2.1 hr.2.2) fi79 rfl (krC (ρ := fun _ => 120) (k := 20) rfl (krN (ρ := fun _ => 120))) (krC (ρ := fun _ => 120) (k := 20) rfl (krN (ρ := fun _ => 120))) ⟨⟨rfl, (SupX.lit rfl)⟩, trivial⟩ rfl) ⟨rfl, rfl, trivial⟩ ⟨rfl, trivial⟩ trivial (R1 x3 rfl (R1 (xa2 rfl) rfl (R1 (xa2 rfl) rfl (RE (xb4 (k := 12) (n := 4) (agg := true) zr31.1 zr31.2 rfl) trivial trivial ⟨rfl, trivial⟩ (RE (xa3 (es := 4) (agg := true) (0) ti31 rfl rfl rfl) ⟨rfl, rfl, trivial⟩ ⟨rfl, trivial⟩ trivial ?_)))))))
   refine R1 x5 rfl (x7 (by kernel_rfl) (x4 (x6 (x6 ?_))))
   refine x8 ?_
   refine R1 x3 rfl (R2 xf9 rfl rfl (x7 (by kernel_rfl) (x4 (C_bF rfl (decide_eq_false (by omega)) (xa5 (x4 (x6 ?_)))))))
   refine x8 ?_
   refine RE (xa8 (0) ti4 rfl rfl) ⟨rfl, trivial⟩ ⟨rfl, trivial⟩ trivial (R1 xe4 rfl (R1 x3 rfl ?_))
   refine RGcase (t := 29) rfl (fun h106 => ?_) (fun h106 => ?_)
   ·
    have ho : o = none := by simpa using h106
    subst ho
    refine RGoff h106 rfl rfl (RGoff h106 rfl rfl (RGoff h106 rfl rfl (RGoff h106 rfl rfl (R2 (xb2 h106) rfl rfl (x7 (by kernel_rfl) (x4 (C_bT rfl rfl ?_)))))))
    refine xd5 mixed ?_
    refine RE (xa8 (0) ti85 rfl rfl) ⟨rfl, trivial⟩ ⟨rfl, trivial⟩ trivial (RE (xa8 (0) ti31 rfl rfl) ⟨rfl, trivial⟩ ⟨rfl, trivial⟩ trivial (RE (xa3 (es := 3) (agg := true) (0) ti85 rfl rfl rfl) ⟨rfl, rfl, trivial⟩ ⟨rfl, trivial⟩ trivial (RE (xa3 (es := 4) (agg := true) (0) ti31 rfl rfl rfl) ⟨rfl, rfl, trivial⟩ ⟨rfl, trivial⟩ trivial (RE (xa3 (es := 1) (agg := false) (0) ti4 rfl rfl rfl) ⟨rfl, rfl, trivial⟩ ⟨rfl, trivial⟩ trivial (xd6 (by kernel_rfl) (xc1 ?_))))))
    exact K_rnd ((some ((winT l p q n).getD k 0))) (by rw [hnx]; rfl) ((SubK.consI rfl ImpK.refl) ((SubK.consI rfl ImpK.refl) ((SubK.consI rfl ImpK.refl) ((SubK.consI rfl ImpK.refl) ((SubK.consI rfl ImpK.refl) ((SubK.consI rfl ImpK.refl) ((SubK.consI rfl ImpK.refl) ((SubK.consI rfl ImpK.refl) ((SubK.consI rfl ImpK.refl) SubK.nil))))))))) (SupH.cons rfl (supJL rfl) (SupH.cons rfl (supJL rfl) (SupH.cons rfl (supJL rfl) (SupH.cons rfl (supJL rfl) (SupH.cons rfl (supJL rfl) (SupH.cons rfl (supJL rfl) (SupH.cons rfl (supJL rfl) (SupH.cons rfl (supJL rfl) (SupH.cons rfl (supJL rfl) SupH.nil))))))))) (lkOk rfl)
   ·
    have ho2 : o.isSome = true := by simpa using h106
    obtain ⟨m, ho⟩ := Option.isSome_iff_exists.1 ho2
    have hmm : m ∈ winT l p q n := by
     have hs := bstL_spec (D := E) (l := l) (n := n) ((winT l p q n).take k) (win_asc.sublist (List.take_sublist ..))
     rw [← hI, ho] at hs
     exact List.mem_of_mem_take hs.1
    subst ho
    refine RGon h106 rfl (xa8 (0) ti31 rfl rfl) rfl ⟨rfl, trivial⟩ ⟨rfl, trivial⟩ trivial (RGon h106 rfl (xa8 (0) ti31 rfl rfl) rfl ⟨rfl, trivial⟩ ⟨rfl, trivial⟩ trivial (RGon h106 rfl (xa0 (c_FCmp (avW E l n ((winT l p q n).getD k 0)) (avW E l n m) hsw (short_win hn h hp hq hn1 hmm)) fi15 rfl) rfl ⟨rfl, rfl, trivial⟩ trivial trivial (RGon h106 rfl d_gtr rfl ⟨rfl, rfl, trivial⟩ trivial trivial (R2 (xb0 h106) rfl rfl (x7 (by kernel_rfl) (x4 ?_))))))
    refine xc0 rfl (fun h106_2 => ?_) (fun h106_2 => ?_)
    ·
     refine xd5 mixed ?_
     refine RE (xa8 (0) ti85 rfl rfl) ⟨rfl, trivial⟩ ⟨rfl, trivial⟩ trivial (RE (xa8 (0) ti31 rfl rfl) ⟨rfl, trivial⟩ ⟨rfl, trivial⟩ trivial (RE (xa3 (es := 3) (agg := true) (0) ti85 rfl rfl rfl) ⟨rfl, rfl, trivial⟩ ⟨rfl, trivial⟩ trivial (RE (xa3 (es := 4) (agg := true) (0) ti31 rfl rfl rfl) ⟨rfl, rfl, trivial⟩ ⟨rfl, trivial⟩ trivial (RE (xa3 (es := 1) (agg := false) (0) ti4 rfl rfl rfl) ⟨rfl, rfl, trivial⟩ ⟨rfl, trivial⟩ trivial (xd6 (by kernel_rfl) (xc1 ?_))))))
     exact K_rnd ((some ((winT l p q n).getD k 0))) (by rw [hnx]; exact (if_pos (cmp_gt.1 h106_2)).symm) ((SubK.consI rfl ImpK.refl) ((SubK.consI rfl ImpK.refl) ((SubK.consI rfl ImpK.refl) ((SubK.consI rfl ImpK.refl) ((SubK.consI rfl ImpK.refl) ((SubK.consI rfl ImpK.refl) ((SubK.consI rfl ImpK.refl) ((SubK.consI rfl ImpK.refl) ((SubK.consI rfl ImpK.refl) SubK.nil))))))))) (SupH.cons rfl (supJL rfl) (SupH.cons rfl (supJL rfl) (SupH.cons rfl (supJL rfl) (SupH.cons rfl (supJL rfl) (SupH.cons rfl (supJL rfl) (SupH.cons rfl (supJL rfl) (SupH.cons rfl (supJL rfl) (SupH.cons rfl (supJL rfl) (SupH.cons rfl (supJL rfl) SupH.nil))))))))) (lkOk rfl)
    ·
     refine xa5 (xc1 ?_)
     exact K_rnd ((some m)) (by rw [hnx]; exact (if_neg (fun hh => h106_2 (cmp_gt.2 hh))).symm) ((SubK.consI rfl ImpK.refl) ((SubK.consI rfl ImpK.refl) ((SubK.consI rfl ImpK.refl) ((SubK.consI rfl ImpK.refl) ((SubK.consI rfl ImpK.refl) ((SubK.consI rfl ImpK.refl) ((SubK.consI rfl ImpK.refl) ((SubK.consI rfl ImpK.refl) ((SubK.consI rfl ImpK.refl) SubK.nil))))))))) (SupH.cons rfl (supJL rfl) (SupH.cons rfl (supJL rfl) (SupH.cons rfl (supJL rfl) (SupH.cons rfl (supJL rfl) (SupH.cons rfl (supJL rfl) (SupH.cons rfl (supJL rfl) (SupH.cons rfl (supJL rfl) (SupH.cons rfl (supJL rfl) (SupH.cons rfl (supJL rfl) SupH.nil))))))))) (lkOk rfl)
 ·
  intro D hD o hI
  rw [List.take_length] at hI
  have hI : o = bstT E l p q n := hI
  refine xc1 (x4 (x6 (x6 ?_)))
  refine x8 ?_
  refine RE (xa8 (0) ti4 rfl rfl) ⟨rfl, trivial⟩ ⟨rfl, trivial⟩ trivial (R1 xe4 rfl (x7 (by kernel_rfl) (x4 ?_)))
  refine xf8 rfl (fun h110 => ?_) (fun h110 => ?_)
  ·
   have ho : o = none := by simpa using h110
   subst ho
   refine x6 ?_
   refine x8 ?_
   refine RE (xa8 (0) ti85 rfl rfl) ⟨rfl, trivial⟩ ⟨rfl, trivial⟩ trivial (R0 (xc8 (r := tS [⟨2, true, (tS [⟨1, false, (tE (.bool false))⟩, ⟨1, false, (tLm [])⟩])⟩, ⟨2, true, (tS [⟨1, false, (tE (.bool false))⟩, ⟨1, false, (tLm [])⟩])⟩]) (ts := []) bu31 zr31.2 ⟨_, rfl⟩ rfl Le.refl)  (RE (xa3 (es := 3) (agg := true) (0) ti85 rfl rfl rfl) ⟨rfl, rfl, trivial⟩ ⟨rfl, trivial⟩ trivial (RE (xa3 (es := 4) (agg := true) (0) ti31 rfl rfl rfl) ⟨rfl, rfl, trivial⟩ ⟨rfl, trivial⟩ trivial (RE (xa3 (es := 1) (agg := false) (0) ti32 rfl rfl rfl) ⟨rfl, rfl, trivial⟩ ⟨rfl, trivial⟩ trivial (x7 (by kernel_rfl) (x4 (xa1 ?_)))))))
   refine xa7 ?_
   exact E_retGN (LentC.loop LentC.mk' hD) (rs := [.cell 4 85, .cell 5 31, .cell 6 32]) rfl rfl ⟨⟨_, _, _, _, _, rfl, rfl, ti85, (Le.of (by rw [← hI]; rfl))⟩, ⟨_, _, _, _, _, rfl, rfl, ti31, (Le.of (by rw [← hI]; rfl))⟩, ⟨_, _, _, _, _, rfl, rfl, ti32, (Le.int (by rw [← hI]; rfl))⟩, trivial⟩ trivial trivial rfl
  ·
   have ho2 : o.isSome = true := by simpa using h110
   obtain ⟨m, ho⟩ := Option.isSome_iff_exists.1 ho2
   subst ho
   refine xa5 (x4 (x6 ?_))
   refine xd5 mixed ?_
   refine RE (xa8 (0) ti85 rfl rfl) ⟨rfl, trivial⟩ ⟨rfl, trivial⟩ trivial (RE (xa8 (0) ti31 rfl rfl) ⟨rfl, trivial⟩ ⟨rfl, trivial⟩ trivial (RE (xa3 (es := 3) (agg := true) (0) ti85 rfl rfl rfl) ⟨rfl, rfl, trivial⟩ ⟨rfl, trivial⟩ trivial (RE (xa3 (es := 4) (agg := true) (0) ti31 rfl rfl rfl) ⟨rfl, rfl, trivial⟩ ⟨rfl, trivial⟩ trivial (RE (xa3 (es := 1) (agg := false) (0) ti32 rfl rfl rfl) ⟨rfl, rfl, trivial⟩ ⟨rfl, trivial⟩ trivial (xd6 (by kernel_rfl) (x4 (xa1 ?_)))))))
   exact E_retGN (LentC.loop LentC.mk' hD) (rs := [.cell 4 85, .cell 5 31, .cell 6 32]) rfl rfl ⟨⟨_, _, _, _, _, rfl, rfl, ti85, (Le.of (by rw [← hI]))⟩, ⟨_, _, _, _, _, rfl, rfl, ti31, (Le.of (by rw [← hI]))⟩, ⟨_, _, _, _, _, rfl, rfl, ti32, (Le.int (by rw [← hI]; rfl))⟩, trivial⟩ trivial trivial rfl
 ·
  intro D hD e i; exact i.elim
/-- What best returns. -/
def bO (D : Int) (l : List Tst) (p q n : Int) : Option Nat := if lenOk l p q n then bstT D l p q n.toNat else none
def bE (D : Int) (l : List Tst) (p q n : Int) : Int := if lenOk l p q n then eO (bstT D l p q n.toNat) else 2
theorem c_best (D B : Int) (l : List Tst) (p q n : Int) (hn : nOk D B) (hD : ∀ s ∈ l, s.v.f.dig) (hG : askB l p q = true → isG 3 D B l) (hl : l.length ≤ 200000) :
  Ct Tryz.prog 47 [tG KL (tL 8 true tTs l), tI p, tI q, tI n] (tT [tWo n.toNat (bO D l p q n), tFr (fO D l n.toNat (bO D l p q n)), tI (bE D l p q n)]) := by
 refine Ct.intro Tryz.func47 rfl Tryz.ntmps47 rfl ?_
 intro w F
 refine x6 ?_
 refine x8 ?_
 refine RE (xc9 (k := 4) ti24 rfl) ⟨rfl, trivial⟩ trivial ⟨rfl, trivial⟩ (RE (xb4 (k := 8) (n := 3) (agg := true) zr85.1 zr85.2 rfl) trivial trivial ⟨rfl, trivial⟩ (RE (xb4 (k := 9) (n := 4) (agg := true) zr31.1 zr31.2 rfl) trivial trivial ⟨rfl, trivial⟩ (R1 x5 rfl (x7 (by kernel_rfl) (x4 (x6 (x6 ?_)))))))
 refine x8 ?_
 refine RE (d_loadG ti24) ⟨rfl, trivial⟩ ⟨rfl, trivial⟩ trivial (R1 x3 rfl (R1 x3 rfl (R3 (xa0 (c_isAsked l p q hD) fi34 rfl) rfl rfl rfl (R1 xe4 rfl (R1 x3 rfl ?_)))))
 refine RGcase (t := 16) rfl (fun h118 => ?_) (fun h118 => ?_)
 ·
  have hk : askB l p q = false := by simpa using h118
  refine RGoff h118 rfl rfl (RGoff h118 rfl rfl (RGoff h118 rfl rfl (R2 (xb2 h118) rfl rfl (x7 (by kernel_rfl) (x4 (C_bT rfl rfl (x6 ?_)))))))
  refine x8 ?_
  refine R0 (xc8 (r := tS [⟨1, false, (tE (.int .i64 0))⟩, ⟨1, false, (tE (.int .i64 0))⟩, ⟨1, false, (tE (.int .i64 0))⟩]) (ts := []) bu85 zr85.2 ⟨_, rfl⟩ rfl Le.refl)  (R0 (xc8 (r := tS [⟨2, true, (tS [⟨1, false, (tE (.bool false))⟩, ⟨1, false, (tLm [])⟩])⟩, ⟨2, true, (tS [⟨1, false, (tE (.bool false))⟩, ⟨1, false, (tLm [])⟩])⟩]) (ts := []) bu31 zr31.2 ⟨_, rfl⟩ rfl Le.refl)  (RE (xa3 (es := 3) (agg := true) (0) ti85 rfl rfl rfl) ⟨rfl, rfl, trivial⟩ ⟨rfl, trivial⟩ trivial (RE (xa3 (es := 4) (agg := true) (0) ti31 rfl rfl rfl) ⟨rfl, rfl, trivial⟩ ⟨rfl, trivial⟩ trivial (R1 x5 rfl (x7 (by kernel_rfl) (x4 (xa1 ?_)))))))
  refine xa7 ?_
  exact xf1 Plain.mk' (rs := [.cell 8 85, .cell 9 31, .tmp 10]) rfl rfl ⟨⟨_, _, _, _, _, rfl, rfl, ti85, (Le.of (by rw [bO, if_neg (fun h => by have := h.1; rw [hk] at this; cases this)]; rfl))⟩, ⟨_, _, _, _, _, rfl, rfl, ti31, (Le.of (by rw [bO, if_neg (fun h => by have := h.1; rw [hk] at this; cases this)]; rfl))⟩, ⟨_, rfl, (Le.int (by rw [bE, if_neg (fun h => by have := h.1; rw [hk] at this; cases this)]))⟩, trivial⟩
 ·
  have hk : askB l p q = true := by simpa using h118
  have h := hG hk
  have hk2 := (askB_iff.1 hk).2
  refine RGon h118 rfl x3 rfl ⟨rfl, trivial⟩ trivial trivial (RGon h118 rfl (xa0 (c_isLength n) fi48 rfl) rfl ⟨rfl, trivial⟩ trivial trivial (RGon h118 rfl xe4 rfl ⟨rfl, trivial⟩ trivial trivial (R2 (xb0 h118) rfl rfl (x7 (by kernel_rfl) (x4 ?_)))))
  refine xf8 rfl (fun h118_2 => ?_) (fun h118_2 => ?_)
  ·
   have hn0 : ¬ (1 ≤ n ∧ n ≤ 1200) := by
    have h1 := h118_2
    simp at h1; omega
   refine x6 ?_
   refine x8 ?_
   refine R0 (xc8 (r := tS [⟨1, false, (tE (.int .i64 0))⟩, ⟨1, false, (tE (.int .i64 0))⟩, ⟨1, false, (tE (.int .i64 0))⟩]) (ts := []) bu85 zr85.2 ⟨_, rfl⟩ rfl Le.refl)  (R0 (xc8 (r := tS [⟨2, true, (tS [⟨1, false, (tE (.bool false))⟩, ⟨1, false, (tLm [])⟩])⟩, ⟨2, true, (tS [⟨1, false, (tE (.bool false))⟩, ⟨1, false, (tLm [])⟩])⟩]) (ts := []) bu31 zr31.2 ⟨_, rfl⟩ rfl Le.refl)  (RE (xa3 (es := 3) (agg := true) (0) ti85 rfl rfl rfl) ⟨rfl, rfl, trivial⟩ ⟨rfl, trivial⟩ trivial (RE (xa3 (es := 4) (agg := true) (0) ti31 rfl rfl rfl) ⟨rfl, rfl, trivial⟩ ⟨rfl, trivial⟩ trivial (R1 x5 rfl (x7 (by kernel_rfl) (x4 (xa1 ?_)))))))
   refine xa7 ?_
   exact xf1 Plain.mk' (rs := [.cell 8 85, .cell 9 31, .tmp 10]) rfl rfl ⟨⟨_, _, _, _, _, rfl, rfl, ti85, (Le.of (by rw [bO, if_neg (fun h => hn0 h.2)]; rfl))⟩, ⟨_, _, _, _, _, rfl, rfl, ti31, (Le.of (by rw [bO, if_neg (fun h => hn0 h.2)]; rfl))⟩, ⟨_, rfl, (Le.int (by rw [bE, if_neg (fun h => hn0 h.2)]))⟩, trivial⟩
  ·
   have hn0 : 1 ≤ n ∧ n ≤ 1200 := by simpa using h118_2
   have hok : lenOk l p q n := ⟨hk, hn0⟩
   obtain ⟨k0, rfl⟩ : ∃ k0 : Nat, n = k0 := ⟨n.toNat, by omega⟩
   have hn1 : 1 ≤ k0 := by omega
   have hn2 : k0 ≤ 1200 := by omega
   refine xa5 (x4 (x6 ?_))
   refine x8 ?_
   refine RE (xa8 (0) ti24 rfl rfl) ⟨rfl, trivial⟩ ⟨rfl, trivial⟩ trivial (R1 x3 rfl (R1 x3 rfl (R1 x3 rfl (RE (xg8 (fun j => cond (Nat.beq j 6) 2027 (cond (Nat.beq j 5) 1027 (cond (Nat.beq j 4) 27 (3027)))) (c_possible l p q k0) fi49 rfl (krN (ρ := fun j => cond (Nat.beq j 6) 2027 (cond (Nat.beq j 5) 1027 (cond (Nat.beq j 4) 27 (3027))))) (krC (ρ := fun j => cond (Nat.beq j 6) 2027 (cond (Nat.beq j 5) 1027 (cond (Nat.beq j 4) 27 (3027)))) (k := 4) rfl (krC (ρ := fun j => cond (Nat.beq j 6) 2027 (cond (Nat.beq j 5) 1027 (cond (Nat.beq j 4) 27 (3027)))) (k := 7) rfl (krC (ρ := fun j => cond (Nat.beq j 6) 2027 (cond (Nat.beq j 5) 1027 (cond (Nat.beq j 4) 27 (3027)))) (k := 5) rfl (krC (ρ := fun j => cond (Nat.beq j 6) 2027 (cond (Nat.beq j 5) 1027 (cond (Nat.beq j 4) 27 (3027)))) (k := 6) rfl (krN (ρ := fun j => cond (Nat.beq j 6) 2027 (cond (Nat.beq j 5) 1027 (cond (Nat.beq j 4) 27 (3027))))))))) ⟨⟨rfl, (SupX.lit rfl)⟩, ⟨rfl, (SupX.lit rfl)⟩, ⟨rfl, (SupX.lit rfl)⟩, ⟨rfl, (SupX.lit rfl)⟩, trivial⟩ rfl) ⟨rfl, rfl, rfl, rfl, trivial⟩ trivial ⟨rfl, rfl, rfl, rfl, trivial⟩ (R1 (xi0 (ps := [.ptr 4 0]) rfl) rfl (RE (xg8 (fun j => cond (Nat.beq j 107) 3027 (cond (Nat.beq j 106) 2027 (cond (Nat.beq j 105) 1027 (cond (Nat.beq j 104) 27 (4))))) (c_greatest D B l p q k0 hn h hl (by omega) (by omega) hn1 hn2) fi78 rfl (krC (ρ := fun j => cond (Nat.beq j 107) 3027 (cond (Nat.beq j 106) 2027 (cond (Nat.beq j 105) 1027 (cond (Nat.beq j 104) 27 (4))))) (k := 104) rfl (krC (ρ := fun j => cond (Nat.beq j 107) 3027 (cond (Nat.beq j 106) 2027 (cond (Nat.beq j 105) 1027 (cond (Nat.beq j 104) 27 (4))))) (k := 107) rfl (krC (ρ := fun j => cond (Nat.beq j 107) 3027 (cond (Nat.beq j 106) 2027 (cond (Nat.beq j 105) 1027 (cond (Nat.beq j 104) 27 (4))))) (k := 105) rfl (krC (ρ := fun j => cond (Nat.beq j 107) 3027 (cond (Nat.beq j 106) 2027 (cond (Nat.beq j 105) 1027 (cond (Nat.beq j 104) 27 (4))))) (k := 106) rfl (krC (ρ := fun j => cond (Nat.beq j 107) 3027 (cond (Nat.beq j 106) 2027 (cond (Nat.beq j 105) 1027 (cond (Nat.beq j 104) 27 (4))))) (k := 120) rfl (krN (ρ := fun j => cond (Nat.beq j 107) 3027 (cond (Nat.beq j 106) 2027 (cond (Nat.beq j 105) 1027 (cond (Nat.beq j 104) 27 (4))))))))))) (krN (ρ := fun j => cond (Nat.beq j 107) 3027 (cond (Nat.beq j 106) 2027 (cond (Nat.beq j 105) 1027 (cond (Nat.beq j 104) 27 (4)))))) trivial rfl) ⟨rfl, rfl, trivial⟩ ⟨rfl, rfl, rfl, rfl, rfl, trivial⟩ trivial (R1 (xa2 rfl) rfl ?_)))))))
   refine R1 (xa2 rfl) rfl (R1 (xa2 rfl) rfl (RE (xa3 (es := 3) (agg := true) (0) ti85 rfl rfl rfl) ⟨rfl, rfl, trivial⟩ ⟨rfl, trivial⟩ trivial (RE (xa3 (es := 4) (agg := true) (0) ti31 rfl rfl rfl) ⟨rfl, rfl, trivial⟩ ⟨rfl, trivial⟩ trivial (R1 x5 rfl (x7 (by kernel_rfl) (x4 (xa1 ?_)))))))
   exact xf1 Plain.mk' (rs := [.cell 8 85, .cell 9 31, .tmp 10]) rfl rfl ⟨⟨_, _, _, _, _, rfl, rfl, ti85, (Le.of (by rw [bO, if_pos hok, Int.toNat_natCast]))⟩, ⟨_, _, _, _, _, rfl, rfl, ti31, (Le.of (by rw [bO, if_pos hok, Int.toNat_natCast]))⟩, ⟨_, rfl, (Le.int (by rw [bE, if_pos hok, Int.toNat_natCast]))⟩, trivial⟩
theorem c_When (D B : Int) (l : List Tst) (p q n : Int) (hn : nOk D B) (hD : ∀ s ∈ l, s.v.f.dig) (hG : askB l p q = true → isG 3 D B l) (hl : l.length ≤ 200000) :
  Ct Tryz.prog 21 [tG KL (tL 8 true tTs l), tI p, tI q, tI n] (tT [tI (wM (bO D l p q n)), tI (bE D l p q n)]) := by
 refine Ct.intro Tryz.func21 rfl Tryz.ntmps21 rfl ?_
 intro w F
 refine x6 ?_
 refine x8 ?_
 refine R1 x5 rfl (R1 x5 rfl (x7 (by kernel_rfl) (x4 (x6 ?_))))
 refine x8 ?_
 refine R1 x3 rfl (R1 x3 rfl (R1 x3 rfl (R1 x3 rfl (RE (xa0 (c_best D B l p q n hn hD hG hl) fi47 rfl) ⟨rfl, rfl, rfl, rfl, trivial⟩ trivial trivial (R1 x3 rfl (R1 (xa2 rfl) rfl (R1 (xa2 rfl) rfl ?_)))))))
 refine R1 (xa2 rfl) rfl (RE (xb4 (k := 10) (n := 3) (agg := true) zr85.1 zr85.2 rfl) trivial trivial ⟨rfl, trivial⟩ (RE (xb4 (k := 11) (n := 4) (agg := true) zr31.1 zr31.2 rfl) trivial trivial ⟨rfl, trivial⟩ (RE (xa3 (es := 3) (agg := true) (0) ti85 rfl rfl rfl) ⟨rfl, rfl, trivial⟩ ⟨rfl, trivial⟩ trivial (RE (xa3 (es := 4) (agg := true) (0) ti31 rfl rfl rfl) ⟨rfl, rfl, trivial⟩ ⟨rfl, trivial⟩ trivial (R1 x5 rfl (x7 (by kernel_rfl) (x4 ?_)))))))
 refine x6 ?_
 refine x8 ?_
 refine R1 (x9 fo85_0 rfl) rfl (xa6 (0) ti3 rfl rfl rfl (At.g 0 rfl rfl) rfl (R1 x3 rfl (R1 x5 rfl (R1 x5 rfl (x7 (by kernel_rfl) (x4 (xa1 ?_)))))))
 exact E_ret2 Plain.mk' rfl rfl rfl Le.refl Le.refl
theorem c_Best (D B : Int) (l : List Tst) (p q n : Int) (hn : nOk D B) (hD : ∀ s ∈ l, s.v.f.dig) (hG : askB l p q = true → isG 3 D B l) (hl : l.length ≤ 200000) :
  Ct Tryz.prog 20 [tG KL (tL 8 true tTs l), tI p, tI q, tI n] (tT [tFr (fO D l n.toNat (bO D l p q n)), tI (bE D l p q n)]) := by
 refine Ct.intro Tryz.func20 rfl Tryz.ntmps20 rfl ?_
 intro w F
 refine x6 ?_
 refine x8 ?_
 refine RE (xb4 (k := 8) (n := 4) (agg := true) zr31.1 zr31.2 rfl) trivial trivial ⟨rfl, trivial⟩ (R1 x5 rfl (x7 (by kernel_rfl) (x4 (x6 ?_))))
 refine x8 ?_
 refine R1 x3 rfl (R1 x3 rfl (R1 x3 rfl (R1 x3 rfl (RE (xa0 (c_best D B l p q n hn hD hG hl) fi47 rfl) ⟨rfl, rfl, rfl, rfl, trivial⟩ trivial trivial (R1 x3 rfl (R1 (xa2 rfl) rfl (R1 (xa2 rfl) rfl ?_)))))))
 refine R1 (xa2 rfl) rfl (RE (xb4 (k := 10) (n := 3) (agg := true) zr85.1 zr85.2 rfl) trivial trivial ⟨rfl, trivial⟩ (RE (xb4 (k := 11) (n := 4) (agg := true) zr31.1 zr31.2 rfl) trivial trivial ⟨rfl, trivial⟩ (RE (xa3 (es := 3) (agg := true) (0) ti85 rfl rfl rfl) ⟨rfl, rfl, trivial⟩ ⟨rfl, trivial⟩ trivial (RE (xa3 (es := 4) (agg := true) (0) ti31 rfl rfl rfl) ⟨rfl, rfl, trivial⟩ ⟨rfl, trivial⟩ trivial (R1 x5 rfl (x7 (by kernel_rfl) (x4 ?_)))))))
 refine x6 ?_
 refine x8 ?_
 refine RE (xa8 (0) ti31 rfl rfl) ⟨rfl, trivial⟩ ⟨rfl, trivial⟩ trivial (R1 x3 rfl (RE (xa3 (es := 4) (agg := true) (0) ti31 rfl rfl rfl) ⟨rfl, rfl, trivial⟩ ⟨rfl, trivial⟩ trivial (R1 x5 rfl (x7 (by kernel_rfl) (x4 (xa1 ?_))))))
 exact xf1 Plain.mk' (rs := [.cell 8 31, .tmp 9]) rfl rfl ⟨⟨_, _, _, _, _, rfl, rfl, ti31, Le.refl⟩, ⟨_, rfl, Le.refl⟩, trivial⟩
end An.S

/- Law 9: what the laws are made of. -/
namespace An.S
open Go Go.Proofs An
set_option maxHeartbeats 2000000
theorem fi22 : FnI Tryz.prog 22 := ⟨_, Tryz.func22, by kernel_rfl, rfl⟩
theorem fi32 : FnI Tryz.prog 32 := ⟨_, Tryz.func32, by kernel_rfl, rfl⟩
theorem fi57 : FnI Tryz.prog 57 := ⟨_, Tryz.func57, by kernel_rfl, rfl⟩
def xc (n d : Int) : Va := ⟨3, fr (kfr n d), 0⟩
def pbF (m : List Nat) (k : Nat) (t : Int) : Int := t + if ((m.getD (3 * k) 0 : Nat) : Int) % 5 = 0 then ((m.getD (3 * k) 0 : Nat) : Int) % 40 else 0
def pbE (m : List Nat) (k : Nat) (t : Int) : Int := pbF m k t + 1 + ((m.getD (3 * k + 1) 0 : Nat) : Int) % 400
def pbV (m : List Nat) (k : Nat) : Va := xc (((m.getD (3 * k + 2) 0 : Nat) : Int) % 1000) 3
def pbS (m : List Nat) (k : Nat) (t : Int) : Tst := ⟨pbF m k t, pbE m k t, pbV m k⟩
def pbRun (m : List Nat) : Nat → Nat → List Tst → Int → List Tst
  | 0, _, out, _ => out
  | f + 1, k, out, t => if 3 * k + 2 < m.length ∧ k < 40 then pbRun m f (k + 1) (pst1 out (pbS m k t)) (pbE m k t) else out
def pbT (m : List Nat) : List Tst := pbRun m 41 0 [] 0
theorem pbRun_stop {m : List Nat} {k : Nat} {out : List Tst} {t : Int} {r : List Tst} (hk : k ≤ 40) (h : pbRun m (41 - k) k out t = r) (hs : ¬ (3 * k + 2 < m.length ∧ k < 40)) : out = r := by
  rw [show 41 - k = (40 - k) + 1 by omega, pbRun, if_neg hs] at h; exact h
theorem pbRun_next {m : List Nat} {k : Nat} {out : List Tst} {t : Int} {r : List Tst} (hk : k ≤ 40) (h : pbRun m (41 - k) k out t = r) (hs : 3 * k + 2 < m.length ∧ k < 40) : pbRun m (41 - (k + 1)) (k + 1) (pst1 out (pbS m k t)) (pbE m k t) = r := by
  rw [show 41 - k = (41 - (k + 1)) + 1 by omega, pbRun, if_pos hs] at h; exact h
theorem pbF_bd {m : List Nat} {k : Nat} {t : Int} : t ≤ pbF m k t ∧ pbF m k t ≤ t + 39 := by
  simp only [pbF]; split <;> omega
theorem pbE_bd {m : List Nat} {k : Nat} {t : Int} : pbF m k t < pbE m k t ∧ pbE m k t ≤ t + 439 := by
  have := pbF_bd (m := m) (k := k) (t := t)
  simp only [pbE]; omega
theorem pbS_lt {m : List Nat} {k : Nat} {t : Int} : (pbS m k t).lo < (pbS m k t).hi := pbE_bd.1
theorem xc_ok {D B n d x : Int} (hd : 0 < d) (e : n * D = x * d) (hD : 0 < D) (hDb : D ≤ 9223372036854775807) (h1 : -B ≤ x) (h2 : x ≤ B) (hB : B ≤ 9223372036854775807) : gOk 3 D B (xc n d) ∧ wt D (xc n d) = x := by
  have e2 : kfr n d = Rat.divInt x D := by
    rw [kfr_big (by omega)]
    exact (Rat.divInt_eq_divInt_iff (by omega) (by omega)).2 e
  rw [xc, e2]
  exact ⟨gOk.mk (.inr rfl) hD hDb h1 h2 hB, wt_is hD (rat_fr _)⟩
/-- A record of thirds. -/
abbrev isP (B : Int) (l : List Tst) : Prop := isG 3 3 B l ∧ ∀ s ∈ l, 0 ≤ wt 3 s.v
theorem pbV_ok (m : List Nat) (k : Nat) : gOk 3 3 999 (pbV m k) ∧ 0 ≤ wt 3 (pbV m k) := by
  have := xc_ok (D := 3) (B := 999) (n := ((m.getD (3 * k + 2) 0 : Nat) : Int) % 1000) (d := 3) (x := ((m.getD (3 * k + 2) 0 : Nat) : Int) % 1000) (by decide) rfl (by decide) (by decide) (by omega) (by omega) (by decide)
  refine ⟨this.1, ?_⟩
  have h2 := this.2
  rw [pbV, h2]; omega
theorem pst1_all {P : Va → Prop} {acc : List Tst} {s : Tst} (h : ∀ x ∈ acc, P x.v) (hs : P s.v) : ∀ x ∈ pst1 acc s, P x.v := by
  intro x hx
  rw [pst1] at hx
  split at hx
  · exact h x hx
  · split at hx
    · rename_i hc
      rcases List.mem_or_eq_of_mem_set hx with h1 | h1
      · exact h x h1
      · subst h1
        show P (acc.getD (acc.length - 1) tst0).v
        exact h _ (xe6 (by omega))
    · rcases List.mem_append.1 hx with h1 | h1
      · exact h x h1
      · rw [List.mem_singleton.1 h1]; exact hs
theorem pbRun_isP {m : List Nat} : ∀ (f k : Nat) (out : List Tst) (t : Int), f + k = 41 → isP 999 out → 0 ≤ t → t ≤ 439 * k → (0 < out.length → (out.getD (out.length - 1) tst0).hi ≤ t) → (isP 999 (pbRun m f k out t) ∧ (pbRun m f k out t).length ≤ out.length + f) ∧ (0 < (pbRun m f k out t).length → ((pbRun m f k out t).getD ((pbRun m f k out t).length - 1) tst0).hi ≤ 17999)
  | 0, k, out, t, hk, h, h0, ht, hl => ⟨⟨h, Nat.le_refl _⟩, fun hp => by have := hl hp; simp only [pbRun]; omega⟩
  | f + 1, k, out, t, hk, h, h0, ht, hl => by
    rw [pbRun]
    split
    · have hF := pbF_bd (m := m) (k := k) (t := t)
      have hE := pbE_bd (m := m) (k := k) (t := t)
      have hv := pbV_ok m k
      have h1 : isP 999 (An.pst1 out (pbS m k t)) := ⟨h.1.pst1 (by show 0 ≤ pbF m k t; omega) (by show pbE m k t ≤ 65536; omega) hv.1 fun hp => by have := hl hp; show _ ≤ pbF m k t; omega, pst1_all (P := fun v => 0 ≤ wt 3 v) h.2 hv.2⟩
      have h2 := pst1_last (l := out) (pbS_lt (m := m) (k := k) (t := t))
      have h3 := pbRun_isP (m := m) f (k + 1) _ (pbE m k t) (by omega) h1 (by omega) (by omega) fun _ => by rw [h2.2.1]; exact Int.le_refl _
      have h4 := pst1_len out (pbS m k t)
      exact ⟨⟨h3.1.1, by omega⟩, h3.2⟩
    · exact ⟨⟨h, by omega⟩, fun hp => by have := hl hp; omega⟩
theorem pbT_ok (m : List Nat) : isP 999 (pbT m) ∧ (pbT m).length ≤ 41 ∧ (0 < (pbT m).length → ((pbT m).getD ((pbT m).length - 1) tst0).hi ≤ 17999) := by
  have := pbRun_isP (m := m) 41 0 [] 0 rfl ⟨isG_nil, fun s hs => by cases hs⟩ (Int.le_refl _) (by decide) fun h => by cases h
  exact ⟨this.1.1, by have := this.1.2; simp at this; exact this, this.2⟩
/-! Thirds. -/
def thirdV (v : Va) : Int := (if v.f.n.l.length = 1 then ((v.f.n.l.getD 0 0 : Nat) : Int) else 0) * if v.f.d.l.length = 1 ∧ v.f.d.l.getD 0 0 = 1 then 3 else 1
theorem c_pay (a b n d : Int) (h1 : -9223372036854775808 ≤ n) (h2 : n ≤ 9223372036854775807) (h3 : -9223372036854775808 ≤ d) (h4 : d ≤ 9223372036854775807) :
  Ct Tryz.prog 57 [tI a, tI b, tI n, tI d] (tTs ⟨a, b, xc n d⟩) := by
 refine Ct.intro Tryz.func57 rfl Tryz.ntmps57 rfl ?_
 intro w F
 refine x6 ?_
 refine x8 ?_
 refine RE (xb4 (k := 8) (n := 8) (agg := true) zr41.1 zr41.2 rfl) trivial trivial ⟨rfl, trivial⟩ (x7 (by kernel_rfl) (x4 (x6 ?_)))
 refine x8 ?_
 refine R1 x3 rfl (R1 x3 rfl (R1 x3 rfl (R1 x3 rfl (R2 (xa0 (c_Cash n d h1 h2 h3 h4) fi22 rfl) rfl rfl (R3 (xc8 (r := tS [⟨1, false, tI a⟩, ⟨1, false, tI b⟩, ⟨6, true, tVa (xc n d)⟩]) (ts := [(0, tI a), (1, tI b), (2, tVa (xc n d))]) bu41 zr41.2 ⟨_, rfl⟩ rfl ⟨_, _, _, _, rfl, Up.f (fs := [⟨1, false, (tE (.int .i64 0))⟩, ⟨1, false, (tE (.int .i64 0))⟩, ⟨6, true, (tS [⟨1, false, (tE (.int .u8 0))⟩, ⟨4, true, (tS [⟨2, true, (tS [⟨1, false, (tE (.bool false))⟩, ⟨1, false, (tLm [])⟩])⟩, ⟨2, true, (tS [⟨1, false, (tE (.bool false))⟩, ⟨1, false, (tLm [])⟩])⟩])⟩, ⟨1, false, (tE (.int .i64 0))⟩])⟩]) (f := ⟨1, false, (tE (.int .i64 0))⟩) (fs' := [⟨1, false, tI a⟩, ⟨1, false, (tE (.int .i64 0))⟩, ⟨6, true, (tS [⟨1, false, (tE (.int .u8 0))⟩, ⟨4, true, (tS [⟨2, true, (tS [⟨1, false, (tE (.bool false))⟩, ⟨1, false, (tLm [])⟩])⟩, ⟨2, true, (tS [⟨1, false, (tE (.bool false))⟩, ⟨1, false, (tLm [])⟩])⟩])⟩, ⟨1, false, (tE (.int .i64 0))⟩])⟩]) 0 rfl rfl rfl, inferInstance, ⟨_, _, _, _, rfl, Up.f (fs := [⟨1, false, tI a⟩, ⟨1, false, (tE (.int .i64 0))⟩, ⟨6, true, (tS [⟨1, false, (tE (.int .u8 0))⟩, ⟨4, true, (tS [⟨2, true, (tS [⟨1, false, (tE (.bool false))⟩, ⟨1, false, (tLm [])⟩])⟩, ⟨2, true, (tS [⟨1, false, (tE (.bool false))⟩, ⟨1, false, (tLm [])⟩])⟩])⟩, ⟨1, false, (tE (.int .i64 0))⟩])⟩]) (f := ⟨1, false, (tE (.int .i64 0))⟩) (fs' := [⟨1, false, tI a⟩, ⟨1, false, tI b⟩, ⟨6, true, (tS [⟨1, false, (tE (.int .u8 0))⟩, ⟨4, true, (tS [⟨2, true, (tS [⟨1, false, (tE (.bool false))⟩, ⟨1, false, (tLm [])⟩])⟩, ⟨2, true, (tS [⟨1, false, (tE (.bool false))⟩, ⟨1, false, (tLm [])⟩])⟩])⟩, ⟨1, false, (tE (.int .i64 0))⟩])⟩]) 1 rfl rfl rfl, inferInstance, ⟨_, _, _, _, rfl, Up.f (fs := [⟨1, false, tI a⟩, ⟨1, false, tI b⟩, ⟨6, true, (tS [⟨1, false, (tE (.int .u8 0))⟩, ⟨4, true, (tS [⟨2, true, (tS [⟨1, false, (tE (.bool false))⟩, ⟨1, false, (tLm [])⟩])⟩, ⟨2, true, (tS [⟨1, false, (tE (.bool false))⟩, ⟨1, false, (tLm [])⟩])⟩])⟩, ⟨1, false, (tE (.int .i64 0))⟩])⟩]) (f := ⟨6, true, (tS [⟨1, false, (tE (.int .u8 0))⟩, ⟨4, true, (tS [⟨2, true, (tS [⟨1, false, (tE (.bool false))⟩, ⟨1, false, (tLm [])⟩])⟩, ⟨2, true, (tS [⟨1, false, (tE (.bool false))⟩, ⟨1, false, (tLm [])⟩])⟩])⟩, ⟨1, false, (tE (.int .i64 0))⟩])⟩) (fs' := [⟨1, false, tI a⟩, ⟨1, false, tI b⟩, ⟨6, true, tVa (xc n d)⟩]) 2 rfl rfl rfl, inferInstance, Le.refl⟩⟩⟩) rfl rfl rfl (RE (xa3 (es := 8) (agg := true) (0) ti41 rfl rfl rfl) ⟨rfl, rfl, trivial⟩ ⟨rfl, trivial⟩ trivial (x7 (by kernel_rfl) ?_)))))))
 refine x4 (xa1 ?_)
 exact xg4 Plain.mk' rfl ⟨_, _, _, _, _, rfl, rfl, ti41, Le.refl⟩
def exP : List Tst := [⟨0, 59, xc 100 1⟩, ⟨59, 90, xc 160 1⟩, ⟨90, 120, xc 130 1⟩, ⟨125, 200, xc 900 1⟩]
theorem c_example  :
  Ct Tryz.prog 30 [] (tL 8 true tTs exP) := by
 refine Ct.intro Tryz.func30 rfl Tryz.ntmps30 rfl ?_
 intro w F
 refine x6 ?_
 refine x8 ?_
 refine R1 x5 rfl (x7 (by kernel_rfl) (x4 (x6 ?_)))
 refine x8 ?_
 refine RE (xa0 (c_pay 0 59 100 1 (by decide) (by decide) (by decide) (by decide)) fi57 rfl) ⟨rfl, rfl, rfl, rfl, trivial⟩ trivial trivial (RE (xa0 (c_pay 59 90 160 1 (by decide) (by decide) (by decide) (by decide)) fi57 rfl) ⟨rfl, rfl, rfl, rfl, trivial⟩ trivial trivial (RE (xa0 (c_pay 90 120 130 1 (by decide) (by decide) (by decide) (by decide)) fi57 rfl) ⟨rfl, rfl, rfl, rfl, trivial⟩ trivial trivial (RE (xa0 (c_pay 125 200 900 1 (by decide) (by decide) (by decide) (by decide)) fi57 rfl) ⟨rfl, rfl, rfl, rfl, trivial⟩ trivial trivial (RE (xf7 (n := 4) (f := tTs) exP Tryz.underlying24 el41 zf41 rfl (fun _ => inferInstance) rfl rfl rfl) ⟨rfl, rfl, rfl, rfl, trivial⟩ trivial trivial (R1 x5 rfl (x7 (by kernel_rfl) (x4 ?_)))))))
 refine xa1 ?_
 exact xa4 Plain.mk' rfl rfl Le.refl
theorem c_Built09 (m : List Nat) (hm : ∀ i, m.getD i 0 < 65536) :
  Ct Tryz.prog 10 [tLm m] (tL 8 true tTs (pbT m)) := by
 refine Ct.intro Tryz.func10 rfl Tryz.ntmps10 rfl ?_
 intro w F
 refine C_len (s := 0) rfl (fun hl0 => ?_)
 refine x6 ?_
 refine x8 ?_
 refine R1 x5 rfl (x7 (by kernel_rfl) (x4 (x6 ?_)))
 refine x8 ?_
 refine RE (d_assignN (k := 3) 41 8 true rfl (fun h => by cases h)) trivial trivial ⟨rfl, trivial⟩ (x7 (by kernel_rfl) (x4 (x6 ?_)))
 refine x8 ?_
 refine R1 x5 rfl (x7 (by kernel_rfl) (x4 (x6 (x6 ?_))))
 refine x8 ?_
 refine R1 x5 rfl (x7 (by kernel_rfl) (x4 (xb3 ?_)))
 refine xe1 (fun (fm : (Nat) × (List Tst) × (Int)) => (fun (k : Nat) (xs : List Tst) (t : Int) => k ≤ 40 ∧ pbRun m (41 - k) k xs t = pbT m ∧ xs.length ≤ k ∧ 0 ≤ t ∧ t ≤ 439 * k) fm.1 fm.2.1 fm.2.2) (fun (fm : (Nat) × (List Tst) × (Int)) => (fun (k : Nat) (xs : List Tst) (t : Int) => upd (upd (upd (upd (fun _ => none) 0 (some (.val (tLm m)))) 3 (some (.own (.sl 3 8 0 xs.length)))) 4 (some (.val (tI t)))) 5 (some (.val (tI (3 * (k : Int)))))) fm.1 fm.2.1 fm.2.2) (fun (fm : (Nat) × (List Tst) × (Int)) => (fun (k : Nat) (xs : List Tst) (t : Int) => upd (fun _ => none) 3 (some (⟨41, 8, true, rV tTs xs⟩))) fm.1 fm.2.1 fm.2.2) (nm [3]) (fun (fm : (Nat) × (List Tst) × (Int)) => (fun (k : Nat) (xs : List Tst) (t : Int) => 41 - k) fm.1 fm.2.1 fm.2.2) ((0, [], 0)) (by dsimp only; exact ⟨Nat.zero_le _, rfl, Nat.le_refl _, by omega, by omega⟩) (Sub.int rfl (by first | omega | rfl | (dsimp only; omega)) (Sub.int rfl (by first | omega | rfl | (dsimp only; omega)) (Sub.cons rfl (Sub.cons rfl Sub.nil)))) ((SubK.consI rfl ImpK.refl) SubK.nil) (SupG.val (SupG.val (SupG.own rfl (SupG.val SupG.nil)))) (SupH.cons rfl (supJ xe5) SupH.nil) (lkOk rfl) ?_
 intro fm hI
 obtain ⟨k, xs, t⟩ := fm
 replace hI : k ≤ 40 ∧ pbRun m (41 - k) k xs t = pbT m ∧ xs.length ≤ k ∧ 0 ≤ t ∧ t ≤ 439 * k := hI
 show wc _ _ _ _ (upd (upd (upd (upd (fun _ => none) 0 (some (.val (tLm m)))) 3 (some (.own (.sl 3 8 0 xs.length)))) 4 (some (.val (tI t)))) 5 (some (.val (tI (3 * (k : Int)))))) (upd (fun _ => none) 3 (some (⟨41, 8, true, rV tTs xs⟩))) _
 obtain ⟨hk, hb, hxl, ht0, ht1⟩ := hI
 have m0 := hm (3 * k)
 have m1 := hm (3 * k + 1)
 have m2 := hm (3 * k + 2)
 have hF := pbF_bd (m := m) (k := k) (t := t)
 have hE := pbE_bd (m := m) (k := k) (t := t)
 refine x6 (x6 ?_)
 refine x8 ?_
 refine R1 x3 rfl (R2 (xb6 (wr64 (by omega) (by omega))) rfl rfl (R1 x3 rfl (R1 (xc4 Tryz.underlying22) rfl (R2 xd8 rfl rfl (R1 x3 rfl ?_)))))
 refine RGcaseD (t := 15) rfl (fun h18 => ?_) (fun h18 => ?_)
 ·
  refine RGon (decide_eq_true h18) rfl x3 rfl ⟨rfl, trivial⟩ trivial trivial (RGon (decide_eq_true h18) rfl xd8 rfl ⟨rfl, rfl, trivial⟩ trivial trivial (R2 (xb2 (decide_eq_true h18)) rfl rfl (x7 (by kernel_rfl) (x4 ?_))))
  refine xc0 rfl (fun h18_2 => ?_) (fun h18_2 => ?_)
  ·
   refine xa5 (x4 (x6 (xb3 (x6 ?_))))
   refine x8 ?_
   refine R1 x3 rfl (R1 x5 rfl (x7 (by kernel_rfl) (x4 ?_)))
   refine C_join (fun (f : Int) => f = pbF m k t) (fun (f : Int) => upd (upd (upd (upd (fun _ => none) 0 (some (.val (tLm m)))) 3 (some (.own (.sl 3 8 0 xs.length)))) 5 (some (.val (tI (3 * (k : Int)))))) 6 (some (.val (tI f)))) (fun (f : Int) => upd (fun _ => none) 3 (some (⟨41, 8, true, rV tTs xs⟩))) (nm [3]) ?_ ?_
   ·
    refine x6 ?_
    refine x8 ?_
    refine R1 x3 rfl (R1 x3 rfl (R2 (xb9 sl22 (3 * k) (by omega) (gN (by omega))) rfl rfl (R1 (xc5 ti46) rfl (R2 (d_remP (by omega) (by omega)) rfl rfl (R2 xe3 rfl rfl (x7 (by kernel_rfl) (x4 ?_)))))))
    refine xc0 rfl (fun h20 => ?_) (fun h20 => ?_)
    ·
     refine x8 ?_
     refine R1 x3 rfl (R1 x3 rfl (R1 x3 rfl (R2 (xb9 sl22 (3 * k) (by omega) (gN (by omega))) rfl rfl (R1 (xc5 ti46) rfl (R1 (xb1 Tryz.underlying3 (isS Tryz.underlying46) (wr64 (by omega) (by omega))) rfl (R2 (d_remP (by omega) (by omega)) rfl rfl (R2 (xb6 (wr64 (by omega) (by omega))) rfl rfl ?_)))))))
     refine R1 x5 rfl (x7 (by kernel_rfl) ?_)
     exact xc2 (_) (by rw [pbF, if_pos h20]) (Sub.int rfl (by first | omega | rfl | (dsimp only; omega)) (Sub.int rfl (by first | omega | rfl | (dsimp only; omega)) (Sub.cons rfl (Sub.cons rfl Sub.nil)))) ((SubK.consI rfl ImpK.refl) SubK.nil) (SupG.val (SupG.val (SupG.own rfl (SupG.val SupG.nil)))) (SupH.cons rfl (supJ xe5) SupH.nil) (lkOk rfl)
    ·
     refine xa5 ?_
     exact xc2 (_) (by rw [pbF, if_neg h20, Int.add_zero]) (Sub.int rfl (by first | omega | rfl | (dsimp only; omega)) (Sub.int rfl (by first | omega | rfl | (dsimp only; omega)) (Sub.cons rfl (Sub.cons rfl Sub.nil)))) ((SubK.consI rfl ImpK.refl) SubK.nil) (SupG.val (SupG.val (SupG.own rfl (SupG.val SupG.nil)))) (SupH.cons rfl (supJ xe5) SupH.nil) (lkOk rfl)
   ·
    intro f hf
    refine x6 ?_
    subst hf
    refine xd5 mixed ?_
    refine R1 x3 rfl (R2 (xb6 (wr64 (by omega) (by omega))) rfl rfl (R1 x3 rfl (R1 x3 rfl (R2 (xb6 (wr64 (by omega) (by omega))) rfl rfl (R2 (xb9 sl22 (3 * k + 1) (by omega) (gN (by omega))) rfl rfl (R1 (xc5 ti46) rfl (R1 (xb1 Tryz.underlying3 (isS Tryz.underlying46) (wr64 (by omega) (by omega))) rfl ?_)))))))
    refine R2 (d_remP (by omega) (by omega)) rfl rfl (R2 (xb6 (wr64 (by omega) (by omega))) rfl rfl (R1 x3 rfl (R1 x3 rfl (R2 (xb6 (wr64 (by omega) (by omega))) rfl rfl (R2 (xb9 sl22 (3 * k + 2) (by omega) (gN (by omega))) rfl rfl (R1 (xc5 ti46) rfl (R1 (xb1 Tryz.underlying3 (isS Tryz.underlying46) (wr64 (by omega) (by omega))) rfl ?_)))))))
    refine R2 (d_remP (by omega) (by omega)) rfl rfl (R2 (xa0 (c_Cash (((m.getD (3 * k + 2) 0 : Nat) : Int) % 1000) 3 (by omega) (by omega) (by decide) (by decide)) fi22 rfl) rfl rfl (RE (xb4 (k := 8) (n := 6) (agg := true) zr39.1 zr39.2 rfl) trivial trivial ⟨rfl, trivial⟩ (R1 x5 rfl (RE (xa3 (es := 6) (agg := true) (0) ti39 rfl rfl rfl) ⟨rfl, rfl, trivial⟩ ⟨rfl, trivial⟩ trivial (xd6 (by kernel_rfl) (x4 (x6 ?_)))))))
    refine x6 ?_
    refine x8 ?_
    refine R1 x3 rfl (R1 (d_lenO Tryz.underlying24) rfl (R2 (xd9 (wr64 (by omega) (by omega))) rfl rfl (R1 x5 rfl (x7 (by kernel_rfl) (x4 (x6 ?_))))))
    refine xd5 mixed ?_
    refine R1 x3 rfl (R2 d_geq rfl rfl (R1 x3 rfl ?_))
    refine RGcaseD (t := 59) rfl (fun h24 => ?_) (fun h24 => ?_)
    ·
     refine RGon (decide_eq_true h24) rfl x3 rfl ⟨rfl, trivial⟩ trivial trivial (RGon (decide_eq_true h24) rfl x3 rfl ⟨rfl, trivial⟩ trivial trivial (RGon (decide_eq_true h24) rfl (xd0 sl24 (by omega) (by omega) rfl) rfl ⟨rfl, rfl, trivial⟩ trivial trivial (RGon (decide_eq_true h24) rfl (x9 fo41_1 rfl) rfl ⟨rfl, trivial⟩ trivial trivial (RGon (decide_eq_true h24) rfl (d_loadF (es := 8) (o := 1) (xs.length - 1) ti3 (rV_getD (d := tst0) (by omega)) (At.g 1 rfl rfl) (by omega)) rfl ⟨rfl, trivial⟩ ⟨rfl, trivial⟩ trivial (RGon (decide_eq_true h24) rfl x3 rfl ⟨rfl, trivial⟩ trivial trivial (RGon (decide_eq_true h24) rfl xe3 rfl ⟨rfl, rfl, trivial⟩ trivial trivial (R2 (xb2 (decide_eq_true h24)) rfl rfl ?_)))))))
     refine R1 x3 rfl ?_
     refine RGcaseD (t := 68) rfl (fun h24_2 => ?_) (fun h24_2 => ?_)
     ·
      refine RGon (decide_eq_true h24_2) rfl x3 rfl ⟨rfl, trivial⟩ trivial trivial (RGon (decide_eq_true h24_2) rfl x3 rfl ⟨rfl, trivial⟩ trivial trivial (RGon (decide_eq_true h24_2) rfl (xd0 sl24 (by omega) (by omega) rfl) rfl ⟨rfl, rfl, trivial⟩ trivial trivial (RGon (decide_eq_true h24_2) rfl (x9 fo41_2 rfl) rfl ⟨rfl, trivial⟩ trivial trivial (RGon (decide_eq_true h24_2) rfl (d_loadF (es := 8) (o := 2) (xs.length - 1) ti39 (rV_getD (d := tst0) (by omega)) (At.g 2 rfl rfl) (by omega)) rfl ⟨rfl, trivial⟩ ⟨rfl, trivial⟩ trivial (RGon (decide_eq_true h24_2) rfl (xa8 (0) ti39 rfl rfl) rfl ⟨rfl, trivial⟩ ⟨rfl, trivial⟩ trivial (RGon (decide_eq_true h24_2) rfl (xa0 (c_SameValue _ _) fi32 rfl) rfl ⟨rfl, rfl, trivial⟩ trivial trivial (R2 (xb2 (decide_eq_true h24_2)) rfl rfl ?_)))))))
      refine xd6 (by kernel_rfl) (x4 ?_)
      refine xc0 rfl (fun h24_3 => ?_) (fun h24_3 => ?_)
      ·
       refine x8 ?_
       refine R1 x3 rfl (R1 x3 rfl (R1 x3 rfl (R2 (xd0 sl24 (by omega) (by omega) rfl) rfl rfl (R1 (x9 fo41_1 rfl) rfl (RE (d_storeF (es := 8) (o := 1) (t2 := tTs ⟨(xs.getD (xs.length - 1) tst0).lo, (pbS m k t).hi, (xs.getD (xs.length - 1) tst0).v⟩) (xs.length - 1) ti3 (rV_getD (d := tst0) (by omega)) (Up.g 1 rfl rfl rfl) (by omega) (rV_set rfl)) ⟨rfl, rfl, trivial⟩ ⟨rfl, trivial⟩ trivial (x7 (by kernel_rfl) (x4 ?_)))))))
       refine x8 ?_
       refine R1 x3 rfl (R1 x5 rfl (x7 (by kernel_rfl) (xc1 (x4 ?_))))
       refine x8 ?_
       refine R1 x3 rfl (R2 (xb6 (wr64 (by omega) (by omega))) rfl rfl (R1 x5 rfl (x7 (by kernel_rfl) ?_)))
       have hpx : pst1 xs (pbS m k t) = (xs.set (xs.length - 1) ⟨(xs.getD (xs.length - 1) tst0).lo, (pbS m k t).hi, (xs.getD (xs.length - 1) tst0).v⟩) := by
        rw [pst1, if_neg (by have := pbS_lt (m := m) (k := k) (t := t); omega), if_pos ⟨by omega, by show _ = pbF m k t; omega, h24_3⟩]
       exact xc2 ((k + 1, (xs.set (xs.length - 1) ⟨(xs.getD (xs.length - 1) tst0).lo, (pbS m k t).hi, (xs.getD (xs.length - 1) tst0).v⟩), pbE m k t)) ⟨(by dsimp only; exact ⟨by omega, by rw [← hpx]; exact pbRun_next hk hb ⟨by omega, by omega⟩, by rw [List.length_set]; omega, by omega, by omega⟩), (by dsimp only; omega)⟩ (Sub.int rfl (by first | omega | rfl | (dsimp only; omega)) (Sub.int rfl (by first | omega | rfl | (dsimp only; omega)) ((Sub.consI rfl (Imp.of (by dsimp only; rw [List.length_set]))) (Sub.cons rfl Sub.nil)))) ((SubK.consI rfl ImpK.refl) SubK.nil) (SupG.val (SupG.val (SupG.own rfl (SupG.val SupG.nil)))) (SupH.cons rfl (supJ xe5) SupH.nil) (lkOk rfl)
      ·
       refine x8 ?_
       refine R1 x3 rfl (R1 x3 rfl (R1 x3 rfl (RE (xa8 (0) ti39 rfl rfl) ⟨rfl, trivial⟩ ⟨rfl, trivial⟩ trivial (R3 (xc8 (r := tS [⟨1, false, tI (pbS m k t).lo⟩, ⟨1, false, tI (pbS m k t).hi⟩, ⟨6, true, tVa (pbS m k t).v⟩]) (ts := [(0, tI (pbS m k t).lo), (1, tI (pbS m k t).hi), (2, tVa (pbS m k t).v)]) bu41 zr41.2 ⟨_, rfl⟩ rfl ⟨_, _, _, _, rfl, Up.f (fs := [⟨1, false, (tE (.int .i64 0))⟩, ⟨1, false, (tE (.int .i64 0))⟩, ⟨6, true, (tS [⟨1, false, (tE (.int .u8 0))⟩, ⟨4, true, (tS [⟨2, true, (tS [⟨1, false, (tE (.bool false))⟩, ⟨1, false, (tLm [])⟩])⟩, ⟨2, true, (tS [⟨1, false, (tE (.bool false))⟩, ⟨1, false, (tLm [])⟩])⟩])⟩, ⟨1, false, (tE (.int .i64 0))⟩])⟩]) (f := ⟨1, false, (tE (.int .i64 0))⟩) (fs' := [⟨1, false, tI (pbS m k t).lo⟩, ⟨1, false, (tE (.int .i64 0))⟩, ⟨6, true, (tS [⟨1, false, (tE (.int .u8 0))⟩, ⟨4, true, (tS [⟨2, true, (tS [⟨1, false, (tE (.bool false))⟩, ⟨1, false, (tLm [])⟩])⟩, ⟨2, true, (tS [⟨1, false, (tE (.bool false))⟩, ⟨1, false, (tLm [])⟩])⟩])⟩, ⟨1, false, (tE (.int .i64 0))⟩])⟩]) 0 rfl rfl rfl, inferInstance, ⟨_, _, _, _, rfl, Up.f (fs := [⟨1, false, tI (pbS m k t).lo⟩, ⟨1, false, (tE (.int .i64 0))⟩, ⟨6, true, (tS [⟨1, false, (tE (.int .u8 0))⟩, ⟨4, true, (tS [⟨2, true, (tS [⟨1, false, (tE (.bool false))⟩, ⟨1, false, (tLm [])⟩])⟩, ⟨2, true, (tS [⟨1, false, (tE (.bool false))⟩, ⟨1, false, (tLm [])⟩])⟩])⟩, ⟨1, false, (tE (.int .i64 0))⟩])⟩]) (f := ⟨1, false, (tE (.int .i64 0))⟩) (fs' := [⟨1, false, tI (pbS m k t).lo⟩, ⟨1, false, tI (pbS m k t).hi⟩, ⟨6, true, (tS [⟨1, false, (tE (.int .u8 0))⟩, ⟨4, true, (tS [⟨2, true, (tS [⟨1, false, (tE (.bool false))⟩, ⟨1, false, (tLm [])⟩])⟩, ⟨2, true, (tS [⟨1, false, (tE (.bool false))⟩, ⟨1, false, (tLm [])⟩])⟩])⟩, ⟨1, false, (tE (.int .i64 0))⟩])⟩]) 1 rfl rfl rfl, inferInstance, ⟨_, _, _, _, rfl, Up.f (fs := [⟨1, false, tI (pbS m k t).lo⟩, ⟨1, false, tI (pbS m k t).hi⟩, ⟨6, true, (tS [⟨1, false, (tE (.int .u8 0))⟩, ⟨4, true, (tS [⟨2, true, (tS [⟨1, false, (tE (.bool false))⟩, ⟨1, false, (tLm [])⟩])⟩, ⟨2, true, (tS [⟨1, false, (tE (.bool false))⟩, ⟨1, false, (tLm [])⟩])⟩])⟩, ⟨1, false, (tE (.int .i64 0))⟩])⟩]) (f := ⟨6, true, (tS [⟨1, false, (tE (.int .u8 0))⟩, ⟨4, true, (tS [⟨2, true, (tS [⟨1, false, (tE (.bool false))⟩, ⟨1, false, (tLm [])⟩])⟩, ⟨2, true, (tS [⟨1, false, (tE (.bool false))⟩, ⟨1, false, (tLm [])⟩])⟩])⟩, ⟨1, false, (tE (.int .i64 0))⟩])⟩) (fs' := [⟨1, false, tI (pbS m k t).lo⟩, ⟨1, false, tI (pbS m k t).hi⟩, ⟨6, true, tVa (pbS m k t).v⟩]) 2 rfl rfl rfl, inferInstance, Le.refl⟩⟩⟩) rfl rfl rfl (R1 (xf7 (n := 1) (f := tTs) [(pbS m k t)] Tryz.underlying24 el41 zf41 rfl (fun _ => inferInstance) rfl rfl rfl) rfl (RE (xf6 (k := 3) (k' := 88) (f := tTs) (ys := [(pbS m k t)]) (ts' := rV tTs (xs ++ [(pbS m k t)])) Tryz.underlying24 el41 zf41 rfl rfl (fun _ => inferInstance) rV_len (by simp; omega) (by simp; omega) (by simp [rV]) (n' := xs.length + 1) rfl) ⟨rfl, rfl, trivial⟩ ⟨rfl, trivial⟩ ⟨rfl, trivial⟩ (R1 x5 rfl ?_)))))))
       refine x7 (by kernel_rfl) (x4 ?_)
       refine x8 ?_
       refine R1 x3 rfl (R1 x5 rfl (x7 (by kernel_rfl) (xc1 (x4 ?_))))
       refine x8 ?_
       refine R1 x3 rfl (R2 (xb6 (wr64 (by omega) (by omega))) rfl rfl (R1 x5 rfl (x7 (by kernel_rfl) ?_)))
       have hpx : pst1 xs (pbS m k t) = xs ++ [(pbS m k t)] := by
        rw [pst1, if_neg (by have := pbS_lt (m := m) (k := k) (t := t); omega), if_neg (fun h => h24_3 h.2.2)]
       exact K_famR (l := [3]) (fun j => cond (Nat.beq j 3) 88 (j)) ((k + 1, xs ++ [(pbS m k t)], pbE m k t)) ⟨(by dsimp only; exact ⟨by omega, by rw [← hpx]; exact pbRun_next hk hb ⟨by omega, by omega⟩, by rw [List.length_append]; simp; omega, by omega, by omega⟩), (by dsimp only; omega)⟩ (SubR.int rfl (by first | omega | rfl | (dsimp only; omega)) (SubR.int rfl (by first | omega | rfl | (dsimp only; omega)) ((SubR.consI rfl (Imp.of (by dsimp only; rw [List.length_append]; rfl))) (SubR.cons rfl SubR.nil)))) ((SubKR.consI rfl (ImpK.of ren_rV.symm)) SubKR.nil) (SupG.val (SupG.val (SupG.own rfl (SupG.val SupG.nil)))) (SupH.cons rfl (supJ xe5) SupH.nil) (lkOk rfl) rfl rfl (fun _ h => by cases h)
     ·
      refine RGoff (decide_eq_false h24_2) rfl rfl (RGoff (decide_eq_false h24_2) rfl rfl (RGoff (decide_eq_false h24_2) rfl rfl (RGoff (decide_eq_false h24_2) rfl rfl (RGoff (decide_eq_false h24_2) rfl rfl (RGoff (decide_eq_false h24_2) rfl rfl (RGoff (decide_eq_false h24_2) rfl rfl (R2 (xb0 (decide_eq_false h24_2)) rfl rfl ?_)))))))
      refine xd6 (by kernel_rfl) (x4 (C_bF rfl rfl ?_))
      refine x8 ?_
      refine R1 x3 rfl (R1 x3 rfl (R1 x3 rfl (RE (xa8 (0) ti39 rfl rfl) ⟨rfl, trivial⟩ ⟨rfl, trivial⟩ trivial (R3 (xc8 (r := tS [⟨1, false, tI (pbS m k t).lo⟩, ⟨1, false, tI (pbS m k t).hi⟩, ⟨6, true, tVa (pbS m k t).v⟩]) (ts := [(0, tI (pbS m k t).lo), (1, tI (pbS m k t).hi), (2, tVa (pbS m k t).v)]) bu41 zr41.2 ⟨_, rfl⟩ rfl ⟨_, _, _, _, rfl, Up.f (fs := [⟨1, false, (tE (.int .i64 0))⟩, ⟨1, false, (tE (.int .i64 0))⟩, ⟨6, true, (tS [⟨1, false, (tE (.int .u8 0))⟩, ⟨4, true, (tS [⟨2, true, (tS [⟨1, false, (tE (.bool false))⟩, ⟨1, false, (tLm [])⟩])⟩, ⟨2, true, (tS [⟨1, false, (tE (.bool false))⟩, ⟨1, false, (tLm [])⟩])⟩])⟩, ⟨1, false, (tE (.int .i64 0))⟩])⟩]) (f := ⟨1, false, (tE (.int .i64 0))⟩) (fs' := [⟨1, false, tI (pbS m k t).lo⟩, ⟨1, false, (tE (.int .i64 0))⟩, ⟨6, true, (tS [⟨1, false, (tE (.int .u8 0))⟩, ⟨4, true, (tS [⟨2, true, (tS [⟨1, false, (tE (.bool false))⟩, ⟨1, false, (tLm [])⟩])⟩, ⟨2, true, (tS [⟨1, false, (tE (.bool false))⟩, ⟨1, false, (tLm [])⟩])⟩])⟩, ⟨1, false, (tE (.int .i64 0))⟩])⟩]) 0 rfl rfl rfl, inferInstance, ⟨_, _, _, _, rfl, Up.f (fs := [⟨1, false, tI (pbS m k t).lo⟩, ⟨1, false, (tE (.int .i64 0))⟩, ⟨6, true, (tS [⟨1, false, (tE (.int .u8 0))⟩, ⟨4, true, (tS [⟨2, true, (tS [⟨1, false, (tE (.bool false))⟩, ⟨1, false, (tLm [])⟩])⟩, ⟨2, true, (tS [⟨1, false, (tE (.bool false))⟩, ⟨1, false, (tLm [])⟩])⟩])⟩, ⟨1, false, (tE (.int .i64 0))⟩])⟩]) (f := ⟨1, false, (tE (.int .i64 0))⟩) (fs' := [⟨1, false, tI (pbS m k t).lo⟩, ⟨1, false, tI (pbS m k t).hi⟩, ⟨6, true, (tS [⟨1, false, (tE (.int .u8 0))⟩, ⟨4, true, (tS [⟨2, true, (tS [⟨1, false, (tE (.bool false))⟩, ⟨1, false, (tLm [])⟩])⟩, ⟨2, true, (tS [⟨1, false, (tE (.bool false))⟩, ⟨1, false, (tLm [])⟩])⟩])⟩, ⟨1, false, (tE (.int .i64 0))⟩])⟩]) 1 rfl rfl rfl, inferInstance, ⟨_, _, _, _, rfl, Up.f (fs := [⟨1, false, tI (pbS m k t).lo⟩, ⟨1, false, tI (pbS m k t).hi⟩, ⟨6, true, (tS [⟨1, false, (tE (.int .u8 0))⟩, ⟨4, true, (tS [⟨2, true, (tS [⟨1, false, (tE (.bool false))⟩, ⟨1, false, (tLm [])⟩])⟩, ⟨2, true, (tS [⟨1, false, (tE (.bool false))⟩, ⟨1, false, (tLm [])⟩])⟩])⟩, ⟨1, false, (tE (.int .i64 0))⟩])⟩]) (f := ⟨6, true, (tS [⟨1, false, (tE (.int .u8 0))⟩, ⟨4, true, (tS [⟨2, true, (tS [⟨1, false, (tE (.bool false))⟩, ⟨1, false, (tLm [])⟩])⟩, ⟨2, true, (tS [⟨1, false, (tE (.bool false))⟩, ⟨1, false, (tLm [])⟩])⟩])⟩, ⟨1, false, (tE (.int .i64 0))⟩])⟩) (fs' := [⟨1, false, tI (pbS m k t).lo⟩, ⟨1, false, tI (pbS m k t).hi⟩, ⟨6, true, tVa (pbS m k t).v⟩]) 2 rfl rfl rfl, inferInstance, Le.refl⟩⟩⟩) rfl rfl rfl (R1 (xf7 (n := 1) (f := tTs) [(pbS m k t)] Tryz.underlying24 el41 zf41 rfl (fun _ => inferInstance) rfl rfl rfl) rfl (RE (xf6 (k := 3) (k' := 88) (f := tTs) (ys := [(pbS m k t)]) (ts' := rV tTs (xs ++ [(pbS m k t)])) Tryz.underlying24 el41 zf41 rfl rfl (fun _ => inferInstance) rV_len (by simp; omega) (by simp; omega) (by simp [rV]) (n' := xs.length + 1) rfl) ⟨rfl, rfl, trivial⟩ ⟨rfl, trivial⟩ ⟨rfl, trivial⟩ (R1 x5 rfl ?_)))))))
      refine x7 (by kernel_rfl) (x4 ?_)
      refine x8 ?_
      refine R1 x3 rfl (R1 x5 rfl (x7 (by kernel_rfl) (xc1 (x4 ?_))))
      refine x8 ?_
      refine R1 x3 rfl (R2 (xb6 (wr64 (by omega) (by omega))) rfl rfl (R1 x5 rfl (x7 (by kernel_rfl) ?_)))
      have hpx : pst1 xs (pbS m k t) = xs ++ [(pbS m k t)] := by
       rw [pst1, if_neg (by have := pbS_lt (m := m) (k := k) (t := t); omega), if_neg (fun h => h24_2 (by have := h.2.1; exact this))]
      exact K_famR (l := [3]) (fun j => cond (Nat.beq j 3) 88 (j)) ((k + 1, xs ++ [(pbS m k t)], pbE m k t)) ⟨(by dsimp only; exact ⟨by omega, by rw [← hpx]; exact pbRun_next hk hb ⟨by omega, by omega⟩, by rw [List.length_append]; simp; omega, by omega, by omega⟩), (by dsimp only; omega)⟩ (SubR.int rfl (by first | omega | rfl | (dsimp only; omega)) (SubR.int rfl (by first | omega | rfl | (dsimp only; omega)) ((SubR.consI rfl (Imp.of (by dsimp only; rw [List.length_append]; rfl))) (SubR.cons rfl SubR.nil)))) ((SubKR.consI rfl (ImpK.of ren_rV.symm)) SubKR.nil) (SupG.val (SupG.val (SupG.own rfl (SupG.val SupG.nil)))) (SupH.cons rfl (supJ xe5) SupH.nil) (lkOk rfl) rfl rfl (fun _ h => by cases h)
    ·
     refine RGoff (decide_eq_false h24) rfl rfl (RGoff (decide_eq_false h24) rfl rfl (RGoff (decide_eq_false h24) rfl rfl (RGoff (decide_eq_false h24) rfl rfl (RGoff (decide_eq_false h24) rfl rfl (RGoff (decide_eq_false h24) rfl rfl (RGoff (decide_eq_false h24) rfl rfl (R2 (xb0 (decide_eq_false h24)) rfl rfl ?_)))))))
     refine R1 x3 rfl (RGoff0 rfl rfl (RGoff0 rfl rfl (RGoff0 rfl rfl (RGoff0 rfl rfl (RGoff0 rfl rfl (RGoff0 rfl rfl (RGoff0 rfl rfl ?_)))))))
     refine R2 (xb0 rfl) rfl rfl (xd6 (by kernel_rfl) (x4 (C_bF rfl rfl ?_)))
     refine x8 ?_
     refine R1 x3 rfl (R1 x3 rfl (R1 x3 rfl (RE (xa8 (0) ti39 rfl rfl) ⟨rfl, trivial⟩ ⟨rfl, trivial⟩ trivial (R3 (xc8 (r := tS [⟨1, false, tI (pbS m k t).lo⟩, ⟨1, false, tI (pbS m k t).hi⟩, ⟨6, true, tVa (pbS m k t).v⟩]) (ts := [(0, tI (pbS m k t).lo), (1, tI (pbS m k t).hi), (2, tVa (pbS m k t).v)]) bu41 zr41.2 ⟨_, rfl⟩ rfl ⟨_, _, _, _, rfl, Up.f (fs := [⟨1, false, (tE (.int .i64 0))⟩, ⟨1, false, (tE (.int .i64 0))⟩, ⟨6, true, (tS [⟨1, false, (tE (.int .u8 0))⟩, ⟨4, true, (tS [⟨2, true, (tS [⟨1, false, (tE (.bool false))⟩, ⟨1, false, (tLm [])⟩])⟩, ⟨2, true, (tS [⟨1, false, (tE (.bool false))⟩, ⟨1, false, (tLm [])⟩])⟩])⟩, ⟨1, false, (tE (.int .i64 0))⟩])⟩]) (f := ⟨1, false, (tE (.int .i64 0))⟩) (fs' := [⟨1, false, tI (pbS m k t).lo⟩, ⟨1, false, (tE (.int .i64 0))⟩, ⟨6, true, (tS [⟨1, false, (tE (.int .u8 0))⟩, ⟨4, true, (tS [⟨2, true, (tS [⟨1, false, (tE (.bool false))⟩, ⟨1, false, (tLm [])⟩])⟩, ⟨2, true, (tS [⟨1, false, (tE (.bool false))⟩, ⟨1, false, (tLm [])⟩])⟩])⟩, ⟨1, false, (tE (.int .i64 0))⟩])⟩]) 0 rfl rfl rfl, inferInstance, ⟨_, _, _, _, rfl, Up.f (fs := [⟨1, false, tI (pbS m k t).lo⟩, ⟨1, false, (tE (.int .i64 0))⟩, ⟨6, true, (tS [⟨1, false, (tE (.int .u8 0))⟩, ⟨4, true, (tS [⟨2, true, (tS [⟨1, false, (tE (.bool false))⟩, ⟨1, false, (tLm [])⟩])⟩, ⟨2, true, (tS [⟨1, false, (tE (.bool false))⟩, ⟨1, false, (tLm [])⟩])⟩])⟩, ⟨1, false, (tE (.int .i64 0))⟩])⟩]) (f := ⟨1, false, (tE (.int .i64 0))⟩) (fs' := [⟨1, false, tI (pbS m k t).lo⟩, ⟨1, false, tI (pbS m k t).hi⟩, ⟨6, true, (tS [⟨1, false, (tE (.int .u8 0))⟩, ⟨4, true, (tS [⟨2, true, (tS [⟨1, false, (tE (.bool false))⟩, ⟨1, false, (tLm [])⟩])⟩, ⟨2, true, (tS [⟨1, false, (tE (.bool false))⟩, ⟨1, false, (tLm [])⟩])⟩])⟩, ⟨1, false, (tE (.int .i64 0))⟩])⟩]) 1 rfl rfl rfl, inferInstance, ⟨_, _, _, _, rfl, Up.f (fs := [⟨1, false, tI (pbS m k t).lo⟩, ⟨1, false, tI (pbS m k t).hi⟩, ⟨6, true, (tS [⟨1, false, (tE (.int .u8 0))⟩, ⟨4, true, (tS [⟨2, true, (tS [⟨1, false, (tE (.bool false))⟩, ⟨1, false, (tLm [])⟩])⟩, ⟨2, true, (tS [⟨1, false, (tE (.bool false))⟩, ⟨1, false, (tLm [])⟩])⟩])⟩, ⟨1, false, (tE (.int .i64 0))⟩])⟩]) (f := ⟨6, true, (tS [⟨1, false, (tE (.int .u8 0))⟩, ⟨4, true, (tS [⟨2, true, (tS [⟨1, false, (tE (.bool false))⟩, ⟨1, false, (tLm [])⟩])⟩, ⟨2, true, (tS [⟨1, false, (tE (.bool false))⟩, ⟨1, false, (tLm [])⟩])⟩])⟩, ⟨1, false, (tE (.int .i64 0))⟩])⟩) (fs' := [⟨1, false, tI (pbS m k t).lo⟩, ⟨1, false, tI (pbS m k t).hi⟩, ⟨6, true, tVa (pbS m k t).v⟩]) 2 rfl rfl rfl, inferInstance, Le.refl⟩⟩⟩) rfl rfl rfl (R1 (xf7 (n := 1) (f := tTs) [(pbS m k t)] Tryz.underlying24 el41 zf41 rfl (fun _ => inferInstance) rfl rfl rfl) rfl (RE (xf6 (k := 3) (k' := 88) (f := tTs) (ys := [(pbS m k t)]) (ts' := rV tTs (xs ++ [(pbS m k t)])) Tryz.underlying24 el41 zf41 rfl rfl (fun _ => inferInstance) rV_len (by simp; omega) (by simp; omega) (by simp [rV]) (n' := xs.length + 1) rfl) ⟨rfl, rfl, trivial⟩ ⟨rfl, trivial⟩ ⟨rfl, trivial⟩ (R1 x5 rfl ?_)))))))
     refine x7 (by kernel_rfl) (x4 ?_)
     refine x8 ?_
     refine R1 x3 rfl (R1 x5 rfl (x7 (by kernel_rfl) (xc1 (x4 ?_))))
     refine x8 ?_
     refine R1 x3 rfl (R2 (xb6 (wr64 (by omega) (by omega))) rfl rfl (R1 x5 rfl (x7 (by kernel_rfl) ?_)))
     have hpx : pst1 xs (pbS m k t) = xs ++ [(pbS m k t)] := by
      rw [pst1, if_neg (by have := pbS_lt (m := m) (k := k) (t := t); omega), if_neg (by omega)]
     exact K_famR (l := [3]) (fun j => cond (Nat.beq j 3) 88 (j)) ((k + 1, xs ++ [(pbS m k t)], pbE m k t)) ⟨(by dsimp only; exact ⟨by omega, by rw [← hpx]; exact pbRun_next hk hb ⟨by omega, by omega⟩, by rw [List.length_append]; simp; omega, by omega, by omega⟩), (by dsimp only; omega)⟩ (SubR.int rfl (by first | omega | rfl | (dsimp only; omega)) (SubR.int rfl (by first | omega | rfl | (dsimp only; omega)) ((SubR.consI rfl (Imp.of (by dsimp only; rw [List.length_append]; rfl))) (SubR.cons rfl SubR.nil)))) ((SubKR.consI rfl (ImpK.of ren_rV.symm)) SubKR.nil) (SupG.val (SupG.val (SupG.own rfl (SupG.val SupG.nil)))) (SupH.cons rfl (supJ xe5) SupH.nil) (lkOk rfl) rfl rfl (fun _ h => by cases h)
  ·
   refine xd4 (xb8 (xb8 (xe0 (x4 (x6 ?_)))))
   refine x8 ?_
   refine R1 x3 rfl (RE (d_assignS (f := tTs) (xs := xs) (fun _ h => h) (rV_all rfl) rfl) ⟨rfl, trivial⟩ ⟨rfl, trivial⟩ trivial (x7 (by kernel_rfl) (x4 (xa1 ?_))))
   exact xa4 Plain.mk' rfl rfl (Le.of (by rw [pbRun_stop hk hb (by omega)]))
 ·
  refine RGoff (decide_eq_false h18) rfl rfl (RGoff (decide_eq_false h18) rfl rfl (R2 (xb0 (decide_eq_false h18)) rfl rfl (x7 (by kernel_rfl) (x4 (C_bF rfl rfl (xd4 (xb8 ?_)))))))
  refine xb8 (xe0 (x4 (x6 ?_)))
  refine x8 ?_
  refine R1 x3 rfl (RE (d_assignS (f := tTs) (xs := xs) (fun _ h => h) (rV_all rfl) rfl) ⟨rfl, trivial⟩ ⟨rfl, trivial⟩ trivial (x7 (by kernel_rfl) (x4 (xa1 ?_))))
  exact xa4 Plain.mk' rfl rfl (Le.of (by rw [pbRun_stop hk hb (by omega)]))
def thN (v : Va) : Int := if v.f.n.l.length = 1 then ((v.f.n.l.getD 0 0 : Nat) : Int) else 0
end An.S
