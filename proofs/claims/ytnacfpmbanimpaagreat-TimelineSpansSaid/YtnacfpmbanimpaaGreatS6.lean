/- Part 6 of a proof: P4, P6, P8, P10. -/
import Derived.Test.YtnacfpmbanimpaaGreatS5
/- Law 5: what Built makes; contracts at timelines of one kind; the examples of the chapter. -/
namespace An.S
open Go Go.Proofs An
set_option maxHeartbeats 2000000
set_option maxRecDepth 100000
theorem fi13 : FnI Tryz.prog 13 := ⟨_, Tryz.func13, by kernel_rfl, rfl⟩
theorem fi17 : FnI Tryz.prog 17 := ⟨_, Tryz.func17, by kernel_rfl, rfl⟩
theorem fi21 : FnI Tryz.prog 21 := ⟨_, Tryz.func21, by kernel_rfl, rfl⟩
theorem fi22 : FnI Tryz.prog 22 := ⟨_, Tryz.func22, by kernel_rfl, rfl⟩
theorem fi24 : FnI Tryz.prog 24 := ⟨_, Tryz.func24, by kernel_rfl, rfl⟩
theorem fi32 : FnI Tryz.prog 32 := ⟨_, Tryz.func32, by kernel_rfl, rfl⟩
theorem fi34 : FnI Tryz.prog 34 := ⟨_, Tryz.func34, by kernel_rfl, rfl⟩
theorem fi35 : FnI Tryz.prog 35 := ⟨_, Tryz.func35, by kernel_rfl, rfl⟩
theorem fi37 : FnI Tryz.prog 37 := ⟨_, Tryz.func37, by kernel_rfl, rfl⟩
theorem fi43 : FnI Tryz.prog 43 := ⟨_, Tryz.func43, by kernel_rfl, rfl⟩
theorem fi44 : FnI Tryz.prog 44 := ⟨_, Tryz.func44, by kernel_rfl, rfl⟩
theorem fi45 : FnI Tryz.prog 45 := ⟨_, Tryz.func45, by kernel_rfl, rfl⟩
def plW : List Int := [0, 84, 42, -63, 140, 786444, -84, 92358976733184]
def tB5 : Int := 92358976733184
theorem plV_ok (n : Nat) : gOk 2 84 tB5 (plV n) := by
  have key : ∀ m : Fin 8, kfr (plP.getD m.val (0, 1)).1 (plP.getD m.val (0, 1)).2 = Rat.divInt (plW.getD m.val 0) 84 ∧ -92358976733184 ≤ plW.getD m.val 0 ∧ plW.getD m.val 0 ≤ 92358976733184 := by decide +kernel
  have h := key ⟨n % 8, Nat.mod_lt _ (by decide)⟩
  have e : kfr (plQ n).1 (plQ n).2 = Rat.divInt (plW.getD (n % 8) 0) 84 := h.1
  rw [plV, e]
  exact gOk.mk (.inl rfl) (by decide) (by decide) h.2.1 h.2.2 (by decide)
abbrev isT (l : List Tst) : Prop := isG 2 84 tB5 l
/-- Two ascending lists with the same members. -/
theorem asc_eq : ∀ {a b : List Int}, a.Pairwise (· < ·) → b.Pairwise (· < ·) → (∀ x, x ∈ a ↔ x ∈ b) → a = b
  | [], [], _, _, _ => rfl
  | [], y :: s, _, _, h => absurd ((h y).2 (List.mem_cons_self ..)) (List.not_mem_nil)
  | x :: r, [], _, _, h => absurd ((h x).1 (List.mem_cons_self ..)) (List.not_mem_nil)
  | x :: r, y :: s, ha, hb, h => by
    have pa := List.pairwise_cons.1 ha
    have pb := List.pairwise_cons.1 hb
    have hxy : x = y := by
      rcases List.mem_cons.1 ((h x).1 (List.mem_cons_self ..)) with e | h1
      · exact e
      · rcases List.mem_cons.1 ((h y).2 (List.mem_cons_self ..)) with e | h2
        · exact e.symm
        · have := pa.1 y h2; have := pb.1 x h1; omega
    subst hxy
    congr 1
    refine asc_eq pa.2 pb.2 fun z => ⟨fun hz => ?_, fun hz => ?_⟩
    · rcases List.mem_cons.1 ((h z).1 (List.mem_cons_of_mem _ hz)) with e | h1
      · have := pa.1 z hz; omega
      · exact h1
    · rcases List.mem_cons.1 ((h z).2 (List.mem_cons_of_mem _ hz)) with e | h1
      · have := pb.1 z hz; omega
      · exact h1
theorem brd_eq {xs l : List Int} (h : l.Pairwise (· < ·)) (hm : ∀ x, x ∈ l ↔ x ∈ xs) : brd xs = l := asc_eq (brd_spec xs).1 h fun x => ((brd_spec xs).2 x).trans (hm x).symm
/-! Contracts. -/
section
variable {K : Nat} {D B : Int} {l a b : List Tst}
theorem isG.kind (ha : isG K D B a) (hb : isG K D B b) : jnC a b := by
  refine ⟨⟨ha.1, hb.1⟩, fun h => h.2.2 ?_⟩
  rw [(ha.2 _ (xf0 (l := a) (i := 0) h.1)).1.2.1, (hb.2 _ (xf0 (l := b) (i := 0) h.2.1)).1.2.1]
theorem c_RightG (h : isG K D B l) : Ct Tryz.prog 14 [tL 8 true tTs l] (tB true) := by
  have := c_TRight l h.dig
  rw [h.1] at this; exact this
theorem c_CutG (x y : Int) (h : isG K D B l) (hl : l.length ≤ 200000) (hxy : Sn.ok ⟨x, y⟩ = true) : Ct Tryz.prog 20 [tL 8 true tTs l, tI x, tI y] (tT [tL 8 true tTs (cutT l x y), tI 0]) := by
  have := c_Cut l x y (by omega) h.dig
  rw [if_pos ⟨h.1, hxy⟩, if_pos ⟨h.1, hxy⟩] at this; exact this
theorem c_WithoutG (x y : Int) (h : isG K D B l) (hl : l.length ≤ 200000) (hxy : Sn.ok ⟨x, y⟩ = true) : Ct Tryz.prog 21 [tL 8 true tTs l, tI x, tI y] (tT [tL 8 true tTs (woT l x y), tI 0]) := by
  have := c_Without l x y hl h.dig
  rw [if_pos ⟨h.1, hxy⟩, if_pos ⟨h.1, hxy⟩] at this; exact this
theorem c_JoinG (ha : isG K D B a) (hb : isG K D B b) (hla : a.length ≤ 200000) (hlb : b.length ≤ 200000) : Ct Tryz.prog 13 [tL 8 true tTs a, tL 8 true tTs b] (tT [tL 8 true tTs (jnT a b), tI 0]) := by
  have := c_TJoin a b hla hlb ha.dig hb.dig
  rw [if_pos (ha.kind hb), if_pos (ha.kind hb)] at this; exact this
theorem c_SumG (x y : Int) (hK : K = 2 ∨ K = 3) (hD : 0 < D) (hDb : D ≤ 9223372036854775807) (hB0 : 0 ≤ B) (hB : B ≤ 140737488355327) (h : isG K D B l) (hl : l.length ≤ 200000) (hxy : Sn.ok ⟨x, y⟩ = true) : Ct Tryz.prog 24 [tL 8 true tTs l, tI x, tI y] (tT [tFr (fr (Rat.divInt (gS (wt D) l x y) D)), tI 0]) := by
  have h2 := h.sum hK hD hDb hB0 hB hxy
  have := c_TSum l x y (by omega) h.dig
  rw [if_pos h2.1, if_pos h2.1, h2.2] at this; exact this
theorem c_CoversG (h : isG K D B l) (hl : l.length ≤ 200000) : Ct Tryz.prog 34 [tL 8 true tTs l] (tL 2 true tSn (cvT l)) := by
  have := c_Covers l hl h.dig
  rw [if_pos h.1] at this; exact this
theorem c_ChangesG (h : isG K D B l) (hl : l.length ≤ 200000) : Ct Tryz.prog 35 [tL 8 true tTs l] (tL 1 false tI (bds [l])) := by
  have := c_Changes l hl h.dig
  rw [if_pos h.1] at this; exact this
theorem c_DiffG (ha : isG K D B a) (hb : isG K D B b) (hla : a.length ≤ 200000) (hlb : b.length ≤ 200000) : Ct Tryz.prog 32 [tL 8 true tTs a, tL 8 true tTs b] (tT [tL 2 true tSn (dfS a b), tI 0]) := by
  have := c_TDiff a b hla hlb ha.dig hb.dig
  rw [if_pos ⟨ha.1, hb.1⟩, if_pos ⟨ha.1, hb.1⟩] at this; exact this
theorem c_AtG (d : Int) (h : isG K D B l) (hl : l.length ≤ 200000) : Ct Tryz.prog 17 [tL 8 true tTs l, tI d] (tT [tVa ((valT l d).getD An.va0), tB (valT l d).isSome]) := by
  have := c_At l d (by omega) h.dig
  rw [atR, if_pos h.1] at this; exact this
end
theorem c_sameFv (f g : Fr) (e : f = g) : Ct Tryz.prog 26 [tFr f, tFr g] (tB true) := by
  have h := c_SameFrac f g
  rw [decide_eq_true e] at h; exact h
theorem c_sameTv (u w : List Tst) (e : u = w) : Ct Tryz.prog 22 [tL 8 true tTs u, tL 8 true tTs w] (tB true) := by
  have h := c_SameSteps u w
  rw [decide_eq_true e] at h; exact h
theorem c_sameSv (u w : List Sn) (e : u = w) : Ct Tryz.prog 37 [tL 2 true tSn u, tL 2 true tSn w] (tB true) := by
  have h := c_SameSpans u w
  rw [decide_eq_true e] at h; exact h
theorem c_sameIv (u w : List Int) (e : u = w) : Ct Tryz.prog 45 [tL 1 false tI u, tL 1 false tI w] (tB true) := by
  have h := c_SameInts u w
  rw [decide_eq_true e] at h; exact h
theorem c_sameVv (u w : Va) (e : u = w) : Ct Tryz.prog 18 [tVa u, tVa w] (tB true) := by
  have h := c_SameValue u w
  rw [decide_eq_true e] at h; exact h
/-! The examples of the chapter. -/
def xv (n d : Int) : Va := ⟨2, fr (kfr n d), 0⟩
def exA : List Tst := [⟨0, 10, xv 1 2⟩, ⟨10, 30, xv 1 1⟩]
def exB : List Tst := [⟨8, 12, xv 0 1⟩]
def exC : List Tst := [⟨10, 12, xv 1 2⟩]
theorem xv_ok : gOk 2 84 tB5 (xv 1 2) ∧ gOk 2 84 tB5 (xv 1 1) ∧ gOk 2 84 tB5 (xv 0 1) := by
  have e1 : kfr 1 2 = Rat.divInt 42 84 := by decide +kernel
  have e2 : kfr 1 1 = Rat.divInt 84 84 := by decide +kernel
  have e3 : kfr 0 1 = Rat.divInt 0 84 := by decide +kernel
  rw [xv, xv, xv, e1, e2, e3]
  exact ⟨gOk.mk (.inl rfl) (by decide) (by decide) (by decide) (by decide) (by decide), gOk.mk (.inl rfl) (by decide) (by decide) (by decide) (by decide) (by decide), gOk.mk (.inl rfl) (by decide) (by decide) (by decide) (by decide) (by decide)⟩
theorem exA_ok : isT exA := ⟨by decide +kernel, fun s hs => by
  simp only [exA, List.mem_cons, List.not_mem_nil, or_false] at hs
  rcases hs with rfl | rfl
  · exact xv_ok.1
  · exact xv_ok.2.1⟩
theorem exB_ok : isT exB := ⟨by decide +kernel, fun s hs => by
  simp only [exB, List.mem_cons, List.not_mem_nil, or_false] at hs
  rcases hs with rfl
  exact xv_ok.2.2⟩
theorem exC_ok : isT exC := ⟨by decide +kernel, fun s hs => by
  simp only [exC, List.mem_cons, List.not_mem_nil, or_false] at hs
  rcases hs with rfl
  exact xv_ok.1⟩
theorem exCut : cutT exA 5 20 = [⟨5, 10, xv 1 2⟩, ⟨10, 20, xv 1 1⟩] := by decide +kernel
theorem exCut2 : cutT exA 0 12 = [⟨0, 10, xv 1 2⟩, ⟨10, 12, xv 1 1⟩] := by decide +kernel
theorem exWo : woT exA 5 20 = [⟨0, 5, xv 1 2⟩, ⟨20, 30, xv 1 1⟩] := by decide +kernel
theorem mem_dec {l xs : List Int} (h1 : l.all (fun x => decide (x ∈ xs)) = true) (h2 : xs.all (fun x => decide (x ∈ l)) = true) : ∀ x, x ∈ l ↔ x ∈ xs := fun x => ⟨fun h => of_decide_eq_true (List.all_eq_true.1 h1 x h), fun h => of_decide_eq_true (List.all_eq_true.1 h2 x h)⟩
theorem exJB : jnT exA exB = [⟨0, 8, xv 1 2⟩, ⟨8, 12, xv 0 1⟩, ⟨12, 30, xv 1 1⟩] := by
  have e : bds [exA, exB] = [0, 8, 10, 12, 30] := brd_eq (by decide) (mem_dec (by decide) (by decide))
  rw [jnT, e]; decide +kernel
theorem exJC : jnT exA exC = [⟨0, 12, xv 1 2⟩, ⟨12, 30, xv 1 1⟩] := by
  have e : bds [exA, exC] = [0, 10, 12, 30] := brd_eq (by decide) (mem_dec (by decide) (by decide))
  rw [jnT, e]; decide +kernel
theorem exCh : bds [exA] = [0, 10, 30] := brd_eq (by decide) (mem_dec (by decide) (by decide))
theorem exCv : cvT exA = [⟨0, 30⟩] := by
  rw [cvT, mkS_asc (cvS_asc exA_ok.1)]; decide +kernel
theorem exDf : dfS exA (cutT exA 0 12) = [⟨12, 30⟩] := by
  have e : bds [exA, [⟨0, 10, xv 1 2⟩, ⟨10, 12, xv 1 1⟩]] = [0, 10, 12, 30] := brd_eq (by decide) (mem_dec (by decide) (by decide))
  rw [dfS, mkS_asc (dfT_asc exA_ok.1 exA_ok.cut.1), dfT_map, exCut2, e]
  decide +kernel
theorem exSum : fr (Rat.divInt (gS (wt 84) exA 5 20) 84) = fr (kfr 25 2) := congrArg fr (by decide +kernel)
theorem c_awake05  :
  Ct Tryz.prog 11 [] (tB true) := by
 refine Ct.intro Tryz.func11 rfl Tryz.ntmps11 rfl ?_
 intro w F
 refine x6 ?_
 refine x8 ?_
 refine R1 x5 rfl (x7 (by kernel_rfl) (x3 (x6 ?_)))
 refine x8 ?_
 refine RE (xa0 (xh3 0 10 1 2 (by decide) (by decide) (by decide) (by decide)) fi44 rfl) ⟨rfl, rfl, rfl, rfl, trivial⟩ trivial trivial (RE (xa0 (xh3 10 30 1 1 (by decide) (by decide) (by decide) (by decide)) fi44 rfl) ⟨rfl, rfl, rfl, rfl, trivial⟩ trivial trivial (R2 (xe5 (n := 2) (f := tTs) [(⟨0, 10, xv 1 2⟩ : Tst), (⟨10, 30, xv 1 1⟩ : Tst)] Tryz.underlying24 el56 zf56 rfl (fun _ => inferInstance) rfl rfl rfl) rfl rfl (R1 (xa0 (c_steps [(⟨0, 10, xv 1 2⟩ : Tst), (⟨10, 30, xv 1 1⟩ : Tst)]) fi43 rfl) rfl (R1 x5 rfl (x7 (by kernel_rfl) (x3 (x6 ?_)))))))
 refine x8 ?_
 refine R1 x4 rfl (R2 (xa0 (c_AtG (l := exA) 9 exA_ok (by decide)) fi17 rfl) rfl rfl (R1 x4 rfl (R1 (xa9 rfl) rfl (R1 (xa9 rfl) rfl (RE (xc0 (k := 2) (n := 6) (agg := true) zr37.1 zr37.2 rfl) trivial trivial ⟨rfl, trivial⟩ (RE (xa6 (es := 6) (agg := true) (0) ti37 rfl rfl rfl) ⟨rfl, rfl, trivial⟩ ⟨rfl, trivial⟩ trivial (R1 x5 rfl ?_)))))))
 refine x7 (by kernel_rfl) (x3 (x6 ?_))
 refine x8 ?_
 refine R1 x4 rfl (R2 (xa0 (c_AtG (l := exA) 30 exA_ok (by decide)) fi17 rfl) rfl rfl (R1 x4 rfl (R1 (xa9 rfl) rfl (R1 (xa9 rfl) rfl (RE (xc0 (k := 4) (n := 6) (agg := true) zr37.1 zr37.2 rfl) trivial trivial ⟨rfl, trivial⟩ (RE (xa6 (es := 6) (agg := true) (0) ti37 rfl rfl rfl) ⟨rfl, rfl, trivial⟩ ⟨rfl, trivial⟩ trivial (R1 x5 rfl ?_)))))))
 refine x7 (by kernel_rfl) (x3 (x6 ?_))
 refine x8 ?_
 refine R1 x4 rfl (R3 (xa0 (c_SumG (l := exA) 5 20 (.inl rfl) (by decide) (by decide) (by decide) (by decide) exA_ok (by decide) (by decide)) fi24 rfl) rfl rfl rfl (R1 x4 rfl (R1 (xa9 rfl) rfl (R1 (xa9 rfl) rfl (RE (xc0 (k := 6) (n := 4) (agg := true) zr35.1 zr35.2 rfl) trivial trivial ⟨rfl, trivial⟩ (RE (xa6 (es := 4) (agg := true) (0) ti35 rfl rfl rfl) ⟨rfl, rfl, trivial⟩ ⟨rfl, trivial⟩ trivial (R1 x5 rfl ?_)))))))
 refine x7 (by kernel_rfl) (x3 (x6 ?_))
 refine x8 ?_
 refine R1 x4 rfl (R3 (xa0 (c_CutG (l := exA) 5 20 exA_ok (by decide) (by decide)) fi20 rfl) rfl rfl rfl (R1 x4 rfl (R1 (xa9 rfl) rfl (R1 (xa9 rfl) rfl (R1 x5 rfl (R1 x5 rfl (x7 (by kernel_rfl) ?_)))))))
 refine x3 (x6 ?_)
 refine x8 ?_
 refine R1 x4 rfl (R3 (xa0 (c_WithoutG (l := exA) 5 20 exA_ok (by decide) (by decide)) fi21 rfl) rfl rfl rfl (R1 x4 rfl (R1 (xa9 rfl) rfl (R1 (xa9 rfl) rfl (R1 x5 rfl (R1 x5 rfl (x7 (by kernel_rfl) ?_)))))))
 refine x3 (x6 ?_)
 refine x8 ?_
 refine R1 x4 rfl (RE (xa0 (xh3 8 12 0 1 (by decide) (by decide) (by decide) (by decide)) fi44 rfl) ⟨rfl, rfl, rfl, rfl, trivial⟩ trivial trivial (R1 (xe5 (n := 1) (f := tTs) [(⟨8, 12, xv 0 1⟩ : Tst)] Tryz.underlying24 el56 zf56 rfl (fun _ => inferInstance) rfl rfl rfl) rfl (R1 (xa0 (c_steps [(⟨8, 12, xv 0 1⟩ : Tst)]) fi43 rfl) rfl (R2 (xa0 (c_JoinG (a := exA) (b := exB) exA_ok exB_ok (by decide) (by decide)) fi13 rfl) rfl rfl (R1 x4 rfl (R1 (xa9 rfl) rfl (R1 (xa9 rfl) rfl ?_)))))))
 refine R1 x5 rfl (R1 x5 rfl (x7 (by kernel_rfl) (x3 (x6 ?_))))
 refine x8 ?_
 refine R1 x4 rfl (RE (xa0 (xh3 10 12 1 2 (by decide) (by decide) (by decide) (by decide)) fi44 rfl) ⟨rfl, rfl, rfl, rfl, trivial⟩ trivial trivial (R1 (xe5 (n := 1) (f := tTs) [(⟨10, 12, xv 1 2⟩ : Tst)] Tryz.underlying24 el56 zf56 rfl (fun _ => inferInstance) rfl rfl rfl) rfl (R1 (xa0 (c_steps [(⟨10, 12, xv 1 2⟩ : Tst)]) fi43 rfl) rfl (R2 (xa0 (c_JoinG (a := exA) (b := exC) exA_ok exC_ok (by decide) (by decide)) fi13 rfl) rfl rfl (R1 x4 rfl (R1 (xa9 rfl) rfl (R1 (xa9 rfl) rfl ?_)))))))
 refine R1 x5 rfl (R1 x5 rfl (x7 (by kernel_rfl) (x3 (x6 ?_))))
 refine x8 ?_
 refine R1 x4 rfl (R3 (xa0 (c_CutG (l := exA) 0 12 exA_ok (by decide) (by decide)) fi20 rfl) rfl rfl rfl (R1 x4 rfl (R1 (xa9 rfl) rfl (R1 (xa9 rfl) rfl (R1 x5 rfl (R1 x5 rfl (x7 (by kernel_rfl) ?_)))))))
 refine x3 (x6 ?_)
 refine x8 ?_
 refine R1 x4 rfl (R1 x4 rfl (R2 (xa0 (c_DiffG (a := exA) (b := cutT exA 0 12) exA_ok exA_ok.cut (by decide) (by rw [exCut2]; decide)) fi32 rfl) rfl rfl (R1 x4 rfl (R1 (xa9 rfl) rfl (R1 (xa9 rfl) rfl (R1 x5 rfl (R1 x5 rfl ?_)))))))
 refine x7 (by kernel_rfl) (x3 (x6 (x6 ?_)))
 refine xd8 mixed ?_
 refine R1 x4 rfl (R1 x4 rfl (R2 (xb9 (wr64 (by omega) (by omega))) rfl rfl (R1 x4 rfl (R2 (xb9 (wr64 (by omega) (by omega))) rfl rfl (R1 x4 rfl (R2 (xb9 (wr64 (by omega) (by omega))) rfl rfl (R1 x4 rfl ?_)))))))
 refine R2 (xb9 (wr64 (by omega) (by omega))) rfl rfl (R1 x4 rfl (R2 (xb9 (wr64 (by omega) (by omega))) rfl rfl (R1 x4 rfl (R2 (xb9 (wr64 (by omega) (by omega))) rfl rfl (R2 d_neq rfl rfl (R1 x4 rfl (RGon (decide_eq_false (by omega)) rfl x4 rfl ⟨rfl, trivial⟩ trivial trivial ?_)))))))
 refine RGon (decide_eq_false (by omega)) rfl xe4 rfl ⟨rfl, trivial⟩ trivial trivial (R2 (xa8 (decide_eq_false (by omega))) rfl rfl (R1 x4 rfl (RGon (by decide +kernel) rfl x4 rfl ⟨rfl, trivial⟩ trivial trivial (R2 (xa8 (by decide +kernel)) rfl rfl (R1 x4 rfl (RGon (by decide +kernel) rfl (xb1 (0) ti37 rfl rfl) rfl ⟨rfl, trivial⟩ ⟨rfl, trivial⟩ trivial (RGon (by decide +kernel) rfl (xa0 (c_Num 1 2 (by decide) (by decide) (by decide) (by decide)) fi29 rfl) rfl ⟨rfl, rfl, trivial⟩ trivial trivial ?_)))))))
 refine RGon (by decide +kernel) rfl (xa0 (c_sameVv _ _ (by decide +kernel)) fi18 rfl) rfl ⟨rfl, rfl, trivial⟩ trivial trivial (RGon (by decide +kernel) rfl xe4 rfl ⟨rfl, trivial⟩ trivial trivial (R2 (xa8 (by decide +kernel)) rfl rfl (R1 x4 rfl (RGon rfl rfl (xb1 (0) ti35 rfl rfl) rfl ⟨rfl, trivial⟩ ⟨rfl, trivial⟩ trivial (RGon rfl rfl (xa0 (c_KFrac 25 2 (by decide) (by decide) (by decide) (by decide)) fi27 rfl) rfl ⟨rfl, rfl, trivial⟩ trivial trivial (RGon rfl rfl (xa0 (c_sameFv _ _ exSum) fi26 rfl) rfl ⟨rfl, rfl, trivial⟩ trivial trivial (RGon rfl rfl xe4 rfl ⟨rfl, trivial⟩ trivial trivial ?_)))))))
 refine R2 (xa8 rfl) rfl rfl (xd3 (by kernel_rfl) (x3 (C_bF rfl rfl (xa2 (x3 (x6 ?_))))))
 refine x8 ?_
 refine R1 x5 rfl (x7 (by kernel_rfl) (x3 (x6 (x6 ?_))))
 refine x8 ?_
 refine R1 x4 rfl (R1 x4 rfl (RE (xa0 (xh3 5 10 1 2 (by decide) (by decide) (by decide) (by decide)) fi44 rfl) ⟨rfl, rfl, rfl, rfl, trivial⟩ trivial trivial (RE (xa0 (xh3 10 20 1 1 (by decide) (by decide) (by decide) (by decide)) fi44 rfl) ⟨rfl, rfl, rfl, rfl, trivial⟩ trivial trivial (R2 (xe5 (n := 2) (f := tTs) [(⟨5, 10, xv 1 2⟩ : Tst), (⟨10, 20, xv 1 1⟩ : Tst)] Tryz.underlying24 el56 zf56 rfl (fun _ => inferInstance) rfl rfl rfl) rfl rfl (R1 (xa0 (c_steps [(⟨5, 10, xv 1 2⟩ : Tst), (⟨10, 20, xv 1 1⟩ : Tst)]) fi43 rfl) rfl (R3 (d_callF (c_sameTv _ _ exCut) fi22 rfl) rfl rfl rfl (R1 xe4 rfl ?_)))))))
 refine R1 x4 rfl (RGon rfl rfl x4 rfl ⟨rfl, trivial⟩ trivial trivial (RGon rfl rfl x4 rfl ⟨rfl, trivial⟩ trivial trivial (RGon rfl rfl (xa0 (xh3 0 5 1 2 (by decide) (by decide) (by decide) (by decide)) fi44 rfl) rfl ⟨rfl, rfl, rfl, rfl, trivial⟩ trivial trivial (RGon rfl rfl (xa0 (xh3 20 30 1 1 (by decide) (by decide) (by decide) (by decide)) fi44 rfl) rfl ⟨rfl, rfl, rfl, rfl, trivial⟩ trivial trivial (RGon rfl rfl (xe5 (n := 2) (f := tTs) [(⟨0, 5, xv 1 2⟩ : Tst), (⟨20, 30, xv 1 1⟩ : Tst)] Tryz.underlying24 el56 zf56 rfl (fun _ => inferInstance) rfl rfl rfl) rfl ⟨rfl, rfl, trivial⟩ trivial trivial (RGon rfl rfl (xa0 (c_steps [(⟨0, 5, xv 1 2⟩ : Tst), (⟨20, 30, xv 1 1⟩ : Tst)]) fi43 rfl) rfl ⟨rfl, trivial⟩ trivial trivial (RGon rfl rfl (d_callF (c_sameTv _ _ exWo) fi22 rfl) rfl ⟨rfl, rfl, rfl, trivial⟩ trivial trivial ?_)))))))
 refine RGon rfl rfl xe4 rfl ⟨rfl, trivial⟩ trivial trivial (R2 (xa8 rfl) rfl rfl (R1 x4 rfl (RGon rfl rfl x4 rfl ⟨rfl, trivial⟩ trivial trivial (RGon rfl rfl x4 rfl ⟨rfl, trivial⟩ trivial trivial (RGon rfl rfl (xa0 (xh3 0 8 1 2 (by decide) (by decide) (by decide) (by decide)) fi44 rfl) rfl ⟨rfl, rfl, rfl, rfl, trivial⟩ trivial trivial (RGon rfl rfl (xa0 (xh3 8 12 0 1 (by decide) (by decide) (by decide) (by decide)) fi44 rfl) rfl ⟨rfl, rfl, rfl, rfl, trivial⟩ trivial trivial (RGon rfl rfl (xa0 (xh3 12 30 1 1 (by decide) (by decide) (by decide) (by decide)) fi44 rfl) rfl ⟨rfl, rfl, rfl, rfl, trivial⟩ trivial trivial ?_)))))))
 refine RGon rfl rfl (xe5 (n := 3) (f := tTs) [(⟨0, 8, xv 1 2⟩ : Tst), (⟨8, 12, xv 0 1⟩ : Tst), (⟨12, 30, xv 1 1⟩ : Tst)] Tryz.underlying24 el56 zf56 rfl (fun _ => inferInstance) rfl rfl rfl) rfl ⟨rfl, rfl, rfl, trivial⟩ trivial trivial (RGon rfl rfl (xa0 (c_steps [(⟨0, 8, xv 1 2⟩ : Tst), (⟨8, 12, xv 0 1⟩ : Tst), (⟨12, 30, xv 1 1⟩ : Tst)]) fi43 rfl) rfl ⟨rfl, trivial⟩ trivial trivial (RGon rfl rfl (d_callF (c_sameTv _ _ exJB) fi22 rfl) rfl ⟨rfl, rfl, rfl, trivial⟩ trivial trivial (RGon rfl rfl xe4 rfl ⟨rfl, trivial⟩ trivial trivial (R2 (xa8 rfl) rfl rfl (R1 x4 rfl (RGon rfl rfl x4 rfl ⟨rfl, trivial⟩ trivial trivial (RGon rfl rfl x4 rfl ⟨rfl, trivial⟩ trivial trivial ?_)))))))
 refine RGon rfl rfl (xa0 (xh3 0 12 1 2 (by decide) (by decide) (by decide) (by decide)) fi44 rfl) rfl ⟨rfl, rfl, rfl, rfl, trivial⟩ trivial trivial (RGon rfl rfl (xa0 (xh3 12 30 1 1 (by decide) (by decide) (by decide) (by decide)) fi44 rfl) rfl ⟨rfl, rfl, rfl, rfl, trivial⟩ trivial trivial (RGon rfl rfl (xe5 (n := 2) (f := tTs) [(⟨0, 12, xv 1 2⟩ : Tst), (⟨12, 30, xv 1 1⟩ : Tst)] Tryz.underlying24 el56 zf56 rfl (fun _ => inferInstance) rfl rfl rfl) rfl ⟨rfl, rfl, trivial⟩ trivial trivial (RGon rfl rfl (xa0 (c_steps [(⟨0, 12, xv 1 2⟩ : Tst), (⟨12, 30, xv 1 1⟩ : Tst)]) fi43 rfl) rfl ⟨rfl, trivial⟩ trivial trivial (RGon rfl rfl (d_callF (c_sameTv _ _ exJC) fi22 rfl) rfl ⟨rfl, rfl, rfl, trivial⟩ trivial trivial (RGon rfl rfl xe4 rfl ⟨rfl, trivial⟩ trivial trivial (R2 (xa8 rfl) rfl rfl (x7 (by kernel_rfl) ?_)))))))
 refine x3 (C_bF rfl rfl (xa2 (x3 (x6 ?_))))
 refine x8 ?_
 refine R1 x4 rfl (R1 (xa0 (c_ChangesG (l := exA) exA_ok (by decide)) fi35 rfl) rfl (R3 (xe5 (n := 3) (f := fun n : Int => tI n) [0, 10, 30] Tryz.underlying30 el3 zf3 rfl (fun _ => inferInstance) rfl rfl rfl) rfl rfl rfl (R2 (xa0 (c_sameIv _ _ exCh) fi45 rfl) rfl rfl (R1 x4 rfl (RGon rfl rfl x4 rfl ⟨rfl, trivial⟩ trivial trivial (RGon rfl rfl (xa0 (c_CoversG (l := exA) exA_ok (by decide)) fi34 rfl) rfl ⟨rfl, trivial⟩ trivial trivial (RGon rfl rfl (xc8 (r := tS [⟨1, false, tI 0⟩, ⟨1, false, tI 30⟩]) (ts := [(0, tI 0), (1, tI 30)]) bu72 zr72.2 ⟨_, rfl⟩ rfl ⟨_, _, _, _, rfl, Up.f (fs := [⟨1, false, (tE (.int .i64 0))⟩, ⟨1, false, (tE (.int .i64 0))⟩]) (f := ⟨1, false, (tE (.int .i64 0))⟩) (fs' := [⟨1, false, tI 0⟩, ⟨1, false, (tE (.int .i64 0))⟩]) 0 rfl rfl rfl, inferInstance, ⟨_, _, _, _, rfl, Up.f (fs := [⟨1, false, tI 0⟩, ⟨1, false, (tE (.int .i64 0))⟩]) (f := ⟨1, false, (tE (.int .i64 0))⟩) (fs' := [⟨1, false, tI 0⟩, ⟨1, false, tI 30⟩]) 1 rfl rfl rfl, inferInstance, Le.refl⟩⟩) rfl ⟨rfl, rfl, trivial⟩ trivial trivial ?_)))))))
 refine RGon rfl rfl (xe5 (n := 1) (f := tSn) [(⟨0, 30⟩ : Sn)] Tryz.underlying60 el72 zf72 rfl (fun _ => inferInstance) rfl rfl rfl) rfl ⟨rfl, trivial⟩ trivial trivial (RGon rfl rfl (xa0 (c_sameSv _ _ exCv) fi37 rfl) rfl ⟨rfl, rfl, trivial⟩ trivial trivial (R2 (xb2 rfl) rfl rfl (R1 x4 rfl (RGon rfl rfl x4 rfl ⟨rfl, trivial⟩ trivial trivial (RGon rfl rfl (xc8 (r := tS [⟨1, false, tI 12⟩, ⟨1, false, tI 30⟩]) (ts := [(0, tI 12), (1, tI 30)]) bu72 zr72.2 ⟨_, rfl⟩ rfl ⟨_, _, _, _, rfl, Up.f (fs := [⟨1, false, (tE (.int .i64 0))⟩, ⟨1, false, (tE (.int .i64 0))⟩]) (f := ⟨1, false, (tE (.int .i64 0))⟩) (fs' := [⟨1, false, tI 12⟩, ⟨1, false, (tE (.int .i64 0))⟩]) 0 rfl rfl rfl, inferInstance, ⟨_, _, _, _, rfl, Up.f (fs := [⟨1, false, tI 12⟩, ⟨1, false, (tE (.int .i64 0))⟩]) (f := ⟨1, false, (tE (.int .i64 0))⟩) (fs' := [⟨1, false, tI 12⟩, ⟨1, false, tI 30⟩]) 1 rfl rfl rfl, inferInstance, Le.refl⟩⟩) rfl ⟨rfl, rfl, trivial⟩ trivial trivial (RGon rfl rfl (xe5 (n := 1) (f := tSn) [(⟨12, 30⟩ : Sn)] Tryz.underlying60 el72 zf72 rfl (fun _ => inferInstance) rfl rfl rfl) rfl ⟨rfl, trivial⟩ trivial trivial (RGon rfl rfl (xa0 (c_sameSv _ _ exDf) fi37 rfl) rfl ⟨rfl, rfl, trivial⟩ trivial trivial ?_)))))))
 refine R2 (xb2 rfl) rfl rfl (R1 x5 rfl (x7 (by kernel_rfl) (x3 (xa1 ?_))))
 exact xa5 Plain.mk' rfl rfl Le.refl
end An.S

/- Law 5: TimelineParts. -/
namespace An.S
open Go Go.Proofs An
set_option maxHeartbeats 2000000
theorem fi11 : FnI Tryz.prog 11 := ⟨_, Tryz.func11, by kernel_rfl, rfl⟩
/-- The days that are looked at. -/
def lkP (l : List Tst) (d p q : Int) : List Int := lkT l [] d ++ [p - 1, p, q - 1, q]
end An.S

/- Law 5: TimelineAdds. -/
namespace An.S
open Go Go.Proofs An
set_option maxHeartbeats 2000000
set_option maxRecDepth 100000
/-- So many 84ths. -/
abbrev f84 (n : Int) : Fr := fr (Rat.divInt n 84)
def ok84 (n : Int) : Prop := -9223372036854775808 ≤ n ∧ n ≤ 9223372036854775807
theorem short84 {n : Int} (h : ok84 n) : short (Rat.divInt n 84) := short_dv (by decide) h.1 h.2 (by decide)
theorem kfr_one (n : Int) : kfr n 1 = (n : Rat) := by rw [kfr_big (by decide), int_div]
theorem c_Mul84 (f : Fr) (x n : Int) (hf : f = f84 x) (hx : ok84 x) (hn : ok84 n) (hs : ok84 (x * n)) : Ct Tryz.prog 28 [tFr f, tFr (fr (kfr n 1))] (tT [tFr (f84 (x * n)), tI 0]) := by
  have hsn : short (n : Rat) := by rw [int_div]; exact short_dv (by decide) hn.1 hn.2 (by decide)
  have h := c_FMul (Rat.divInt x 84) (n : Rat) (short84 hx) hsn
  rw [kfr_one, hf]
  rw [mulG, resF, resFE, if_pos (short84 hs), if_pos (short84 hs)] at h; exact h
theorem c_Sum84 {l : List Tst} (x y : Int) (h : isT l) (hl : l.length ≤ 200000) (hxy : Sn.ok ⟨x, y⟩ = true) : Ct Tryz.prog 24 [tL 8 true tTs l, tI x, tI y] (tT [tFr (f84 (gS (wt 84) l x y)), tI 0]) :=
  c_SumG x y (.inl rfl) (by decide) (by decide) (by decide) (by decide) h hl hxy
theorem gS_ok {l : List Tst} {x y : Int} (h : isT l) (hxy : Sn.ok ⟨x, y⟩ = true) : ok84 (gS (wt 84) l x y) := by
  have hb : 0 ≤ x ∧ x ≤ y ∧ y ≤ 65536 := by simpa [Sn.ok, and_assoc] using hxy
  have h1 := gS_bd (D := 84) (B := tB5) (a := x) (b := y) (by decide) h.asc h.out h.wt hb.2.1
  have h2 : tB5 * (y - x) ≤ 92358976733184 * 65536 := Int.mul_le_mul (by decide) (by omega) (by omega) (by decide)
  exact ⟨by omega, by omega⟩
theorem gS_full {w : Va → Int} {l : List Tst} (h : ∀ s ∈ l, 0 ≤ s.lo ∧ s.lo < s.hi ∧ s.hi ≤ 65536) : gS w l 0 65536 = wsG w l := by
  rw [gS, wsG]
  congr 1
  refine List.map_congr_left fun s hs => ?_
  have h1 := h s hs
  have e : dyG 0 65536 s = s.hi - s.lo := by simp only [dyG]; omega
  rw [gS1, e, if_neg (by omega)]
end An.S

/- Law 5: TimelineSpans. -/
namespace An.S
open Go Go.Proofs An
set_option maxHeartbeats 2000000
set_option maxRecDepth 100000
theorem fi36 : FnI Tryz.prog 36 := ⟨_, Tryz.func36, by kernel_rfl, rfl⟩
theorem fi39 : FnI Tryz.prog 39 := ⟨_, Tryz.func39, by kernel_rfl, rfl⟩
theorem fi41 : FnI Tryz.prog 41 := ⟨_, Tryz.func41, by kernel_rfl, rfl⟩
theorem fi69 : FnI Tryz.prog 69 := ⟨_, Tryz.func69, by kernel_rfl, rfl⟩
theorem fi70 : FnI Tryz.prog 70 := ⟨_, Tryz.func70, by kernel_rfl, rfl⟩
def befS (day : Int) (s : Sn) : Int := if s.lo < day then min s.hi day - s.lo else 0
def bef (l : List Sn) (day : Int) : Int := (l.map (befS day)).sum
theorem sum_nextS {f : Sn → Int} {l : List Sn} {i : Nat} (hi : i < l.length) : ((l.take (i + 1)).map f).sum = ((l.take i).map f).sum + f (l.getD i sn0) := by
  rw [List.take_succ_eq_append_getElem hi, List.map_append, List.sum_append, List.getD_eq_getElem?_getD, List.getElem?_eq_getElem hi]; simp
theorem c_SBefore (l : List Sn) (d : Int) (hl : l.length ≤ 1000000) :
  Ct Tryz.prog 70 [tL 2 true tSn l, tI d] (tI (if sVal l = true then bef l d else 0)) := by
 refine Ct.intro Tryz.func70 rfl Tryz.ntmps70 rfl ?_
 intro w F
 refine x6 ?_
 refine x8 ?_
 refine R1 x5 rfl (x7 (by kernel_rfl) (x3 (x6 (x6 ?_))))
 refine x8 ?_
 refine R1 x4 rfl (R1 (xa0 (c_SValid _) fi36 rfl) rfl (R1 xe4 rfl (x7 (by kernel_rfl) (x3 ?_))))
 refine xg2 rfl (fun h173 => ?_) (fun h173 => ?_)
 ·
  have hk : ¬ sVal l = true := by simpa using h173
  refine x6 ?_
  refine x8 ?_
  refine R1 x5 rfl (x7 (by kernel_rfl) (x3 (xa1 (xa4 ?_))))
  exact xa5 Plain.mk' rfl rfl (Le.int (by rw [if_neg hk]))
 ·
  have hok : sVal l = true := by simpa using h173
  refine xa2 (x3 (x6 ?_))
  refine x8 ?_
  refine R1 x5 rfl (x7 (by kernel_rfl) (x3 (x6 (x6 ?_))))
  refine x8 ?_
  refine R1 x4 rfl (R1 (xc2 Tryz.underlying60) rfl (R1 x4 rfl (x7 (by kernel_rfl) (x3 (xb0 ?_)))))
  refine xd9 (fun (fm : (Nat) × (Int)) => (fun (i : Nat) (n : Int) => i ≤ l.length ∧ n = bef (l.take i) d ∧ 0 ≤ n ∧ n ≤ 65536 * i) fm.1 fm.2) (fun (fm : (Nat) × (Int)) => (fun (i : Nat) (n : Int) => upd (upd (upd (upd (upd (fun _ => none) 1 (some (.val (tI d)))) 5 (some (.val (tI n)))) 11 (some (.val (tL 2 true tSn l)))) 12 (some (.val (tI l.length)))) 13 (some (.val (tI i)))) fm.1 fm.2) (fun (fm : (Nat) × (Int)) => (fun (i : Nat) (n : Int) => fun _ => none) fm.1 fm.2) (nm []) (fun (fm : (Nat) × (Int)) => (fun (i : Nat) (n : Int) => l.length - i) fm.1 fm.2) ((0, 0)) (by dsimp only; exact ⟨Nat.zero_le _, rfl, by omega, by omega⟩) (Sub.int rfl (by first | omega | rfl | (dsimp only; omega)) (Sub.int rfl (by first | omega | rfl | (dsimp only; omega)) (Sub.cons rfl (Sub.int rfl (by first | omega | rfl | (dsimp only; omega)) (Sub.int rfl (by first | omega | rfl | (dsimp only; omega)) Sub.nil))))) SubK.nil (SupG.val (SupG.val (SupG.val (SupG.val (SupG.val SupG.nil))))) SupH.nil (lkOk rfl) ?_
  intro fm hI
  obtain ⟨i, n⟩ := fm
  replace hI : i ≤ l.length ∧ n = bef (l.take i) d ∧ 0 ≤ n ∧ n ≤ 65536 * i := hI
  show wc _ _ _ _ (upd (upd (upd (upd (upd (fun _ => none) 1 (some (.val (tI d)))) 5 (some (.val (tI n)))) 11 (some (.val (tL 2 true tSn l)))) 12 (some (.val (tI l.length)))) 13 (some (.val (tI i)))) (fun _ => none) _
  obtain ⟨hi, hn, hn1, hn2⟩ := hI
  refine x6 ?_
  refine x8 ?_
  refine R2 xe0 rfl rfl (x7 (by kernel_rfl) (x3 (x6 ?_)))
  refine xc1 rfl (fun h177 => ?_) (fun h177 => ?_)
  ·
   refine xa2 (x3 (x6 (xb0 (x6 ?_))))
   refine x8 ?_
   have hs := sVal_at hok (i := i) (by omega)
   refine R2 (xb5 sl60 (i) (by omega) (gD (l := l) (n := i) (d := sn0) (by omega))) rfl rfl (R1 (xb8 ti72) rfl (RE (xc0 (k := 7) (n := 2) (agg := true) zr72.1 zr72.2 rfl) trivial trivial ⟨rfl, trivial⟩ (RE (xa6 (es := 2) (agg := true) (0) ti72 rfl rfl rfl) ⟨rfl, rfl, trivial⟩ ⟨rfl, trivial⟩ trivial (x7 (by kernel_rfl) (x3 (x6 ?_))))))
   refine x8 ?_
   refine R1 (x9 fo72_0 rfl) rfl (xa3 (0) ti3 rfl rfl rfl (At.g 0 rfl rfl) rfl (R1 x4 rfl (R2 xe0 rfl rfl (x7 (by kernel_rfl) (x3 ?_)))))
   refine xc1 rfl (fun h178 => ?_) (fun h178 => ?_)
   ·
    refine x8 ?_
    refine R1 x4 rfl (R1 (x9 fo72_1 rfl) rfl (xa3 (0) ti3 rfl rfl rfl (At.g 1 rfl rfl) rfl (R1 x4 rfl (R2 d_min2 rfl rfl (R1 (x9 fo72_0 rfl) rfl (xa3 (0) ti3 rfl rfl rfl (At.g 0 rfl rfl) rfl (R2 (xe3 (wr64 (by omega) (by omega))) rfl rfl ?_)))))))
    refine R2 (xb9 (wr64 (by omega) (by omega))) rfl rfl (R1 x5 rfl (x7 (by kernel_rfl) (xc3 (x3 ?_))))
    refine x8 ?_
    refine R2 (xb9 (wr64 (by omega) (by omega))) rfl rfl (R1 x4 rfl (x7 (by kernel_rfl) ?_))
    exact xc6 ((i + 1, n + (min (l.getD i sn0).hi d - (l.getD i sn0).lo))) ⟨(by dsimp only; exact ⟨by omega, by rw [bef, sum_nextS (by omega), ← bef, ← hn, befS, if_pos h178], by omega, by omega⟩), (by dsimp only; omega)⟩ (Sub.int rfl (by first | omega | rfl | (dsimp only; omega)) (Sub.int rfl (by first | omega | rfl | (dsimp only; omega)) (Sub.cons rfl (Sub.int rfl (by first | omega | rfl | (dsimp only; omega)) (Sub.int rfl (by first | omega | rfl | (dsimp only; omega)) Sub.nil))))) SubK.nil (SupG.val (SupG.val (SupG.val (SupG.val (SupG.val SupG.nil))))) SupH.nil (lkOk rfl)
   ·
    refine xa2 (xc3 (x3 ?_))
    refine x8 ?_
    refine R2 (xb9 (wr64 (by omega) (by omega))) rfl rfl (R1 x4 rfl (x7 (by kernel_rfl) ?_))
    exact xc6 ((i + 1, n)) ⟨(by dsimp only; exact ⟨by omega, by rw [bef, sum_nextS (by omega), ← bef, ← hn, befS, if_neg h178]; omega, by omega, by omega⟩), (by dsimp only; omega)⟩ (Sub.int rfl (by first | omega | rfl | (dsimp only; omega)) (Sub.int rfl (by first | omega | rfl | (dsimp only; omega)) (Sub.cons rfl (Sub.int rfl (by first | omega | rfl | (dsimp only; omega)) (Sub.int rfl (by first | omega | rfl | (dsimp only; omega)) Sub.nil))))) SubK.nil (SupG.val (SupG.val (SupG.val (SupG.val (SupG.val SupG.nil))))) SupH.nil (lkOk rfl)
  ·
   refine xd0 (xb6 (xb6 (xd7 (x3 (x6 ?_)))))
   refine x8 ?_
   refine R1 x4 rfl (R1 x5 rfl (x7 (by kernel_rfl) (x3 (xa1 ?_))))
   exact xa5 Plain.mk' rfl rfl (Le.int (by rw [if_pos hok, hn, show i = l.length by omega, List.take_length]))
theorem c_SDays (l : List Sn) (hl : l.length ≤ 1000000) :
  Ct Tryz.prog 41 [tL 2 true tSn l] (tI (if sVal l = true then bef l 65536 else 0)) := by
 refine Ct.intro Tryz.func41 rfl Tryz.ntmps41 rfl ?_
 intro w F
 refine x6 ?_
 refine x8 ?_
 refine R1 x5 rfl (x7 (by kernel_rfl) (x3 (x6 ?_)))
 refine x8 ?_
 refine R1 x4 rfl (R2 (xa0 (c_SBefore l 65536 hl) fi70 rfl) rfl rfl (R1 x5 rfl (x7 (by kernel_rfl) (x3 (xa1 ?_)))))
 exact xa5 Plain.mk' rfl rfl Le.refl
theorem c_to04 (a b : Int) :
  Ct Tryz.prog 69 [tI a, tI b] (tSn ⟨a, b⟩) := by
 refine Ct.intro Tryz.func69 rfl Tryz.ntmps69 rfl ?_
 intro w F
 refine x6 ?_
 refine x8 ?_
 refine RE (xc0 (k := 4) (n := 2) (agg := true) zr72.1 zr72.2 rfl) trivial trivial ⟨rfl, trivial⟩ (x7 (by kernel_rfl) (x3 (x6 ?_)))
 refine x8 ?_
 refine R1 x4 rfl (R1 x4 rfl (R2 (xc8 (r := tS [⟨1, false, tI a⟩, ⟨1, false, tI b⟩]) (ts := [(0, tI a), (1, tI b)]) bu72 zr72.2 ⟨_, rfl⟩ rfl ⟨_, _, _, _, rfl, Up.f (fs := [⟨1, false, (tE (.int .i64 0))⟩, ⟨1, false, (tE (.int .i64 0))⟩]) (f := ⟨1, false, (tE (.int .i64 0))⟩) (fs' := [⟨1, false, tI a⟩, ⟨1, false, (tE (.int .i64 0))⟩]) 0 rfl rfl rfl, inferInstance, ⟨_, _, _, _, rfl, Up.f (fs := [⟨1, false, tI a⟩, ⟨1, false, (tE (.int .i64 0))⟩]) (f := ⟨1, false, (tE (.int .i64 0))⟩) (fs' := [⟨1, false, tI a⟩, ⟨1, false, tI b⟩]) 1 rfl rfl rfl, inferInstance, Le.refl⟩⟩) rfl rfl (RE (xa6 (es := 2) (agg := true) (0) ti72 rfl rfl rfl) ⟨rfl, rfl, trivial⟩ ⟨rfl, trivial⟩ trivial (x7 (by kernel_rfl) (x3 (xa1 ?_))))))
 exact xg3 Plain.mk' rfl ⟨_, _, _, _, _, rfl, rfl, ti72, Le.refl⟩
def taF (m : List Nat) (k : Nat) (t : Int) : Int := t + 1 + ((m.getD (2 * k) 0 : Nat) : Int) % 3000
def taE (m : List Nat) (k : Nat) (t : Int) : Int := taF m k t + 1 + ((m.getD (2 * k + 1) 0 : Nat) : Int) % 3000
def taRun (m : List Nat) : Nat → Nat → List Sn → Int → List Sn
  | 0, _, out, _ => out
  | f + 1, k, out, t => if 2 * k + 1 < m.length ∧ k < 60 then (if 65536 < taE m k t then out else taRun m f (k + 1) (out ++ [⟨taF m k t, taE m k t⟩]) (taE m k t)) else out
def taT (m : List Nat) : List Sn := taRun m 61 0 [] (-1)
theorem taRun_stop {m : List Nat} {k : Nat} {out : List Sn} {t : Int} {r : List Sn} (hk : k ≤ 60) (h : taRun m (61 - k) k out t = r) (hs : ¬ (2 * k + 1 < m.length ∧ k < 60) ∨ 65536 < taE m k t) : out = r := by
  rw [show 61 - k = (60 - k) + 1 by omega, taRun] at h
  split at h
  · rw [if_pos (hs.resolve_left (fun h' => h' (by assumption)))] at h; exact h
  · exact h
theorem taRun_next {m : List Nat} {k : Nat} {out : List Sn} {t : Int} {r : List Sn} (hk : k ≤ 60) (h : taRun m (61 - k) k out t = r) (hs : 2 * k + 1 < m.length ∧ k < 60) (he : ¬ 65536 < taE m k t) : taRun m (61 - (k + 1)) (k + 1) (out ++ [⟨taF m k t, taE m k t⟩]) (taE m k t) = r := by
  rw [show 61 - k = (61 - (k + 1)) + 1 by omega, taRun, if_pos hs, if_neg he] at h; exact h
theorem taRun_ok {m : List Nat} : ∀ (f k : Nat) (out : List Sn) (t : Int), sVal out = true → -1 ≤ t → (0 < out.length → (lastS out).hi ≤ t) → sVal (taRun m f k out t) = true ∧ (taRun m f k out t).length ≤ out.length + f
  | 0, _, out, _, h, _, _ => ⟨h, Nat.le_refl _⟩
  | f + 1, k, out, t, h, ht, hl => by
    rw [taRun]
    split
    · split
      · exact ⟨h, by omega⟩
      · rename_i he
        have hF : t < taF m k t := by simp only [taF]; omega
        have hE : taF m k t < taE m k t := by simp only [taE]; omega
        have h1 : sVal (out ++ [⟨taF m k t, taE m k t⟩]) = true := sVal_snoc h ⟨by dsimp only; omega, hE, by dsimp only; omega⟩ fun hp => by have := hl hp; dsimp only; omega
        have h3 := taRun_ok (m := m) f (k + 1) _ (taE m k t) h1 (by omega) fun _ => by rw [lastS, snoc_last]; exact Int.le_refl _
        rw [List.length_append, List.length_singleton] at h3
        exact ⟨h3.1, by omega⟩
    · exact ⟨h, by omega⟩
theorem taT_ok (m : List Nat) : sVal (taT m) = true ∧ (taT m).length ≤ 61 := by
  have := taRun_ok (m := m) 61 0 [] (-1) rfl (by decide) fun h => by cases h
  exact ⟨this.1, by have := this.2; simp at this; exact this⟩
/-- The timeline with one value on the days of a set. -/
def ovr (v : Va) (s : Sn) : Tst := ⟨s.lo, s.hi, v⟩
theorem ovr_right {l : List Sn} {v : Va} (h : sVal l = true) (hv : gOk 2 84 tB5 v) : isT (l.map (ovr v)) := by
  have hs := sVal_set h
  have hp : (l.map (ovr v)).Pairwise fun s t => s.hi < t.lo := hs.2.map (ovr v) fun s t hst => hst
  refine isG_of ⟨fun s hs2 => ?_, hp.imp fun h' => by omega⟩ ?_ fun s hs2 => ?_
  · obtain ⟨x, hx, rfl⟩ := List.mem_map.1 hs2
    exact (hs.1 x hx).2.1
  · refine nb_of fun i hi h2 => ?_
    have := List.pairwise_iff_getElem.1 hp i (i + 1) (by omega) hi (by omega)
    have h3 := h2.1
    rw [List.getD_eq_getElem?_getD, List.getD_eq_getElem?_getD, List.getElem?_eq_getElem (show i < _ by omega), List.getElem?_eq_getElem hi] at h3
    simp only [Option.getD_some] at h3
    omega
  · obtain ⟨x, hx, rfl⟩ := List.mem_map.1 hs2
    have := hs.1 x hx
    exact ⟨⟨this.1, this.2.2⟩, hv⟩
theorem ovr_cov {l : List Sn} {v : Va} (h : sVal l = true) (hv : gOk 2 84 tB5 v) : cvT (l.map (ovr v)) = l := by
  have h1 := cvT_set (ovr_right h hv).1
  refine set_same h1.1 h fun d => ?_
  rw [h1.2, ← mem_cvS, cvS, List.map_map]
  have e : spT ∘ ovr v = id := rfl
  rw [e, List.map_id]
theorem bef_allG {l : List Sn} (h : sVal l = true) : bef l 65536 = dayS l := by
  rw [bef, dayS]
  congr 1
  refine List.map_congr_left fun s hs => ?_
  obtain ⟨i, hi, e⟩ := List.getElem_of_mem hs
  have h1 := sVal_at h hi
  rw [List.getD_eq_getElem?_getD, List.getElem?_eq_getElem hi] at h1
  have h1 : 0 ≤ s.lo ∧ s.lo < s.hi ∧ s.hi ≤ 65536 := by rw [← e]; exact h1
  simp only [befS]; rw [if_pos (by omega)]; omega
theorem ovr_sum {l : List Sn} {v : Va} (w : Va → Int) : wsG w (l.map (ovr v)) = w v * dayS l := by
  induction l with
  | nil => simp [wsG, dayS]
  | cons s r ih =>
    have e1 : wsG w ((s :: r).map (ovr v)) = w v * (s.hi - s.lo) + wsG w (r.map (ovr v)) := rfl
    have e2 : dayS (s :: r) = (s.hi - s.lo) + dayS r := rfl
    rw [e1, e2, ih, Int.mul_add]
theorem ovr_days {l : List Sn} {v : Va} : dsG (l.map (ovr v)) = dayS l := by
  induction l with
  | nil => simp [dsG, dayS]
  | cons s r ih =>
    have e1 : dsG ((s :: r).map (ovr v)) = (s.hi - s.lo) + dsG (r.map (ovr v)) := rfl
    have e2 : dayS (s :: r) = (s.hi - s.lo) + dayS r := rfl
    rw [e1, e2, ih]
theorem c_DaysV (l : List Sn) (h : sVal l = true) (hl : l.length ≤ 1000000) : Ct Tryz.prog 41 [tL 2 true tSn l] (tI (dayS l)) := by
  have := c_SDays l hl
  rw [if_pos h, bef_allG h] at this; exact this
theorem c_Built04 (m : List Nat) (hm : ∀ i, m.getD i 0 < 65536) :
  Ct Tryz.prog 39 [tLm m] (tL 2 true tSn (taT m)) := by
 refine Ct.intro Tryz.func39 rfl Tryz.ntmps39 rfl ?_
 intro w F
 refine C_len (s := 0) rfl (fun hl0 => ?_)
 refine x6 ?_
 refine x8 ?_
 refine R1 x5 rfl (x7 (by kernel_rfl) (x3 (x6 ?_)))
 refine x8 ?_
 refine RE (d_assignN (k := 3) 72 2 true rfl (fun h => by cases h)) trivial trivial ⟨rfl, trivial⟩ (x7 (by kernel_rfl) (x3 (x6 ?_)))
 refine x8 ?_
 refine R1 x5 rfl (x7 (by kernel_rfl) (x3 (x6 (x6 ?_))))
 refine x8 ?_
 refine R1 x5 rfl (x7 (by kernel_rfl) (x3 (xb0 ?_)))
 refine xd9 (fun (fm : (Nat) × (List Sn) × (Int)) => (fun (k : Nat) (xs : List Sn) (t : Int) => k ≤ 60 ∧ taRun m (61 - k) k xs t = taT m ∧ xs.length ≤ k ∧ -1 ≤ t ∧ t ≤ 65536) fm.1 fm.2.1 fm.2.2) (fun (fm : (Nat) × (List Sn) × (Int)) => (fun (k : Nat) (xs : List Sn) (t : Int) => upd (upd (upd (upd (fun _ => none) 0 (some (.val (tLm m)))) 3 (some (.own (.sl 3 2 0 xs.length)))) 4 (some (.val (tI t)))) 5 (some (.val (tI (2 * (k : Int)))))) fm.1 fm.2.1 fm.2.2) (fun (fm : (Nat) × (List Sn) × (Int)) => (fun (k : Nat) (xs : List Sn) (t : Int) => upd (fun _ => none) 3 (some (⟨72, 2, true, rV tSn xs⟩))) fm.1 fm.2.1 fm.2.2) (nm [3]) (fun (fm : (Nat) × (List Sn) × (Int)) => (fun (k : Nat) (xs : List Sn) (t : Int) => 61 - k) fm.1 fm.2.1 fm.2.2) ((0, [], -1)) (by dsimp only; exact ⟨Nat.zero_le _, rfl, Nat.le_refl _, by omega, by omega⟩) (Sub.int rfl (by first | omega | rfl | (dsimp only; omega)) (Sub.int rfl (by first | omega | rfl | (dsimp only; omega)) (Sub.cons rfl (Sub.cons rfl Sub.nil)))) ((SubK.consI rfl ImpK.refl) SubK.nil) (SupG.val (SupG.val (SupG.own rfl (SupG.val SupG.nil)))) (SupH.cons rfl (supJ xd1) SupH.nil) (lkOk rfl) ?_
 intro fm hI
 obtain ⟨k, xs, t⟩ := fm
 replace hI : k ≤ 60 ∧ taRun m (61 - k) k xs t = taT m ∧ xs.length ≤ k ∧ -1 ≤ t ∧ t ≤ 65536 := hI
 show wc _ _ _ _ (upd (upd (upd (upd (fun _ => none) 0 (some (.val (tLm m)))) 3 (some (.own (.sl 3 2 0 xs.length)))) 4 (some (.val (tI t)))) 5 (some (.val (tI (2 * (k : Int)))))) (upd (fun _ => none) 3 (some (⟨72, 2, true, rV tSn xs⟩))) _
 obtain ⟨hk, hb, hxl, ht0, ht1⟩ := hI
 have m0 := hm (2 * k)
 have m1 := hm (2 * k + 1)
 refine x6 (x6 ?_)
 refine x8 ?_
 refine R1 x4 rfl (R2 (xb9 (wr64 (by omega) (by omega))) rfl rfl (R1 x4 rfl (R1 (xc2 Tryz.underlying22) rfl (R2 xe0 rfl rfl (R1 x4 rfl ?_)))))
 refine RGcaseD (t := 13) rfl (fun h15 => ?_) (fun h15 => ?_)
 ·
  refine RGon (decide_eq_true h15) rfl x4 rfl ⟨rfl, trivial⟩ trivial trivial (RGon (decide_eq_true h15) rfl xe0 rfl ⟨rfl, rfl, trivial⟩ trivial trivial (R2 (xb2 (decide_eq_true h15)) rfl rfl (x7 (by kernel_rfl) (x3 ?_))))
  refine xc1 rfl (fun h15_2 => ?_) (fun h15_2 => ?_)
  ·
   refine xa2 (x3 (x6 (xb0 (x6 ?_))))
   refine x8 ?_
   refine R1 x4 rfl (R2 (xb9 (wr64 (by omega) (by omega))) rfl rfl (R1 x4 rfl (R1 x4 rfl (R2 (xb5 sl22 (2 * k) (by omega) (gN (by omega))) rfl rfl (R1 (xb8 ti73) rfl (R1 (xb3 Tryz.underlying3 (isS Tryz.underlying73) (wr64 (by omega) (by omega))) rfl (R2 (d_remP (by omega) (by omega)) rfl rfl ?_)))))))
   refine R2 (xb9 (wr64 (by omega) (by omega))) rfl rfl (R1 x5 rfl (x7 (by kernel_rfl) (x3 (x6 ?_))))
   refine x8 ?_
   refine R1 x4 rfl (R2 (xb9 (wr64 (by omega) (by omega))) rfl rfl (R1 x4 rfl (R1 x4 rfl (R2 (xb9 (wr64 (by omega) (by omega))) rfl rfl (R2 (xb5 sl22 (2 * k + 1) (by omega) (gN (by omega))) rfl rfl (R1 (xb8 ti73) rfl (R1 (xb3 Tryz.underlying3 (isS Tryz.underlying73) (wr64 (by omega) (by omega))) rfl ?_)))))))
   refine R2 (d_remP (by omega) (by omega)) rfl rfl (R2 (xb9 (wr64 (by omega) (by omega))) rfl rfl (R1 x5 rfl (x7 (by kernel_rfl) (x3 (x6 (x6 ?_))))))
   refine x8 ?_
   refine R1 x4 rfl (R2 d_gtr rfl rfl (x7 (by kernel_rfl) (x3 ?_)))
   refine xc1 rfl (fun h18 => ?_) (fun h18 => ?_)
   ·
    refine xd0 (xb6 (K_exO rfl (xb6 (xb6 (xd7 (x3 (x6 ?_)))))))
    refine x8 ?_
    refine R1 x4 rfl (RE (d_assignS (f := tSn) (xs := xs) (fun _ h => h) (rV_all rfl) rfl) ⟨rfl, trivial⟩ ⟨rfl, trivial⟩ trivial (x7 (by kernel_rfl) (x3 (xa1 ?_))))
    exact xa5 Plain.mk' rfl rfl (Le.of (by rw [taRun_stop hk hb (.inr (by simp only [taE, taF]; omega))]))
   ·
    refine xa2 (x3 (x6 ?_))
    refine x8 ?_
    refine R1 x4 rfl (R1 x4 rfl (R1 x4 rfl (R2 (xa0 (c_to04 (taF m k t) (taE m k t)) fi69 rfl) rfl rfl (R1 (xe5 (n := 1) (f := tSn) [(⟨taF m k t, taE m k t⟩ : Sn)] Tryz.underlying60 el72 zf72 rfl (fun _ => inferInstance) rfl rfl rfl) rfl (RE (xf7 (k := 3) (k' := 45) (f := tSn) (ys := [(⟨taF m k t, taE m k t⟩ : Sn)]) (ts' := rV tSn (xs ++ [(⟨taF m k t, taE m k t⟩ : Sn)])) Tryz.underlying60 el72 zf72 rfl rfl (fun _ => inferInstance) xg8 (by simp; omega) (by simp; omega) (by simp [rV]) (n' := xs.length + 1) rfl) ⟨rfl, rfl, trivial⟩ ⟨rfl, trivial⟩ ⟨rfl, trivial⟩ (R1 x5 rfl (x7 (by kernel_rfl) ?_)))))))
    refine x3 ?_
    refine x8 ?_
    refine R1 x4 rfl (R1 x5 rfl (x7 (by kernel_rfl) (xc3 (x3 ?_))))
    refine x8 ?_
    refine R1 x4 rfl (R2 (xb9 (wr64 (by omega) (by omega))) rfl rfl (R1 x5 rfl (x7 (by kernel_rfl) ?_)))
    exact K_famR (l := [3]) (fun j => cond (Nat.beq j 3) 45 (j)) ((k + 1, xs ++ [(⟨taF m k t, taE m k t⟩ : Sn)], taE m k t)) ⟨(by dsimp only; exact ⟨by omega, taRun_next hk hb ⟨by omega, by omega⟩ (by simp only [taE, taF]; omega), by rw [List.length_append]; simp; omega, by simp only [taE, taF]; omega, by simp only [taE, taF]; omega⟩), (by dsimp only; omega)⟩ (SubR.int rfl (by first | omega | rfl | (dsimp only; omega)) (SubR.int rfl (by first | omega | rfl | (dsimp only; omega)) ((SubR.consI rfl (Imp.of (by dsimp only; rw [List.length_append]; rfl))) (SubR.cons rfl SubR.nil)))) ((SubKR.consI rfl (ImpK.of xf1.symm)) SubKR.nil) (SupG.val (SupG.val (SupG.own rfl (SupG.val SupG.nil)))) (SupH.cons rfl (supJ xd1) SupH.nil) (lkOk rfl) rfl rfl (fun _ h => by cases h)
  ·
   refine xd0 (xb6 (xb6 (xd7 (x3 (x6 ?_)))))
   refine x8 ?_
   refine R1 x4 rfl (RE (d_assignS (f := tSn) (xs := xs) (fun _ h => h) (rV_all rfl) rfl) ⟨rfl, trivial⟩ ⟨rfl, trivial⟩ trivial (x7 (by kernel_rfl) (x3 (xa1 ?_))))
   exact xa5 Plain.mk' rfl rfl (Le.of (by rw [taRun_stop hk hb (.inl (by omega))]))
 ·
  refine RGoff (decide_eq_false h15) rfl rfl (RGoff (decide_eq_false h15) rfl rfl (R2 (xa8 (decide_eq_false h15)) rfl rfl (x7 (by kernel_rfl) (x3 (C_bF rfl rfl (xd0 (xb6 ?_)))))))
  refine xb6 (xd7 (x3 (x6 ?_)))
  refine x8 ?_
  refine R1 x4 rfl (RE (d_assignS (f := tSn) (xs := xs) (fun _ h => h) (rV_all rfl) rfl) ⟨rfl, trivial⟩ ⟨rfl, trivial⟩ trivial (x7 (by kernel_rfl) (x3 (xa1 ?_))))
  exact xa5 Plain.mk' rfl rfl (Le.of (by rw [taRun_stop hk hb (.inl (by omega))]))
theorem map_snoc {l : List Sn} {v : Va} {i : Nat} (hi : i < l.length) : (l.take (i + 1)).map (ovr v) = (l.take i).map (ovr v) ++ [ovr v (l.getD i sn0)] := by
  rw [List.take_succ_eq_append_getElem hi, List.map_append, List.getD_eq_getElem?_getD, List.getElem?_eq_getElem hi]; rfl
theorem c_TlSpans (m : List Nat) (hmm : ∀ i, m.getD i 0 < 65536) (n : Nat) (hn : n < 65536) :
  Ct Tryz.prog 9 [tLm m, tE (.int .u16 (n : Int))] (tB true) := by
 obtain ⟨hu, hlu⟩ := taT_ok m
 have hbt := c_Built04 m hmm
 generalize taT m = u at *
 have hp := c_Pool n hn
 have hv := plV_ok n
 have hT := ovr_right hu hv
 have hcov := ovr_cov hu hv
 have hlen : (u.map (ovr (plV n))).length = u.length := by simp
 have hfull : gS (wt 84) (u.map (ovr (plV n))) 0 65536 = (wt 84 (plV n) * dayS u) := by rw [gS_full hT.bd, ovr_sum]
 have hok := gS_ok (x := 0) (y := 65536) hT (by decide)
 rw [hfull] at hok
 have hd0 := dsG_le (xs := (u.map (ovr (plV n)))) (c := 0) (e := 65536) hT.asc hT.out (by decide)
 rw [ovr_days] at hd0
 have hf : (plV n).f = f84 (wt 84 (plV n)) := by rw [f84, ← hv.2.1]; exact hv.1.2.2.2.1
 have hw1 : -92358976733184 ≤ wt 84 (plV n) := hv.2.2.1
 have hw2 : wt 84 (plV n) ≤ 92358976733184 := hv.2.2.2
 refine Ct.intro Tryz.func9 rfl Tryz.ntmps9 rfl ?_
 intro w F
 refine x6 ?_
 refine x8 ?_
 refine R1 x5 rfl (x7 (by kernel_rfl) (x3 (x6 (x6 ?_))))
 refine x8 ?_
 refine R0 (xa0 c_awake05 fi11 rfl)  (R1 xe4 rfl (x7 (by kernel_rfl) (x3 (C_bF rfl rfl (xa2 (x3 (x6 ?_)))))))
 refine x8 ?_
 refine R1 x4 rfl (R1 (xa0 hbt fi39 rfl) rfl (R1 x5 rfl (x7 (by kernel_rfl) (x3 (x6 ?_)))))
 refine x8 ?_
 refine RE (d_assignN (k := 6) 56 8 true rfl (fun h => by cases h)) trivial trivial ⟨rfl, trivial⟩ (x7 (by kernel_rfl) (x3 (x6 (x6 ?_))))
 refine x8 ?_
 refine R1 x4 rfl (R1 (xc2 Tryz.underlying60) rfl (R1 x4 rfl (x7 (by kernel_rfl) (x3 (xb0 ?_)))))
 refine xd9 (fun (fm : (Nat) × (List Tst)) => (fun (i : Nat) (xs : List Tst) => i ≤ u.length ∧ xs = (u.take i).map (ovr (plV n)) ∧ xs.length = i) fm.1 fm.2) (fun (fm : (Nat) × (List Tst)) => (fun (i : Nat) (xs : List Tst) => upd (upd (upd (upd (upd (upd (fun _ => none) 1 (some (.val (tE (.int .u16 (n : Int)))))) 5 (some (.val (tL 2 true tSn u)))) 6 (some (.own (.sl 6 8 0 xs.length)))) 17 (some (.val (tL 2 true tSn u)))) 18 (some (.val (tI u.length)))) 19 (some (.val (tI i)))) fm.1 fm.2) (fun (fm : (Nat) × (List Tst)) => (fun (i : Nat) (xs : List Tst) => upd (fun _ => none) 6 (some (⟨56, 8, true, rV tTs xs⟩))) fm.1 fm.2) (nm [6]) (fun (fm : (Nat) × (List Tst)) => (fun (i : Nat) (xs : List Tst) => u.length - i) fm.1 fm.2) ((0, [])) (by dsimp only; exact ⟨Nat.zero_le _, rfl, rfl⟩) (Sub.int rfl (by first | omega | rfl | (dsimp only; omega)) (Sub.int rfl (by first | omega | rfl | (dsimp only; omega)) (Sub.cons rfl (Sub.cons rfl (Sub.cons rfl (Sub.int rfl (by first | omega | rfl | (dsimp only; omega)) Sub.nil)))))) ((SubK.consI rfl ImpK.refl) SubK.nil) (SupG.val (SupG.val (SupG.val (SupG.own rfl (SupG.val (SupG.val SupG.nil)))))) (SupH.cons rfl (supJ xd1) SupH.nil) (lkOk rfl) ?_
 intro fm hI
 obtain ⟨i, xs⟩ := fm
 replace hI : i ≤ u.length ∧ xs = (u.take i).map (ovr (plV n)) ∧ xs.length = i := hI
 show wc _ _ _ _ (upd (upd (upd (upd (upd (upd (fun _ => none) 1 (some (.val (tE (.int .u16 (n : Int)))))) 5 (some (.val (tL 2 true tSn u)))) 6 (some (.own (.sl 6 8 0 xs.length)))) 17 (some (.val (tL 2 true tSn u)))) 18 (some (.val (tI u.length)))) 19 (some (.val (tI i)))) (upd (fun _ => none) 6 (some (⟨56, 8, true, rV tTs xs⟩))) _
 obtain ⟨hi, hx, hxl⟩ := hI
 refine x6 ?_
 refine x8 ?_
 refine R2 xe0 rfl rfl (x7 (by kernel_rfl) (x3 (x6 ?_)))
 refine xc1 rfl (fun h284 => ?_) (fun h284 => ?_)
 ·
  refine xa2 (x3 (x6 (xb0 (x6 ?_))))
  refine x8 ?_
  refine R2 (xb5 sl60 (i) (by omega) (gD (l := u) (n := i) (d := sn0) (by omega))) rfl rfl (R1 (xb8 ti72) rfl (RE (xc0 (k := 8) (n := 2) (agg := true) zr72.1 zr72.2 rfl) trivial trivial ⟨rfl, trivial⟩ (RE (xa6 (es := 2) (agg := true) (0) ti72 rfl rfl rfl) ⟨rfl, rfl, trivial⟩ ⟨rfl, trivial⟩ trivial (x7 (by kernel_rfl) (x3 ?_)))))
  refine xd8 mixed ?_
  refine R1 x4 rfl (R1 (x9 fo72_0 rfl) rfl (xa3 (0) ti3 rfl rfl rfl (At.g 0 rfl rfl) rfl (R1 (x9 fo72_1 rfl) rfl (xa3 (0) ti3 rfl rfl rfl (At.g 1 rfl rfl) rfl (R1 x4 rfl (R1 (xa0 hp fi40 rfl) rfl (R3 (xc8 (r := tS [⟨1, false, tI (u.getD i sn0).lo⟩, ⟨1, false, tI (u.getD i sn0).hi⟩, ⟨6, true, tVa (plV n)⟩]) (ts := [(0, tI (u.getD i sn0).lo), (1, tI (u.getD i sn0).hi), (2, tVa (plV n))]) bu56 zr56.2 ⟨_, rfl⟩ rfl ⟨_, _, _, _, rfl, Up.f (fs := [⟨1, false, (tE (.int .i64 0))⟩, ⟨1, false, (tE (.int .i64 0))⟩, ⟨6, true, (tS [⟨1, false, (tE (.int .u8 0))⟩, ⟨4, true, (tS [⟨2, true, (tS [⟨1, false, (tE (.bool false))⟩, ⟨1, false, (tLm [])⟩])⟩, ⟨2, true, (tS [⟨1, false, (tE (.bool false))⟩, ⟨1, false, (tLm [])⟩])⟩])⟩, ⟨1, false, (tE (.int .i64 0))⟩])⟩]) (f := ⟨1, false, (tE (.int .i64 0))⟩) (fs' := [⟨1, false, tI (u.getD i sn0).lo⟩, ⟨1, false, (tE (.int .i64 0))⟩, ⟨6, true, (tS [⟨1, false, (tE (.int .u8 0))⟩, ⟨4, true, (tS [⟨2, true, (tS [⟨1, false, (tE (.bool false))⟩, ⟨1, false, (tLm [])⟩])⟩, ⟨2, true, (tS [⟨1, false, (tE (.bool false))⟩, ⟨1, false, (tLm [])⟩])⟩])⟩, ⟨1, false, (tE (.int .i64 0))⟩])⟩]) 0 rfl rfl rfl, inferInstance, ⟨_, _, _, _, rfl, Up.f (fs := [⟨1, false, tI (u.getD i sn0).lo⟩, ⟨1, false, (tE (.int .i64 0))⟩, ⟨6, true, (tS [⟨1, false, (tE (.int .u8 0))⟩, ⟨4, true, (tS [⟨2, true, (tS [⟨1, false, (tE (.bool false))⟩, ⟨1, false, (tLm [])⟩])⟩, ⟨2, true, (tS [⟨1, false, (tE (.bool false))⟩, ⟨1, false, (tLm [])⟩])⟩])⟩, ⟨1, false, (tE (.int .i64 0))⟩])⟩]) (f := ⟨1, false, (tE (.int .i64 0))⟩) (fs' := [⟨1, false, tI (u.getD i sn0).lo⟩, ⟨1, false, tI (u.getD i sn0).hi⟩, ⟨6, true, (tS [⟨1, false, (tE (.int .u8 0))⟩, ⟨4, true, (tS [⟨2, true, (tS [⟨1, false, (tE (.bool false))⟩, ⟨1, false, (tLm [])⟩])⟩, ⟨2, true, (tS [⟨1, false, (tE (.bool false))⟩, ⟨1, false, (tLm [])⟩])⟩])⟩, ⟨1, false, (tE (.int .i64 0))⟩])⟩]) 1 rfl rfl rfl, inferInstance, ⟨_, _, _, _, rfl, Up.f (fs := [⟨1, false, tI (u.getD i sn0).lo⟩, ⟨1, false, tI (u.getD i sn0).hi⟩, ⟨6, true, (tS [⟨1, false, (tE (.int .u8 0))⟩, ⟨4, true, (tS [⟨2, true, (tS [⟨1, false, (tE (.bool false))⟩, ⟨1, false, (tLm [])⟩])⟩, ⟨2, true, (tS [⟨1, false, (tE (.bool false))⟩, ⟨1, false, (tLm [])⟩])⟩])⟩, ⟨1, false, (tE (.int .i64 0))⟩])⟩]) (f := ⟨6, true, (tS [⟨1, false, (tE (.int .u8 0))⟩, ⟨4, true, (tS [⟨2, true, (tS [⟨1, false, (tE (.bool false))⟩, ⟨1, false, (tLm [])⟩])⟩, ⟨2, true, (tS [⟨1, false, (tE (.bool false))⟩, ⟨1, false, (tLm [])⟩])⟩])⟩, ⟨1, false, (tE (.int .i64 0))⟩])⟩) (fs' := [⟨1, false, tI (u.getD i sn0).lo⟩, ⟨1, false, tI (u.getD i sn0).hi⟩, ⟨6, true, tVa (plV n)⟩]) 2 rfl rfl rfl, inferInstance, Le.refl⟩⟩⟩) rfl rfl rfl ?_)))))))
  refine R1 (xe5 (n := 1) (f := tTs) [(ovr (plV n) (u.getD i sn0))] Tryz.underlying24 el56 zf56 rfl (fun _ => inferInstance) rfl rfl rfl) rfl (RE (xf7 (k := 6) (k' := 32) (f := tTs) (ys := [(ovr (plV n) (u.getD i sn0))]) (ts' := rV tTs (xs ++ [(ovr (plV n) (u.getD i sn0))])) Tryz.underlying24 el56 zf56 rfl rfl (fun _ => inferInstance) xg8 (by simp; omega) (by simp; omega) (by simp [rV]) (n' := xs.length + 1) rfl) ⟨rfl, rfl, trivial⟩ ⟨rfl, trivial⟩ ⟨rfl, trivial⟩ (R1 x5 rfl (xd3 (by kernel_rfl) (xc3 (x3 ?_)))))
  refine x8 ?_
  refine R2 (xb9 (wr64 (by omega) (by omega))) rfl rfl (R1 x4 rfl (x7 (by kernel_rfl) ?_))
  exact K_famR (l := [6]) (fun j => cond (Nat.beq j 6) 32 (j)) ((i + 1, xs ++ [(ovr (plV n) (u.getD i sn0))])) ⟨(by dsimp only; exact ⟨by omega, by rw [map_snoc (by omega), ← hx], by rw [List.length_append, hxl]; rfl⟩), (by dsimp only; omega)⟩ (SubR.int rfl (by first | omega | rfl | (dsimp only; omega)) (SubR.int rfl (by first | omega | rfl | (dsimp only; omega)) (SubR.cons rfl ((SubR.consI rfl (Imp.of (by dsimp only; rw [List.length_append]; rfl))) (SubR.cons rfl (SubR.int rfl (by first | omega | rfl | (dsimp only; omega)) SubR.nil)))))) ((SubKR.consI rfl (ImpK.of xf1.symm)) SubKR.nil) (SupG.val (SupG.val (SupG.val (SupG.own rfl (SupG.val (SupG.val SupG.nil)))))) (SupH.cons rfl (supJ xd1) SupH.nil) (lkOk rfl) rfl rfl (fun _ h => by cases h)
 ·
  refine xd0 (xb6 (xb6 (xd7 (x3 (x6 ?_)))))
  have hie : i = u.length := by omega
  subst hie
  rw [List.take_length] at hx
  subst hx
  refine C_give (t := 6) (k := 6) (f := tTs) (xs := (u.map (ovr (plV n)))) rfl rfl (fun _ h => h) (rV_all rfl) rfl ?_
  refine x8 ?_
  refine R1 x4 rfl (R3 (xa0 (c_Sum84 0 65536 hT (by omega) (by decide)) fi24 rfl) rfl rfl rfl (R1 x4 rfl (R1 (xa9 rfl) rfl (R1 (xa9 rfl) rfl (RE (xc0 (k := 9) (n := 4) (agg := true) zr35.1 zr35.2 rfl) trivial trivial ⟨rfl, trivial⟩ (RE (xa6 (es := 4) (agg := true) (0) ti35 rfl rfl rfl) ⟨rfl, rfl, trivial⟩ ⟨rfl, trivial⟩ trivial (R1 x5 rfl ?_)))))))
  refine x7 (by kernel_rfl) (x3 (x6 ?_))
  refine x8 ?_
  refine R1 x4 rfl (R1 (xa0 hp fi40 rfl) rfl (R1 (d_fieldV (E := 35) (o := 1) Tryz.underlying37 rfl ti35 (At.g 1 rfl rfl)) rfl (R1 x4 rfl (R1 (xa0 (c_DaysV u hu (by omega)) fi41 rfl) rfl (R2 (xa0 (c_KFrac (dayS u) 1 (by omega) (by omega) (by decide) (by decide)) fi27 rfl) rfl rfl (R2 (xa0 (c_Mul84 (plV n).f (wt 84 (plV n)) (dayS u) hf ⟨by omega, by omega⟩ ⟨by omega, by omega⟩ hok) fi28 rfl) rfl rfl (R1 x4 rfl ?_)))))))
  refine R1 (xa9 rfl) rfl (R1 (xa9 rfl) rfl (RE (xc0 (k := 11) (n := 4) (agg := true) zr35.1 zr35.2 rfl) trivial trivial ⟨rfl, trivial⟩ (RE (xa6 (es := 4) (agg := true) (0) ti35 rfl rfl rfl) ⟨rfl, rfl, trivial⟩ ⟨rfl, trivial⟩ trivial (R1 x5 rfl (x7 (by kernel_rfl) (x3 (x6 ?_)))))))
  refine x8 ?_
  refine R1 x4 rfl (R1 x4 rfl (R2 (xb9 (wr64 (by omega) (by omega))) rfl rfl (R2 xe6 rfl rfl (R1 x4 rfl (RGon (decide_eq_true (by omega)) rfl x4 rfl ⟨rfl, trivial⟩ trivial trivial (RGon (decide_eq_true (by omega)) rfl (xa0 (c_RightG hT) fi14 rfl) rfl ⟨rfl, trivial⟩ trivial trivial (R2 (xb2 (decide_eq_true (by omega))) rfl rfl ?_)))))))
  refine R1 x4 rfl (RGon rfl rfl x4 rfl ⟨rfl, trivial⟩ trivial trivial (RGon rfl rfl (xa0 (c_CoversG hT (by omega)) fi34 rfl) rfl ⟨rfl, trivial⟩ trivial trivial (RGon rfl rfl x4 rfl ⟨rfl, trivial⟩ trivial trivial (RGon rfl rfl (xa0 (c_sameSv _ _ hcov) fi37 rfl) rfl ⟨rfl, rfl, trivial⟩ trivial trivial (R2 (xb2 rfl) rfl rfl (R1 x4 rfl (RGon rfl rfl (xb1 (0) ti35 rfl rfl) rfl ⟨rfl, trivial⟩ ⟨rfl, trivial⟩ trivial ?_)))))))
  refine RGon rfl rfl (xb1 (0) ti35 rfl rfl) rfl ⟨rfl, trivial⟩ ⟨rfl, trivial⟩ trivial (RGon rfl rfl (xa0 (c_sameFv _ _ (by rw [hfull])) fi26 rfl) rfl ⟨rfl, rfl, trivial⟩ trivial trivial (R2 (xb2 rfl) rfl rfl (R1 x5 rfl (x7 (by kernel_rfl) (x3 (xa1 ?_))))))
  exact xa5 Plain.mk' rfl rfl Le.refl
end An.S
