/- SplitTells: for any list of deals, any state, any month and any amount all functions of package split return what the reference returns, keep what they were given, and return slices that share no memory. No condition. -/
import Derived.Test.YtjkefpnidicimaaGreatRows
import Derived.SizedLaws
import Derived.JoinedOf
import Derived.Test.YtjkefpnidicimaaGreatT6
namespace Go.Proofs.YtjkefpnidicimaaGreat
open Go.ChangeShapes Go.WideShapes Go.ChangeAt Go.RowKit An An.S
set_option maxRecDepth 100000 in
theorem liftedSplitTells (os : Os) (started : os.Started) (H : Type) (enc : TypeId × Value → H) :
    ReturnsInHanded {} Tryz.checked os 3 .any (Rows.splitTellsSpec.pre6 enc Tryz.prog Tryz.f3 Rows.splitTellsRow.domain false) (Rows.splitTellsSpec.post enc Tryz.prog Tryz.f3 false true false false) := by
  refine returnsInHanded_of_change_sized (C := Tryz.checked) own started (by kernel_rfl) Tryz.func3
    (ChangeSpec.witness6 (enc := enc) (C := Tryz.checked) false ⟨#[], #[.slice none 0 0, .agg #[.int .i64 0, .slice none 0 0, .slice none 0 0], .int .i64 0, .int .i64 0], []⟩ 8 (by kernel_rfl) (by kernel_rfl) (by kernel_rfl) (by kernel_rfl)) ?_
  intro W base args ds gs before hval0 hW hcnd hsz _
  have hval : ∀ (j : Nat) t v, Tryz.f3.params[j]? = some t → args[j]? = some v → Value.okWide Tryz.prog W .any base t v := hval0
  have hW' := hW
  obtain ⟨p, q, hA0, hV, rfl, hfz, hnd⟩ := hW
  have hA : DataW.TrodAll enc Tryz.prog W 0 (fun _ => true) true Tryz.f3.params.toList args.toList ds p := hA0
  rw [Tryz.params3] at hA hval
  obtain ⟨v0, vs0, d0, ds0, p0, q0, hargs, rfl, rfl, h0, r0⟩ := trodAll_cons hA
  obtain ⟨v1, vs1, d1, ds1, p1, q1, rfl, rfl, rfl, h1, r1⟩ := trodAll_cons r0
  obtain ⟨v2, vs2, d2, ds2, p2, q2, rfl, rfl, rfl, h2, r2⟩ := trodAll_cons r1
  obtain ⟨v3, vs3, d3, ds3, p3, q3, rfl, rfl, rfl, h3, r3⟩ := trodAll_cons r2
  obtain ⟨rfl, rfl, rfl⟩ := trodAll_nil r3
  obtain rfl : args = #[v0, v1, v2, v3] := by cases args; simp_all
  obtain ⟨rfl, rfl⟩ := trodVars_none hV
  obtain ⟨a0, k0, t0⟩ := oDealsW.argL Tryz.underlying22 (hval 0 22 v0 rfl rfl) h0 (xu4 (j := 0) hsz rfl rfl)
  have lt0 : ∀ x ∈ p0, x.block < W.heap.size := by obtain ⟨m, hm⟩ := h0; exact DataW.trod_lt m _ _ _ hm
  obtain ⟨a1, k1, t1⟩ := oStateW.argS Tryz.underlying25 (hval 1 25 v1 rfl rfl) h1 (xu4 (j := 1) hsz rfl rfl)
  have lt1 : ∀ x ∈ p1, x.block < W.heap.size := by obtain ⟨m, hm⟩ := h1; exact DataW.trod_lt m _ _ _ hm
  obtain ⟨a2, k2, t2⟩ := oIntW.argI Tryz.underlying3 (hval 2 3 v2 rfl rfl) h2 (xu4 (j := 2) hsz rfl rfl)
  have lt2 : ∀ x ∈ p2, x.block < W.heap.size := by obtain ⟨m, hm⟩ := h2; exact DataW.trod_lt m _ _ _ hm
  obtain ⟨a3, k3, t3⟩ := oIntW.argI Tryz.underlying3 (hval 3 3 v3 rfl rfl) h3 (xu4 (j := 3) hsz rfl rfl)
  have lt3 : ∀ x ∈ p3, x.block < W.heap.size := by obtain ⟨m, hm⟩ := h3; exact DataW.trod_lt m _ _ _ hm
  clear hA0 hval0
  refine (walked (zp6 a0 a1.1 a1.2.1 a1.2.2 a2 a3 k0) (vs := [v0, v1, v2, v3]) ⟨t0, t1, t2, t3, trivial⟩).mono fun e W' ⟨he, hx⟩ => ?_
  subst he
  have bel := hx.below
  exact ⟨_, rfl, _, _, _, [], _, [], hW', trodAll_mk1 (shut_bool Tryz.underlying4 _), (trodAll_cons_mk (Below.trod laidOut (by kernel_rfl) (of_decide_eq_true (by kernel_rfl)) h0 bel lt0) (trodAll_cons_mk (Below.trod laidOut (by kernel_rfl) (of_decide_eq_true (by kernel_rfl)) h1 bel lt1) (trodAll_cons_mk (Below.trod laidOut (by kernel_rfl) (of_decide_eq_true (by kernel_rfl)) h2 bel lt2) (trodAll_cons_mk (Below.trod laidOut (by kernel_rfl) (of_decide_eq_true (by kernel_rfl)) h3 bel lt3) trodAll_mk0)))), rfl, bel.frame _, fun h => by cases h⟩
theorem and2 {a b : Bool} (ha : a = true) (hb : b = true) : (a && b) = true := by rw [ha, hb]; rfl
theorem jf1 : (Rows.splitTellsRow.wf (OpenSpec.ofChange Rows.splitTellsSpec)) = true := by kernel_rfl
theorem jf2 : (laidOutB Tryz.pinned.checked.prog) = true := by kernel_rfl
theorem jf3 : (mapsRowed Tryz.pinned.checked.prog) = true := by kernel_rfl
theorem jf4 : (Tryz.f3.params.all (Tryz.pinned.checked.prog.readableRec ·)) = true := by kernel_rfl
theorem jf5 : (namedTie Tryz.pinned.checked.prog Rows.splitTellsRow.named Rows.splitTellsSpec.vars) = true := by kernel_rfl
theorem jf6 : (Rows.splitTellsRow.stops == []) = true := by kernel_rfl
theorem jf7 : (Tryz.pinned.checked.prog.stops == []) = true := by kernel_rfl
theorem jf8 : (Rows.splitTellsRow.knobs == []) = true := by kernel_rfl
theorem jf9 : (Tryz.pinned.checked.prog.stopKnobs == []) = true := by kernel_rfl
theorem jf10 : (Rows.splitTellsRow.inPlace == Tryz.pinned.checked.prog.inPlace 3) = true := by kernel_rfl
theorem jf11 : (Rows.splitTellsRow.unfollowed == Tryz.pinned.checked.prog.unfollowed 3) = true := by kernel_rfl
theorem jf12 : (Rows.splitTellsRow.recurses == Tryz.pinned.checked.prog.recurses 3) = true := by kernel_rfl
theorem jf13 : (Rows.splitTellsRow.named == Tryz.pinned.checked.prog.varsNamed 3) = true := by kernel_rfl
set_option maxHeartbeats 4000000 in
theorem jfAll : joinedFacts Tryz.pinned.checked.prog 3 Tryz.f3 Rows.splitTellsSpec Rows.splitTellsRow = true := by
  unfold joinedFacts
  refine and2 ?_ (by as_aux_lemma => kernel_rfl)
  refine and2 ?_ (by as_aux_lemma => kernel_rfl)
  refine and2 ?_ (by as_aux_lemma => kernel_rfl)
  refine and2 ?_ (by as_aux_lemma => kernel_rfl)
  refine and2 ?_ (by as_aux_lemma => kernel_rfl)
  refine and2 ?_ (by as_aux_lemma => kernel_rfl)
  refine and2 ?_ (by as_aux_lemma => kernel_rfl)
  refine and2 ?_ (by as_aux_lemma => kernel_rfl)
  refine and2 ?_ (by as_aux_lemma => kernel_rfl)
  refine and2 ?_ (by as_aux_lemma => kernel_rfl)
  refine and2 ?_ (by as_aux_lemma => kernel_rfl)
  refine and2 ?_ (by as_aux_lemma => kernel_rfl)
  refine and2 ?_ (by as_aux_lemma => kernel_rfl)
  refine and2 ?_ (by as_aux_lemma => kernel_rfl)
  refine and2 ?_ (by as_aux_lemma => kernel_rfl)
  refine and2 ?_ (by as_aux_lemma => kernel_rfl)
  refine and2 ?_ (by as_aux_lemma => kernel_rfl)
  refine and2 ?_ (by as_aux_lemma => kernel_rfl)
  refine and2 ?_ (by as_aux_lemma => kernel_rfl)
  refine and2 ?_ jf13
  refine and2 ?_ jf12
  refine and2 ?_ jf11
  refine and2 ?_ jf10
  refine and2 ?_ jf9
  refine and2 ?_ jf8
  refine and2 ?_ jf7
  refine and2 ?_ jf6
  refine and2 ?_ jf5
  refine and2 ?_ jf4
  refine and2 ?_ jf3
  refine and2 ?_ jf2
  exact jf1
theorem overSplitTells : Rows.splitTellsRow.holds Tryz.pinned (OpenSpec.ofChange Rows.splitTellsSpec) :=
  OpenClaim.holds_of_wide 3 Tryz.f3 rfl rfl rfl rfl rfl rfl rfl ⟨rfl, rfl, rfl, rfl, rfl⟩ rfl rfl rfl rfl rfl (by kernel_rfl) Tryz.func3 jfAll
    (of_decide_eq_true (by kernel_rfl)) (by unfold Func.isWrapper; first | (rw [if_pos (by decide +kernel)]; kernel_rfl) | (rw [if_neg (by decide +kernel)]; exact ⟨rfl, rfl⟩))
    (fun os started H enc _ => liftedSplitTells os started H enc)
theorem splitTells_holds : Rows.SplitTellsSaid := overSplitTells
#print axioms splitTells_holds
end Go.Proofs.YtjkefpnidicimaaGreat
