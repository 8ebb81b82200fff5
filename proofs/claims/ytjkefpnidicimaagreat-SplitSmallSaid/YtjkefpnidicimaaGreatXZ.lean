/- SplitSmall: the grid over small shares, amounts and bases, and those at their limits, returns true. No condition. -/
import Derived.Test.YtjkefpnidicimaaGreatRows
import Derived.SizedLaws
import Derived.JoinedOf
import Derived.Test.YtjkefpnidicimaaGreatX6
namespace Go.Proofs.YtjkefpnidicimaaGreat
open Go.ChangeShapes Go.WideShapes Go.ChangeAt Go.RowKit An An.S
set_option maxRecDepth 100000 in
theorem liftedSplitSmall (os : Os) (started : os.Started) (H : Type) (enc : TypeId × Value → H) :
    ReturnsInHanded {} Tryz.checked os 4 .any (Rows.splitSmallSpec.pre6 enc Tryz.prog Tryz.f4 Rows.splitSmallRow.domain false) (Rows.splitSmallSpec.post enc Tryz.prog Tryz.f4 false true false false) := by
  refine returnsInHanded_of_change_sized (C := Tryz.checked) own started (by kernel_rfl) Tryz.func4
    (ChangeSpec.witness6 (enc := enc) (C := Tryz.checked) false ⟨#[], #[], []⟩ 8 (by kernel_rfl) (by kernel_rfl) (by kernel_rfl) (by kernel_rfl)) ?_
  intro W base args ds gs before hval0 hW hcnd hsz _
  have hval : ∀ (j : Nat) t v, Tryz.f4.params[j]? = some t → args[j]? = some v → Value.okWide Tryz.prog W .any base t v := hval0
  have hW' := hW
  obtain ⟨p, q, hA0, hV, rfl, hfz, hnd⟩ := hW
  have hA : DataW.TrodAll enc Tryz.prog W 0 (fun _ => true) true Tryz.f4.params.toList args.toList ds p := hA0
  rw [Tryz.params4] at hA hval
  obtain ⟨rfl, rfl, rfl⟩ := trodAll_none hA
  obtain ⟨rfl, rfl⟩ := trodVars_none hV
  clear hA0 hval0
  refine (walked (zu1) (vs := []) trivial).mono fun e W' ⟨he, hx⟩ => ?_
  subst he
  have bel := hx.below
  exact ⟨_, rfl, _, _, _, [], [], [], hW', trodAll_mk1 (shut_bool Tryz.underlying4 _), trodAll_mk0, rfl, bel.frame _, fun h => by cases h⟩
theorem and2 {a b : Bool} (ha : a = true) (hb : b = true) : (a && b) = true := by rw [ha, hb]; rfl
theorem jf1 : (Rows.splitSmallRow.wf (OpenSpec.ofChange Rows.splitSmallSpec)) = true := by kernel_rfl
theorem jf2 : (laidOutB Tryz.pinned.checked.prog) = true := by kernel_rfl
theorem jf3 : (mapsRowed Tryz.pinned.checked.prog) = true := by kernel_rfl
theorem jf4 : (Tryz.f4.params.all (Tryz.pinned.checked.prog.readableRec ·)) = true := by kernel_rfl
theorem jf5 : (namedTie Tryz.pinned.checked.prog Rows.splitSmallRow.named Rows.splitSmallSpec.vars) = true := by kernel_rfl
theorem jf6 : (Rows.splitSmallRow.stops == []) = true := by kernel_rfl
theorem jf7 : (Tryz.pinned.checked.prog.stops == []) = true := by kernel_rfl
theorem jf8 : (Rows.splitSmallRow.knobs == []) = true := by kernel_rfl
theorem jf9 : (Tryz.pinned.checked.prog.stopKnobs == []) = true := by kernel_rfl
theorem jf10 : (Rows.splitSmallRow.inPlace == Tryz.pinned.checked.prog.inPlace 4) = true := by kernel_rfl
theorem jf11 : (Rows.splitSmallRow.unfollowed == Tryz.pinned.checked.prog.unfollowed 4) = true := by kernel_rfl
theorem jf12 : (Rows.splitSmallRow.recurses == Tryz.pinned.checked.prog.recurses 4) = true := by kernel_rfl
theorem jf13 : (Rows.splitSmallRow.named == Tryz.pinned.checked.prog.varsNamed 4) = true := by kernel_rfl
set_option maxHeartbeats 4000000 in
theorem jfAll : joinedFacts Tryz.pinned.checked.prog 4 Tryz.f4 Rows.splitSmallSpec Rows.splitSmallRow = true := by
  unfold joinedFacts
  refine and2 ?_ (by as_aux_lemma => kernel_rfl)
  refine and2 ?_ (by as_aux_lemma => kernel_rfl)
  refine and2 ?_ (by as_aux_lemma => kernel_rfl)
  refine and2 ?_ (by as_aux_lemma => kernel_rfl)
  refine and2 ?_ (by as_aux_lemma => kernel_rfl)
  refine and2 ?_ (by as_aux_lemma => kernel_rfl)
  refine and2 ?_ (by as_aux_lemma => kernel_rfl)
  refine and2 ?_ (by as_aux_lemma => kernel_rfl)
  refine and2 ?_ (by as_aux_lemma => kernel_rfl)
  refine and2 ?_ (by as_aux_lemma => kernel_rfl)
  refine and2 ?_ (by as_aux_lemma => kernel_rfl)
  refine and2 ?_ (by as_aux_lemma => kernel_rfl)
  refine and2 ?_ (by as_aux_lemma => kernel_rfl)
  refine and2 ?_ (by as_aux_lemma => kernel_rfl)
  refine and2 ?_ (by as_aux_lemma => kernel_rfl)
  refine and2 ?_ (by as_aux_lemma => kernel_rfl)
  refine and2 ?_ (by as_aux_lemma => kernel_rfl)
  refine and2 ?_ (by as_aux_lemma => kernel_rfl)
  refine and2 ?_ (by as_aux_lemma => kernel_rfl)
  refine and2 ?_ jf13
  refine and2 ?_ jf12
  refine and2 ?_ jf11
  refine and2 ?_ jf10
  refine and2 ?_ jf9
  refine and2 ?_ jf8
  refine and2 ?_ jf7
  refine and2 ?_ jf6
  refine and2 ?_ jf5
  refine and2 ?_ jf4
  refine and2 ?_ jf3
  refine and2 ?_ jf2
  exact jf1
theorem overSplitSmall : Rows.splitSmallRow.holds Tryz.pinned (OpenSpec.ofChange Rows.splitSmallSpec) :=
  OpenClaim.holds_of_wide 4 Tryz.f4 rfl rfl rfl rfl rfl rfl rfl ⟨rfl, rfl, rfl, rfl, rfl⟩ rfl rfl rfl rfl rfl (by kernel_rfl) Tryz.func4 jfAll
    (of_decide_eq_true (by kernel_rfl)) (by unfold Func.isWrapper; first | (rw [if_pos (by decide +kernel)]; kernel_rfl) | (rw [if_neg (by decide +kernel)]; exact ⟨rfl, rfl⟩))
    (fun os started H enc _ => liftedSplitSmall os started H enc)
theorem splitSmall_holds : Rows.SplitSmallSaid := overSplitSmall
#print axioms splitSmall_holds
end Go.Proofs.YtjkefpnidicimaaGreat
