/- FactSmall: a closed statement about facts -/
import Derived.Test.YtnihkcielnkkpaaGreatDoorRows
import Derived.Test.YtnihkcielnkkpaaGreatDoorCards
import Derived.Test.YtnihkcielnkkpaaGreatDoorTie
import Derived.SevenTiedAt
import Derived.Test.YtnihkcielnkkpaaGreatDoorK7
namespace Go.Proofs.YtnihkcielnkkpaaGreatDoor
open Go.ChangeShapes Go.WideShapes Go.ChangeAt Go.RowKit An An.S
set_option maxRecDepth 100000 in
theorem liftedFactSmall (os : Os) (started : os.Started) (H : Type) (enc : TypeId × Value → H) :
    ReturnsInHanded {} Tryz.checked os 3 .any (fun w args => (Rows.factSmallSpec.pre enc Tryz.prog Tryz.f3 Rows.factSmallRow.domain false w args ∧ laidMetH Tryz.prog laidL w) ∧ sizedMet enc Tryz.prog Tryz.f3 (OpenSpec.ofChange Rows.factSmallSpec) false w args) (Rows.factSmallSpec.post enc Tryz.prog Tryz.f3 false true false false) := by
  refine returnsInHanded_of_change_and (C := Tryz.checked) (X := fun w _ => laidMetH Tryz.prog laidL w) (fun _ _ _ hh h => h.of_heap hh) own started (by kernel_rfl) Tryz.func3
    (ChangeSpec.witness_at (enc := enc) (C := Tryz.checked) (os := os) (X := fun w _ => laidMetH Tryz.prog laidL w) false (laidWorld os) #[] 8 rfl (by kernel_rfl) (by kernel_rfl) (by kernel_rfl) (by kernel_rfl) (by kernel_rfl) (zq0 os _)) ?_
  intro W base args ds gs before hval0 hW _ hsz _ _
  have hval : ∀ (j : Nat) t v, Tryz.f3.params[j]? = some t → args[j]? = some v → Value.okWide Tryz.prog W .any base t v := hval0
  have hW' := hW
  obtain ⟨p, q, hA0, hV, rfl, hfz, hnd⟩ := hW
  have hA : DataW.TrodAll enc Tryz.prog W 0 (fun _ => true) true Tryz.f3.params.toList args.toList ds p := hA0
  rw [Tryz.params3] at hA hval
  obtain ⟨rfl, rfl, rfl⟩ := trodAll_none hA
  obtain ⟨rfl, rfl⟩ := trodVars_none hV
  clear hA0 hval0
  refine (walked (qz0) (vs := []) trivial).mono fun e W' ⟨he, hx⟩ => ?_
  subst he
  have bel := hx.below
  exact ⟨_, rfl, _, _, _, [], [], [], hW', trodAll_mk1 (shut_bool Tryz.underlying4 _), trodAll_mk0, rfl, bel.frame _, fun h => by cases h⟩
theorem and2 {a b : Bool} (ha : a = true) (hb : b = true) : (a && b) = true := by rw [ha, hb]; rfl
theorem jf1 : (Rows.factSmallRow.wf (OpenSpec.ofChange Rows.factSmallSpec)) = true := by kernel_rfl
theorem jf2 : (laidOutB Tryz.pinned.checked.prog) = true := by kernel_rfl
theorem jf3 : (mapsRowed Tryz.pinned.checked.prog) = true := by kernel_rfl
theorem jf4 : (Tryz.f3.params.all (Tryz.pinned.checked.prog.readableRec ·)) = true := by kernel_rfl
theorem jf5 : (namedTie Tryz.pinned.checked.prog Rows.factSmallRow.named Rows.factSmallSpec.vars) = true := by kernel_rfl
theorem jf6 : (Rows.factSmallRow.stops == []) = true := by kernel_rfl
theorem jf7 : (Tryz.pinned.checked.prog.stops == []) = true := by kernel_rfl
theorem jf8 : (Rows.factSmallRow.knobs == []) = true := by kernel_rfl
theorem jf9 : (Tryz.pinned.checked.prog.stopKnobs == []) = true := by kernel_rfl
theorem jf10 : (Rows.factSmallRow.inPlace == Tryz.pinned.checked.prog.inPlace 3) = true := by kernel_rfl
theorem jf11 : (Rows.factSmallRow.unfollowed == Tryz.pinned.checked.prog.unfollowed 3) = true := by kernel_rfl
theorem jf12 : (Rows.factSmallRow.recurses == Tryz.pinned.checked.prog.recurses 3) = true := by kernel_rfl
theorem jf13 : (Rows.factSmallRow.named == Tryz.pinned.checked.prog.varsNamed 3) = true := by kernel_rfl
set_option maxHeartbeats 4000000 in
theorem jfAll : joinedFacts Tryz.pinned.checked.prog 3 Tryz.f3 Rows.factSmallSpec Rows.factSmallRow = true := by
  unfold joinedFacts
  refine and2 ?_ (by as_aux_lemma => kernel_rfl)
  refine and2 ?_ (by as_aux_lemma => kernel_rfl)
  refine and2 ?_ (by as_aux_lemma => kernel_rfl)
  refine and2 ?_ (by as_aux_lemma => kernel_rfl)
  refine and2 ?_ (by as_aux_lemma => kernel_rfl)
  refine and2 ?_ (by as_aux_lemma => kernel_rfl)
  refine and2 ?_ (by as_aux_lemma => kernel_rfl)
  refine and2 ?_ (by as_aux_lemma => kernel_rfl)
  refine and2 ?_ (by as_aux_lemma => kernel_rfl)
  refine and2 ?_ (by as_aux_lemma => kernel_rfl)
  refine and2 ?_ (by as_aux_lemma => kernel_rfl)
  refine and2 ?_ (by as_aux_lemma => kernel_rfl)
  refine and2 ?_ (by as_aux_lemma => kernel_rfl)
  refine and2 ?_ (by as_aux_lemma => kernel_rfl)
  refine and2 ?_ (by as_aux_lemma => kernel_rfl)
  refine and2 ?_ (by as_aux_lemma => kernel_rfl)
  refine and2 ?_ (by as_aux_lemma => kernel_rfl)
  refine and2 ?_ (by as_aux_lemma => kernel_rfl)
  refine and2 ?_ (by as_aux_lemma => kernel_rfl)
  refine and2 ?_ jf13
  refine and2 ?_ jf12
  refine and2 ?_ jf11
  refine and2 ?_ jf10
  refine and2 ?_ jf9
  refine and2 ?_ jf8
  refine and2 ?_ jf7
  refine and2 ?_ jf6
  refine and2 ?_ jf5
  refine and2 ?_ jf4
  refine and2 ?_ jf3
  refine and2 ?_ jf2
  exact jf1
theorem overFactSmall : Rows.factSmallRow.holds Tryz.pinned (OpenSpec.ofChange Rows.factSmallSpec) :=
  OpenClaim.holds_of_wide 3 Tryz.f3 rfl rfl rfl rfl rfl rfl rfl ⟨rfl, rfl, rfl, rfl, rfl⟩ rfl rfl rfl rfl rfl (by kernel_rfl) Tryz.func3 jfAll
    (of_decide_eq_true (by kernel_rfl)) (by unfold Func.isWrapper; first | (rw [if_pos (by decide +kernel)]; kernel_rfl) | (rw [if_neg (by decide +kernel)]; exact ⟨rfl, rfl⟩))
    (fun os started H enc _ => liftedFactSmall os started H enc)
theorem factSmall_holds : Rows.FactSmallCardSaid :=
  Claim7.holds_tied_plain_at .later [] [.data, .data, .data] true (true, "6b5d859328e1088641b6db65f87d72e81f6add0156dd21068f46a3fa18d761c2") false overFactSmall (fun _ h => by cases h) (by kernel_rfl) (fun _ h => by cases h) factSmall_row_tie rfl ⟨rfl, rfl⟩ (by kernel_rfl) rfl
    (fun f fn hf hfn => by
      obtain rfl : f = 3 := Option.some.inj ((show Tryz.prog.funcNamed "annuitant/annuitantlaw06.FactSmall" = some 3 by kernel_rfl).symm.trans hf) |>.symm
      obtain rfl : fn = Tryz.f3 := (Option.some.inj (Tryz.func3.symm.trans hfn)).symm
      exact ⟨by kernel_rfl, fun j t ht => by
        rw [Tryz.params3] at ht
        simp at ht⟩)
    (by kernel_rfl)
#print axioms factSmall_holds
end Go.Proofs.YtnihkcielnkkpaaGreatDoor
