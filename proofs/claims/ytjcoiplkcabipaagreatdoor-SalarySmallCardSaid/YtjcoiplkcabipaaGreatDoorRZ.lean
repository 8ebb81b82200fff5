/- SalarySmall: a closed statement about pay -/
import Derived.Test.YtjcoiplkcabipaaGreatDoorRows
import Derived.Test.YtjcoiplkcabipaaGreatDoorCards
import Derived.Test.YtjcoiplkcabipaaGreatDoorTie
import Derived.SevenTiedAt
import Derived.Test.YtjcoiplkcabipaaGreatDoorR5
namespace Go.Proofs.YtjcoiplkcabipaaGreatDoor
open Go.ChangeShapes Go.WideShapes Go.ChangeAt Go.RowKit An An.S
theorem walked0 {K : Kw} {f : FuncId} (h : Ct0 K Tryz.prog f (tB true)) {W : World} (ha : K.p (Old W) W) : Calls Tryz.prog f #[] W fun e W' => e = .returned (.bool true) ∧ Ext W W' :=
  (h (Old W) W ha).mono fun e W' ⟨v, h1, h2, h3⟩ => by
    have h3 : v = .bool true := h3
    subst h3; exact ⟨h1, h2⟩
set_option maxRecDepth 100000 in
theorem liftedSalarySmall (os : Os) (started : os.Started) (H : Type) (enc : TypeId × Value → H) :
    ReturnsInHanded {} Tryz.checked os 4 .any (fun w args => (Rows.salarySmallSpec.pre enc Tryz.prog Tryz.f4 Rows.salarySmallRow.domain false w args ∧ laidMetH Tryz.prog laidL w) ∧ sizedMet enc Tryz.prog Tryz.f4 (OpenSpec.ofChange Rows.salarySmallSpec) false w args) (Rows.salarySmallSpec.post enc Tryz.prog Tryz.f4 false true false false) := by
  refine returnsInHanded_of_change_and (C := Tryz.checked) (X := fun w _ => laidMetH Tryz.prog laidL w) (fun _ _ _ hh h => h.of_heap hh) own started (by kernel_rfl) Tryz.func4
    (ChangeSpec.witness_at (enc := enc) (C := Tryz.checked) (os := os) (X := fun w _ => laidMetH Tryz.prog laidL w) false (laidWorld os) #[] 8 rfl (by kernel_rfl) (by kernel_rfl) (by kernel_rfl) (by kernel_rfl) (by kernel_rfl) (laidWorld_met os _)) ?_
  intro W base args ds gs before hval0 hW hcnd hsz hL _
  have hval : ∀ (j : Nat) t v, Tryz.f4.params[j]? = some t → args[j]? = some v → Value.okWide Tryz.prog W .any base t v := hval0
  have hW' := hW
  obtain ⟨p, q, hA0, hV, rfl, hfz, hnd⟩ := hW
  have hA : DataW.TrodAll enc Tryz.prog W 0 (fun _ => true) true Tryz.f4.params.toList args.toList ds p := hA0
  rw [Tryz.params4] at hA hval
  obtain ⟨rfl, rfl, rfl⟩ := trodAll_none hA
  obtain ⟨rfl, rfl⟩ := trodVars_none hV
  clear hA0 hval0
  refine (walked0 c_SlSmall (kl_of hL)).mono fun e W' ⟨he, hx⟩ => ?_
  subst he
  have bel := hx.below
  exact ⟨_, rfl, _, _, _, [], [], [], hW', trodAll_mk1 (shut_bool Tryz.underlying4 _), trodAll_mk0, rfl, bel.frame _, fun h => by cases h⟩
theorem overSalarySmall : Rows.salarySmallRow.holds Tryz.pinned (OpenSpec.ofChange Rows.salarySmallSpec) :=
  OpenClaim.holds_of_wide 4 Tryz.f4 rfl rfl rfl rfl rfl rfl rfl ⟨rfl, rfl, rfl, rfl, rfl⟩ rfl rfl rfl rfl rfl (by kernel_rfl) Tryz.func4 (by kernel_rfl)
    (of_decide_eq_true (by kernel_rfl)) (by unfold Func.isWrapper; first | (rw [if_pos (by decide +kernel)]; kernel_rfl) | (rw [if_neg (by decide +kernel)]; exact ⟨rfl, rfl⟩))
    (fun os started H enc _ => liftedSalarySmall os started H enc)
theorem salarySmall_holds : Rows.SalarySmallCardSaid :=
  Claim7.holds_tied_plain_at .later [] [.data] true (true, "7957c93f3e24314e826c5f1ff1b3240867091b0209ffade7d51d577c63947538") false overSalarySmall (fun _ h => by cases h) (by kernel_rfl) (fun _ h => by cases h) salarySmall_row_tie rfl ⟨rfl, rfl⟩ (by kernel_rfl) rfl
    (fun f fn hf hfn => by
      obtain rfl : f = 4 := Option.some.inj ((show Tryz.prog.funcNamed "annuitant/annuitantlaw09.SalarySmall" = some 4 by kernel_rfl).symm.trans hf) |>.symm
      obtain rfl : fn = Tryz.f4 := (Option.some.inj (Tryz.func4.symm.trans hfn)).symm
      exact ⟨by kernel_rfl, fun j t ht => by
        rw [Tryz.params4] at ht
        simp at ht⟩)
    (by kernel_rfl)
#print axioms salarySmall_holds
end Go.Proofs.YtjcoiplkcabipaaGreatDoor
