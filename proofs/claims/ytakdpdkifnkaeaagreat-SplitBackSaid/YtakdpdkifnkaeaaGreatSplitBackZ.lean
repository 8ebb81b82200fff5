/- SplitBack: for every list of deals, every state, every month and every amount, annuitantlaw24.SplitBack returns true and its arguments read as before. No condition. -/
import Derived.Test.YtakdpdkifnkaeaaGreatRows
import Derived.Test.YtakdpdkifnkaeaaGreatSplitBack5
namespace Go.Proofs.YtakdpdkifnkaeaaGreat
open Go.ChangeShapes Go.WideShapes Go.ChangeAt Go.RowKit An An.S
theorem own : ownKnob Tryz.prog.godebug = none := by kernel_rfl
theorem laidOut : laidOutB Tryz.prog = true := by kernel_rfl
theorem oBool : Opn Tryz.prog 4 1 false (fun b : Bool => tB b) (fun _ => True) := Opn.bool Tryz.underlying4 (by kernel_rfl)
theorem oInt : Opn Tryz.prog 3 1 false (fun n : Int => tI n) (fun n => IntKind.i64.min ≤ n ∧ n ≤ IntKind.i64.max) := Opn.int Tryz.underlying3 (by kernel_rfl)
theorem oU16 : Opn Tryz.prog 122 1 false (fun n : Nat => tE (.int .u16 n)) (fun n => n < 65536) := Opn.nat Tryz.underlying122 (by kernel_rfl) rfl rfl
theorem oLm : Opn Tryz.prog 46 1 false (fun l : List Nat => tLm l) (fun l => Dig 65536 l) := (Opn.slice Tryz.underlying46 (by kernel_rfl) oU16).as id (fun _ => rfl) (fun _ h => h)
theorem oInts : Opn Tryz.prog 23 1 false (fun l : List Int => tIs l) (fun _ => True) := (Opn.slice Tryz.underlying23 (by kernel_rfl) oInt).as id (fun _ => rfl) (fun _ _ => trivial)
theorem oWh : Opn Tryz.prog 48 2 true (fun x : Wh => tWh x) (fun x => Dig 65536 x.l) :=
  (Opn.struct Tryz.underlying48 (by kernel_rfl) (by decide) (OpnF.cons oBool rfl rfl (OpnF.cons oLm rfl rfl OpnF.nil rfl) rfl)).as (fun x => ⟨x.1, x.2.1⟩) (fun _ => rfl) (fun _ h => h.2.1)
theorem oFr : Opn Tryz.prog 50 4 true (fun x : Fr => tFr x) (fun x => x.dig) :=
  (Opn.struct Tryz.underlying50 (by kernel_rfl) (by decide) (OpnF.cons oWh rfl rfl (OpnF.cons oWh rfl rfl OpnF.nil rfl) rfl)).as (fun x => ⟨x.1, x.2.1⟩) (fun _ => rfl) (fun _ h => ⟨h.1, h.2.1⟩)
theorem oDeal : Opn Tryz.prog 68 7 true (fun x : Deal => tDeal x) (fun x => x.share.dig) :=
  (Opn.struct Tryz.underlying68 (by kernel_rfl) (by decide) (OpnF.cons oInt rfl rfl (OpnF.cons oInt rfl rfl (OpnF.cons oFr rfl rfl (OpnF.cons oInt rfl rfl OpnF.nil rfl) rfl) rfl) rfl)).as (fun x => ⟨x.1, x.2.1, x.2.2.1, x.2.2.2.1⟩) (fun _ => rfl) (fun _ h => h.2.2.1)
theorem oDeals : Opn Tryz.prog 22 1 false (fun l : List Deal => tL 7 true tDeal l) (fun l => ∀ d ∈ l, d.share.dig) := Opn.slice Tryz.underlying22 (by kernel_rfl) oDeal
theorem oState : Opn Tryz.prog 25 3 true (fun x : Int × List Int × List Int => tState x.1 x.2.1 x.2.2) (fun _ => True) :=
  (Opn.struct Tryz.underlying25 (by kernel_rfl) (by decide) (OpnF.cons oInt rfl rfl (OpnF.cons oInts rfl rfl (OpnF.cons oInts rfl rfl OpnF.nil rfl) rfl) rfl)).as (fun x => (x.1, x.2.1, x.2.2.1)) (fun _ => rfl) (fun _ _ => trivial)
/-- What a contract says, as the frame wants it. -/
theorem walked {f : FuncId} {ts : List Ty} (h : Ct Tryz.prog f ts (tB true)) {vs : List Value} {W : World} (ha : Tup.all (Old W) W ts vs) : Calls Tryz.prog f vs.toArray W fun e W' => e = .returned (.bool true) ∧ Ext W W' :=
  (h (Old W) W vs ha).mono fun e W' ⟨v, h1, h2, h3⟩ => by
    have h3 : v = .bool true := h3
    subst h3; exact ⟨h1, h2⟩
set_option maxRecDepth 100000 in
theorem lifted (os : Os) (started : os.Started) (H : Type) (enc : TypeId × Value → H) :
    ReturnsInHanded {} Tryz.checked os 3 .any (Rows.splitBackSpec.pre6 enc Tryz.prog Tryz.f3 Rows.splitBackRow.domain false) (Rows.splitBackSpec.post enc Tryz.prog Tryz.f3 false true false false) := by
  refine returnsInHanded_of_change (C := Tryz.checked) own started (by kernel_rfl) Tryz.func3
    (ChangeSpec.witness6 (enc := enc) (C := Tryz.checked) false ⟨#[], #[.slice none 0 0, .agg #[.int .i64 0, .slice none 0 0, .slice none 0 0], .int .i64 0, .int .i64 0], []⟩ 8 (by kernel_rfl) (by kernel_rfl) (by kernel_rfl) (by kernel_rfl)) ?_
  intro W base args ds gs before hval0 hW hcnd _
  have hval : ∀ (j : Nat) t v, Tryz.f3.params[j]? = some t → args[j]? = some v → Value.okWide Tryz.prog W .any base t v := hval0
  have hW' := hW
  obtain ⟨p, q, hA0, hV, rfl, hfz, hnd⟩ := hW
  have hA : DataW.TrodAll enc Tryz.prog W 0 (fun _ => true) true Tryz.f3.params.toList args.toList ds p := hA0
  rw [Tryz.params3] at hA hval
  obtain ⟨v0, vs0, d0, ds0, p0, q0, hargs, rfl, rfl, h0, r0⟩ := trodAll_cons hA
  obtain ⟨v1, vs1, d1, ds1, p1, q1, rfl, rfl, rfl, h1, r1⟩ := trodAll_cons r0
  obtain ⟨v2, vs2, d2, ds2, p2, q2, rfl, rfl, rfl, h2, r2⟩ := trodAll_cons r1
  obtain ⟨v3, vs3, d3, ds3, p3, q3, rfl, rfl, rfl, h3, r3⟩ := trodAll_cons r2
  obtain ⟨rfl, rfl, rfl⟩ := trodAll_nil r3
  obtain rfl : args = #[v0, v1, v2, v3] := by cases args; simp_all
  obtain ⟨rfl, rfl⟩ := trodVars_none hV
  obtain ⟨a0, k0, t0⟩ := oDeals.argL Tryz.underlying22 (hval 0 22 v0 rfl rfl) h0
  obtain ⟨a1, k1, t1⟩ := oState.argS Tryz.underlying25 (hval 1 25 v1 rfl rfl) h1
  obtain ⟨a2, k2, t2⟩ := oInt.argI Tryz.underlying3 (hval 2 3 v2 rfl rfl) h2
  obtain ⟨a3, k3, t3⟩ := oInt.argI Tryz.underlying3 (hval 3 3 v3 rfl rfl) h3
  have lt0 : ∀ x ∈ p0, x.block < W.heap.size := by obtain ⟨m, hm⟩ := h0; exact DataW.trod_lt m _ _ _ hm
  have lt1 : ∀ x ∈ p1, x.block < W.heap.size := by obtain ⟨m, hm⟩ := h1; exact DataW.trod_lt m _ _ _ hm
  have lt2 : ∀ x ∈ p2, x.block < W.heap.size := by obtain ⟨m, hm⟩ := h2; exact DataW.trod_lt m _ _ _ hm
  have lt3 : ∀ x ∈ p3, x.block < W.heap.size := by obtain ⟨m, hm⟩ := h3; exact DataW.trod_lt m _ _ _ hm
  clear hA0 hval0
  refine (walked (c_SplitBack a0 a1.1 a1.2.1 a1.2.2 a2 a3 k0) (vs := [v0, v1, v2, v3]) ⟨t0, t1, t2, t3, trivial⟩).mono fun e W' ⟨he, hx⟩ => ?_
  subst he
  have bel := hx.below
  exact ⟨_, rfl, _, _, _, [], _, [], hW', trodAll_mk1 (shut_bool Tryz.underlying4 _), (trodAll_cons_mk (Below.trod laidOut (by kernel_rfl) (of_decide_eq_true (by kernel_rfl)) h0 bel lt0) (trodAll_cons_mk (Below.trod laidOut (by kernel_rfl) (of_decide_eq_true (by kernel_rfl)) h1 bel lt1)
    (trodAll_cons_mk (Below.trod laidOut (by kernel_rfl) (of_decide_eq_true (by kernel_rfl)) h2 bel lt2) (trodAll_cons_mk (Below.trod laidOut (by kernel_rfl) (of_decide_eq_true (by kernel_rfl)) h3 bel lt3) trodAll_mk0)))), rfl, bel.frame _, fun h => by cases h⟩
theorem over : Rows.splitBackRow.holds Tryz.pinned (OpenSpec.ofChange Rows.splitBackSpec) :=
  OpenClaim.holds_of_wide 3 Tryz.f3 rfl rfl rfl rfl rfl rfl rfl ⟨rfl, rfl, rfl, rfl, rfl⟩ rfl rfl rfl rfl rfl (by kernel_rfl) Tryz.func3 (by kernel_rfl)
    (of_decide_eq_true (by kernel_rfl)) (by unfold Func.isWrapper; first | (rw [if_pos (by decide +kernel)]; kernel_rfl) | (rw [if_neg (by decide +kernel)]; exact ⟨rfl, rfl⟩))
    (fun os started H enc _ => lifted os started H enc)
theorem splitBack_holds : Rows.SplitBackSaid := over
#print axioms splitBack_holds
end Go.Proofs.YtakdpdkifnkaeaaGreat
