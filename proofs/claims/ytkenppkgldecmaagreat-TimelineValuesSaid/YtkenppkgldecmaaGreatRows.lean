/-
  No cell of these rows narrows 'for every input' (looked for: loops, veiled, ifaces, maps, wideKeys, modest, calm, conditions, laid).
  DERIVED. THE GIVEN ROWS OF THIS SEAT. 3 by the template 'for every input the law returns true; each argument reads behind the call as it read before'; 0 by the template 'total and deterministic' (their statements: YtkenppkgldecmaaGreatTotals.lean).
  GIVEN WITH THE SEED: the statements are not yours to turn. If you find one false, say at which input.
  Laid BY PROGRAM, IN A SANDBOX (cutbox-rows.mjs): the forced cells as the released guide's own fill.sh prints them over the translation 0b12b272bb143744… (all of the seat's roots in one cut). By AI agents, Wed Nov 11 2026. No macro, syntax, notation, axiom, sorry.
-/
import Derived.Test.YtkenppkgldecmaaGreatChecked
import GoSem.Claim
import GoSem.ClaimJoined
import GoSem.ClaimMapViews
import Derived.JoinedTies
import Derived.KernelRfl
namespace Go.Proofs.YtkenppkgldecmaaGreat
/- THE CELL 'sum', in the pinned program and in every row, IS THE sha256 OF THE DUMP (.gsa) THAT YtkenppkgldecmaaGreatProg.lean LOADS. Nothing in Lean hashes anything: it is a label: what it is worth is what the hold of that sum in a sandbox is worth. -/
noncomputable def Tryz.pinned : Pinned := { name := "ytkenppkgldecmaagreat", sum := "0b12b272bb143744e83538c94c4ef4b0dd537717e27b414cba69255149dfcacc", checked := Tryz.checked }
namespace Rows
def none {H : Type} : Left H := { results := [], args := [] }

/-- 'annuitantlaw24.SplitRuns': WHATEVER THE INPUT: true; the input reads as it did. -/
def splitRunsSpec : ChangeSpec := { name := "splitRuns", fn := fun _ => fun
  | [d1, d2, d3] => { results := [.lit (.bool true)], args := [d1, d2, d3] }
  | _ => none }
def splitRunsRow : OpenClaim := { program := "ytkenppkgldecmaagreat", sum := "0b12b272bb143744e83538c94c4ef4b0dd537717e27b414cba69255149dfcacc", func := "annuitant/annuitantlaw24.SplitRuns", spec := "splitRuns", unfollowed := true, recurses := true, named := ["math/bits.overflowError"], apart := false }
def SplitRunsSaid : Prop := splitRunsRow.holds Tryz.pinned (OpenSpec.ofChange splitRunsSpec)

/-- ITS FALSE NEIGHBOUR: 'it returns false'. Refute it at one input. -/
def splitRunsWrong : ChangeSpec := { name := "splitRuns", fn := fun _ => fun
  | [d1, d2, d3] => { results := [.lit (.bool false)], args := [d1, d2, d3] }
  | _ => none }
def SplitRunsWrongFalsely : Prop := splitRunsRow.holds Tryz.pinned (OpenSpec.ofChange splitRunsWrong)

/-- 'annuitantlaw08.ServiceMonths': WHATEVER THE INPUT: true; the input reads as it did. -/
def serviceMonthsSpec : ChangeSpec := { name := "serviceMonths", fn := fun _ => fun
  | [d] => { results := [.lit (.bool true)], args := [d] }
  | _ => none }
def serviceMonthsRow : OpenClaim := { program := "ytkenppkgldecmaagreat", sum := "0b12b272bb143744e83538c94c4ef4b0dd537717e27b414cba69255149dfcacc", func := "annuitant/annuitantlaw08.ServiceMonths", spec := "serviceMonths", unfollowed := true, recurses := true, named := ["math/bits.overflowError"], apart := false }
def ServiceMonthsSaid : Prop := serviceMonthsRow.holds Tryz.pinned (OpenSpec.ofChange serviceMonthsSpec)

/-- ITS FALSE NEIGHBOUR: 'it returns false'. Refute it at one input. -/
def serviceMonthsWrong : ChangeSpec := { name := "serviceMonths", fn := fun _ => fun
  | [d] => { results := [.lit (.bool false)], args := [d] }
  | _ => none }
def ServiceMonthsWrongFalsely : Prop := serviceMonthsRow.holds Tryz.pinned (OpenSpec.ofChange serviceMonthsWrong)

/-- 'annuitantlaw05.TimelineValues': WHATEVER THE INPUT: true; the input reads as it did. -/
def timelineValuesSpec : ChangeSpec := { name := "timelineValues", fn := fun _ => fun
  | [d1, d2] => { results := [.lit (.bool true)], args := [d1, d2] }
  | _ => none }
def timelineValuesRow : OpenClaim := { program := "ytkenppkgldecmaagreat", sum := "0b12b272bb143744e83538c94c4ef4b0dd537717e27b414cba69255149dfcacc", func := "annuitant/annuitantlaw05.TimelineValues", spec := "timelineValues", unfollowed := true, recurses := true, named := ["math/bits.overflowError"], apart := false }
def TimelineValuesSaid : Prop := timelineValuesRow.holds Tryz.pinned (OpenSpec.ofChange timelineValuesSpec)

/-- ITS FALSE NEIGHBOUR: 'it returns false'. Refute it at one input. -/
def timelineValuesWrong : ChangeSpec := { name := "timelineValues", fn := fun _ => fun
  | [d1, d2] => { results := [.lit (.bool false)], args := [d1, d2] }
  | _ => none }
def TimelineValuesWrongFalsely : Prop := timelineValuesRow.holds Tryz.pinned (OpenSpec.ofChange timelineValuesWrong)

/- THE SECOND FORM. 'bulk': how many values and letters a reading holds, each counted each time it is reached (what is shared counts as often as it is met; a slice's spare places count too). A statement '..UptoSaid' is the law's where the arguments, and the package variables that the reading takes, are together of bulk at most 1048576: NARROWER than '..Said'. Prove '..Said' where nothing that the law and all that it calls make is longer than what came in: it says more and counts as full. Else prove '..UptoSaid'. A law counts once. -/
mutual
def uptoBulk {H : Type} : DataW H → Nat
  | .lit (.string bytes) => bytes.length + 1
  | .lit _ => 1
  | .nil => 1
  | .ptr d => uptoBulk d + 1
  | .slice elems spare => uptoBulkAll elems + uptoBulkAll spare + 1
  | .agg parts => uptoBulkAll parts + 1
  | .iface _ d => uptoBulk d + 1
  | .map entries => uptoBulkEntries entries + 1
  | .held _ => 1
def uptoBulkAll {H : Type} : List (DataW H) → Nat
  | [] => 0
  | d :: r => uptoBulk d + uptoBulkAll r
def uptoBulkEntries {H : Type} : List (Lit × DataW H) → Nat
  | [] => 0
  | x :: r => uptoBulkEntry x + uptoBulkEntries r
def uptoBulkEntry {H : Type} : Lit × DataW H → Nat
  | (.string bytes, d) => bytes.length + uptoBulk d + 1
  | (_, d) => uptoBulk d + 1
 end
def uptoSmall : (H : Type) → List (DataW H) → Bool := fun _ ds => decide (uptoBulkAll ds ≤ 1048576)
def OpenSpec.upto (s : _root_.Go.ChangeSpec) : _root_.Go.OpenSpec := { _root_.Go.OpenSpec.ofChange s with cond := some uptoSmall }

/-- 'annuitantlaw24.SplitRuns', WHERE WHAT IT READS IS OF BULK AT MOST 1048576: true; the input reads as it did. -/
def splitRunsUptoRow : OpenClaim := { program := "ytkenppkgldecmaagreat", sum := "0b12b272bb143744e83538c94c4ef4b0dd537717e27b414cba69255149dfcacc", func := "annuitant/annuitantlaw24.SplitRuns", spec := "splitRuns", unfollowed := true, recurses := true, named := ["math/bits.overflowError"], apart := false, narrowed := true }
def SplitRunsUptoSaid : Prop := splitRunsUptoRow.holds Tryz.pinned (OpenSpec.upto splitRunsSpec)

/-- 'annuitantlaw08.ServiceMonths', WHERE WHAT IT READS IS OF BULK AT MOST 1048576: true; the input reads as it did. -/
def serviceMonthsUptoRow : OpenClaim := { program := "ytkenppkgldecmaagreat", sum := "0b12b272bb143744e83538c94c4ef4b0dd537717e27b414cba69255149dfcacc", func := "annuitant/annuitantlaw08.ServiceMonths", spec := "serviceMonths", unfollowed := true, recurses := true, named := ["math/bits.overflowError"], apart := false, narrowed := true }
def ServiceMonthsUptoSaid : Prop := serviceMonthsUptoRow.holds Tryz.pinned (OpenSpec.upto serviceMonthsSpec)

/-- 'annuitantlaw05.TimelineValues', WHERE WHAT IT READS IS OF BULK AT MOST 1048576: true; the input reads as it did. -/
def timelineValuesUptoRow : OpenClaim := { program := "ytkenppkgldecmaagreat", sum := "0b12b272bb143744e83538c94c4ef4b0dd537717e27b414cba69255149dfcacc", func := "annuitant/annuitantlaw05.TimelineValues", spec := "timelineValues", unfollowed := true, recurses := true, named := ["math/bits.overflowError"], apart := false, narrowed := true }
def TimelineValuesUptoSaid : Prop := timelineValuesUptoRow.holds Tryz.pinned (OpenSpec.upto timelineValuesSpec)

end Rows
end Go.Proofs.YtkenppkgldecmaaGreat
