/-
  No cell of these rows narrows 'for every input' (looked for: loops, veiled, ifaces, maps, wideKeys, modest, calm, conditions, laid).
  DERIVED. THE GIVEN ROWS OF THIS SEAT. 8 by the template 'for every input the law returns true; each argument reads behind the call as it read before'; 0 by the template 'total and deterministic' (their statements: YtnacfpmbanimpaaGreatTotals.lean).
  GIVEN WITH THE SEED: the statements are not yours to turn. If you find one false, say at which input.
  Laid BY PROGRAM, IN A SANDBOX (cutbox-rows.mjs): the forced cells as the released guide's own fill.sh prints them over the translation 945be6b5ccc90fd1… (all of the seat's roots in one cut). By AI agents, Wed Nov 11 2026. No macro, syntax, notation, axiom, sorry.
-/
import Derived.Test.YtnacfpmbanimpaaGreatChecked
import GoSem.Claim
import GoSem.ClaimJoined
import GoSem.ClaimMapViews
import Derived.JoinedTies
import Derived.KernelRfl
namespace Go.Proofs.YtnacfpmbanimpaaGreat
/- THE CELL 'sum', in the pinned program and in every row, IS THE sha256 OF THE DUMP (.gsa) THAT YtnacfpmbanimpaaGreatProg.lean LOADS. Nothing in Lean hashes anything: it is a label: what it is worth is what the hold of that sum in a sandbox is worth. -/
noncomputable def Tryz.pinned : Pinned := { name := "ytnacfpmbanimpaagreat", sum := "945be6b5ccc90fd195ee6daa0795ec21b42607f1a513e5b4f8ad43bf46693b9a", checked := Tryz.checked }
namespace Rows
def none {H : Type} : Left H := { results := [], args := [] }

/-- 'annuitantlaw05.TimelineJoin': WHATEVER THE INPUT: true; the input reads as it did. -/
def timelineJoinSpec : ChangeSpec := { name := "timelineJoin", fn := fun _ => fun
  | [d1, d2, d3] => { results := [.lit (.bool true)], args := [d1, d2, d3] }
  | _ => none }
def timelineJoinRow : OpenClaim := { program := "ytnacfpmbanimpaagreat", sum := "945be6b5ccc90fd195ee6daa0795ec21b42607f1a513e5b4f8ad43bf46693b9a", func := "annuitant/annuitantlaw05.TimelineJoin", spec := "timelineJoin", unfollowed := true, recurses := true, named := ["math/bits.overflowError"], apart := false }
def TimelineJoinSaid : Prop := timelineJoinRow.holds Tryz.pinned (OpenSpec.ofChange timelineJoinSpec)

/-- ITS FALSE NEIGHBOUR: 'it returns false'. Refute it at one input. -/
def timelineJoinWrong : ChangeSpec := { name := "timelineJoin", fn := fun _ => fun
  | [d1, d2, d3] => { results := [.lit (.bool false)], args := [d1, d2, d3] }
  | _ => none }
def TimelineJoinWrongFalsely : Prop := timelineJoinRow.holds Tryz.pinned (OpenSpec.ofChange timelineJoinWrong)

/-- 'annuitantlaw05.TimelineParts': WHATEVER THE INPUT: true; the input reads as it did. -/
def timelinePartsSpec : ChangeSpec := { name := "timelineParts", fn := fun _ => fun
  | [d1, d2, d3, d4] => { results := [.lit (.bool true)], args := [d1, d2, d3, d4] }
  | _ => none }
def timelinePartsRow : OpenClaim := { program := "ytnacfpmbanimpaagreat", sum := "945be6b5ccc90fd195ee6daa0795ec21b42607f1a513e5b4f8ad43bf46693b9a", func := "annuitant/annuitantlaw05.TimelineParts", spec := "timelineParts", unfollowed := true, recurses := true, named := ["math/bits.overflowError"], apart := false }
def TimelinePartsSaid : Prop := timelinePartsRow.holds Tryz.pinned (OpenSpec.ofChange timelinePartsSpec)

/-- ITS FALSE NEIGHBOUR: 'it returns false'. Refute it at one input. -/
def timelinePartsWrong : ChangeSpec := { name := "timelineParts", fn := fun _ => fun
  | [d1, d2, d3, d4] => { results := [.lit (.bool false)], args := [d1, d2, d3, d4] }
  | _ => none }
def TimelinePartsWrongFalsely : Prop := timelinePartsRow.holds Tryz.pinned (OpenSpec.ofChange timelinePartsWrong)

/-- 'annuitantlaw05.TimelineLaws': WHATEVER THE INPUT: true; the input reads as it did. -/
def timelineLawsSpec : ChangeSpec := { name := "timelineLaws", fn := fun _ => fun
  | [d1, d2, d3, d4, d5] => { results := [.lit (.bool true)], args := [d1, d2, d3, d4, d5] }
  | _ => none }
def timelineLawsRow : OpenClaim := { program := "ytnacfpmbanimpaagreat", sum := "945be6b5ccc90fd195ee6daa0795ec21b42607f1a513e5b4f8ad43bf46693b9a", func := "annuitant/annuitantlaw05.TimelineLaws", spec := "timelineLaws", unfollowed := true, recurses := true, named := ["math/bits.overflowError"], apart := false }
def TimelineLawsSaid : Prop := timelineLawsRow.holds Tryz.pinned (OpenSpec.ofChange timelineLawsSpec)

/-- ITS FALSE NEIGHBOUR: 'it returns false'. Refute it at one input. -/
def timelineLawsWrong : ChangeSpec := { name := "timelineLaws", fn := fun _ => fun
  | [d1, d2, d3, d4, d5] => { results := [.lit (.bool false)], args := [d1, d2, d3, d4, d5] }
  | _ => none }
def TimelineLawsWrongFalsely : Prop := timelineLawsRow.holds Tryz.pinned (OpenSpec.ofChange timelineLawsWrong)

/-- 'annuitantlaw05.TimelineAdds': WHATEVER THE INPUT: true; the input reads as it did. -/
def timelineAddsSpec : ChangeSpec := { name := "timelineAdds", fn := fun _ => fun
  | [d1, d2, d3, d4] => { results := [.lit (.bool true)], args := [d1, d2, d3, d4] }
  | _ => none }
def timelineAddsRow : OpenClaim := { program := "ytnacfpmbanimpaagreat", sum := "945be6b5ccc90fd195ee6daa0795ec21b42607f1a513e5b4f8ad43bf46693b9a", func := "annuitant/annuitantlaw05.TimelineAdds", spec := "timelineAdds", unfollowed := true, recurses := true, named := ["math/bits.overflowError"], apart := false }
def TimelineAddsSaid : Prop := timelineAddsRow.holds Tryz.pinned (OpenSpec.ofChange timelineAddsSpec)

/-- ITS FALSE NEIGHBOUR: 'it returns false'. Refute it at one input. -/
def timelineAddsWrong : ChangeSpec := { name := "timelineAdds", fn := fun _ => fun
  | [d1, d2, d3, d4] => { results := [.lit (.bool false)], args := [d1, d2, d3, d4] }
  | _ => none }
def TimelineAddsWrongFalsely : Prop := timelineAddsRow.holds Tryz.pinned (OpenSpec.ofChange timelineAddsWrong)

/-- 'annuitantlaw05.TimelineWrong': WHATEVER THE INPUT: true; the input reads as it did. -/
def timelineWrongSpec : ChangeSpec := { name := "timelineWrong", fn := fun _ => fun
  | [d1, d2, d3, d4] => { results := [.lit (.bool true)], args := [d1, d2, d3, d4] }
  | _ => none }
def timelineWrongRow : OpenClaim := { program := "ytnacfpmbanimpaagreat", sum := "945be6b5ccc90fd195ee6daa0795ec21b42607f1a513e5b4f8ad43bf46693b9a", func := "annuitant/annuitantlaw05.TimelineWrong", spec := "timelineWrong", unfollowed := true, recurses := true, named := ["math/bits.overflowError"], apart := false }
def TimelineWrongSaid : Prop := timelineWrongRow.holds Tryz.pinned (OpenSpec.ofChange timelineWrongSpec)

/-- ITS FALSE NEIGHBOUR: 'it returns false'. Refute it at one input. -/
def timelineWrongWrong : ChangeSpec := { name := "timelineWrong", fn := fun _ => fun
  | [d1, d2, d3, d4] => { results := [.lit (.bool false)], args := [d1, d2, d3, d4] }
  | _ => none }
def TimelineWrongWrongFalsely : Prop := timelineWrongRow.holds Tryz.pinned (OpenSpec.ofChange timelineWrongWrong)

/-- 'annuitantlaw05.TimelineDiffs': WHATEVER THE INPUT: true; the input reads as it did. -/
def timelineDiffsSpec : ChangeSpec := { name := "timelineDiffs", fn := fun _ => fun
  | [d1, d2, d3] => { results := [.lit (.bool true)], args := [d1, d2, d3] }
  | _ => none }
def timelineDiffsRow : OpenClaim := { program := "ytnacfpmbanimpaagreat", sum := "945be6b5ccc90fd195ee6daa0795ec21b42607f1a513e5b4f8ad43bf46693b9a", func := "annuitant/annuitantlaw05.TimelineDiffs", spec := "timelineDiffs", unfollowed := true, recurses := true, named := ["math/bits.overflowError"], apart := false }
def TimelineDiffsSaid : Prop := timelineDiffsRow.holds Tryz.pinned (OpenSpec.ofChange timelineDiffsSpec)

/-- ITS FALSE NEIGHBOUR: 'it returns false'. Refute it at one input. -/
def timelineDiffsWrong : ChangeSpec := { name := "timelineDiffs", fn := fun _ => fun
  | [d1, d2, d3] => { results := [.lit (.bool false)], args := [d1, d2, d3] }
  | _ => none }
def TimelineDiffsWrongFalsely : Prop := timelineDiffsRow.holds Tryz.pinned (OpenSpec.ofChange timelineDiffsWrong)

/-- 'annuitantlaw05.TimelineSpans': WHATEVER THE INPUT: true; the input reads as it did. -/
def timelineSpansSpec : ChangeSpec := { name := "timelineSpans", fn := fun _ => fun
  | [d1, d2] => { results := [.lit (.bool true)], args := [d1, d2] }
  | _ => none }
def timelineSpansRow : OpenClaim := { program := "ytnacfpmbanimpaagreat", sum := "945be6b5ccc90fd195ee6daa0795ec21b42607f1a513e5b4f8ad43bf46693b9a", func := "annuitant/annuitantlaw05.TimelineSpans", spec := "timelineSpans", unfollowed := true, recurses := true, named := ["math/bits.overflowError"], apart := false }
def TimelineSpansSaid : Prop := timelineSpansRow.holds Tryz.pinned (OpenSpec.ofChange timelineSpansSpec)

/-- ITS FALSE NEIGHBOUR: 'it returns false'. Refute it at one input. -/
def timelineSpansWrong : ChangeSpec := { name := "timelineSpans", fn := fun _ => fun
  | [d1, d2] => { results := [.lit (.bool false)], args := [d1, d2] }
  | _ => none }
def TimelineSpansWrongFalsely : Prop := timelineSpansRow.holds Tryz.pinned (OpenSpec.ofChange timelineSpansWrong)

/-- 'annuitantlaw05.TimelineCovers': WHATEVER THE INPUT: true; the input reads as it did. -/
def timelineCoversSpec : ChangeSpec := { name := "timelineCovers", fn := fun _ => fun
  | [d1, d2, d3] => { results := [.lit (.bool true)], args := [d1, d2, d3] }
  | _ => none }
def timelineCoversRow : OpenClaim := { program := "ytnacfpmbanimpaagreat", sum := "945be6b5ccc90fd195ee6daa0795ec21b42607f1a513e5b4f8ad43bf46693b9a", func := "annuitant/annuitantlaw05.TimelineCovers", spec := "timelineCovers", unfollowed := true, recurses := true, named := ["math/bits.overflowError"], apart := false }
def TimelineCoversSaid : Prop := timelineCoversRow.holds Tryz.pinned (OpenSpec.ofChange timelineCoversSpec)

/-- ITS FALSE NEIGHBOUR: 'it returns false'. Refute it at one input. -/
def timelineCoversWrong : ChangeSpec := { name := "timelineCovers", fn := fun _ => fun
  | [d1, d2, d3] => { results := [.lit (.bool false)], args := [d1, d2, d3] }
  | _ => none }
def TimelineCoversWrongFalsely : Prop := timelineCoversRow.holds Tryz.pinned (OpenSpec.ofChange timelineCoversWrong)

/- THE SECOND FORM. 'bulk': how many values and letters a reading holds, each counted each time it is reached (what is shared counts as often as it is met; a slice's spare places count too). A statement '..UptoSaid' is the law's where the arguments, and the package variables that the reading takes, are together of bulk at most 1048576: NARROWER than '..Said'. Prove '..Said' where nothing that the law and all that it calls make is longer than what came in: it says more and counts as full. Else prove '..UptoSaid'. A law counts once. -/
mutual
def uptoBulk {H : Type} : DataW H → Nat
  | .lit (.string bytes) => bytes.length + 1
  | .lit _ => 1
  | .nil => 1
  | .ptr d => uptoBulk d + 1
  | .slice elems spare => uptoBulkAll elems + uptoBulkAll spare + 1
  | .agg parts => uptoBulkAll parts + 1
  | .iface _ d => uptoBulk d + 1
  | .map entries => uptoBulkEntries entries + 1
  | .held _ => 1
def uptoBulkAll {H : Type} : List (DataW H) → Nat
  | [] => 0
  | d :: r => uptoBulk d + uptoBulkAll r
def uptoBulkEntries {H : Type} : List (Lit × DataW H) → Nat
  | [] => 0
  | x :: r => uptoBulkEntry x + uptoBulkEntries r
def uptoBulkEntry {H : Type} : Lit × DataW H → Nat
  | (.string bytes, d) => bytes.length + uptoBulk d + 1
  | (_, d) => uptoBulk d + 1
 end
def uptoSmall : (H : Type) → List (DataW H) → Bool := fun _ ds => decide (uptoBulkAll ds ≤ 1048576)
def OpenSpec.upto (s : _root_.Go.ChangeSpec) : _root_.Go.OpenSpec := { _root_.Go.OpenSpec.ofChange s with cond := some uptoSmall }

/-- 'annuitantlaw05.TimelineJoin', WHERE WHAT IT READS IS OF BULK AT MOST 1048576: true; the input reads as it did. -/
def timelineJoinUptoRow : OpenClaim := { program := "ytnacfpmbanimpaagreat", sum := "945be6b5ccc90fd195ee6daa0795ec21b42607f1a513e5b4f8ad43bf46693b9a", func := "annuitant/annuitantlaw05.TimelineJoin", spec := "timelineJoin", unfollowed := true, recurses := true, named := ["math/bits.overflowError"], apart := false, narrowed := true }
def TimelineJoinUptoSaid : Prop := timelineJoinUptoRow.holds Tryz.pinned (OpenSpec.upto timelineJoinSpec)

/-- 'annuitantlaw05.TimelineParts', WHERE WHAT IT READS IS OF BULK AT MOST 1048576: true; the input reads as it did. -/
def timelinePartsUptoRow : OpenClaim := { program := "ytnacfpmbanimpaagreat", sum := "945be6b5ccc90fd195ee6daa0795ec21b42607f1a513e5b4f8ad43bf46693b9a", func := "annuitant/annuitantlaw05.TimelineParts", spec := "timelineParts", unfollowed := true, recurses := true, named := ["math/bits.overflowError"], apart := false, narrowed := true }
def TimelinePartsUptoSaid : Prop := timelinePartsUptoRow.holds Tryz.pinned (OpenSpec.upto timelinePartsSpec)

/-- 'annuitantlaw05.TimelineLaws', WHERE WHAT IT READS IS OF BULK AT MOST 1048576: true; the input reads as it did. -/
def timelineLawsUptoRow : OpenClaim := { program := "ytnacfpmbanimpaagreat", sum := "945be6b5ccc90fd195ee6daa0795ec21b42607f1a513e5b4f8ad43bf46693b9a", func := "annuitant/annuitantlaw05.TimelineLaws", spec := "timelineLaws", unfollowed := true, recurses := true, named := ["math/bits.overflowError"], apart := false, narrowed := true }
def TimelineLawsUptoSaid : Prop := timelineLawsUptoRow.holds Tryz.pinned (OpenSpec.upto timelineLawsSpec)

/-- 'annuitantlaw05.TimelineAdds', WHERE WHAT IT READS IS OF BULK AT MOST 1048576: true; the input reads as it did. -/
def timelineAddsUptoRow : OpenClaim := { program := "ytnacfpmbanimpaagreat", sum := "945be6b5ccc90fd195ee6daa0795ec21b42607f1a513e5b4f8ad43bf46693b9a", func := "annuitant/annuitantlaw05.TimelineAdds", spec := "timelineAdds", unfollowed := true, recurses := true, named := ["math/bits.overflowError"], apart := false, narrowed := true }
def TimelineAddsUptoSaid : Prop := timelineAddsUptoRow.holds Tryz.pinned (OpenSpec.upto timelineAddsSpec)

/-- 'annuitantlaw05.TimelineWrong', WHERE WHAT IT READS IS OF BULK AT MOST 1048576: true; the input reads as it did. -/
def timelineWrongUptoRow : OpenClaim := { program := "ytnacfpmbanimpaagreat", sum := "945be6b5ccc90fd195ee6daa0795ec21b42607f1a513e5b4f8ad43bf46693b9a", func := "annuitant/annuitantlaw05.TimelineWrong", spec := "timelineWrong", unfollowed := true, recurses := true, named := ["math/bits.overflowError"], apart := false, narrowed := true }
def TimelineWrongUptoSaid : Prop := timelineWrongUptoRow.holds Tryz.pinned (OpenSpec.upto timelineWrongSpec)

/-- 'annuitantlaw05.TimelineDiffs', WHERE WHAT IT READS IS OF BULK AT MOST 1048576: true; the input reads as it did. -/
def timelineDiffsUptoRow : OpenClaim := { program := "ytnacfpmbanimpaagreat", sum := "945be6b5ccc90fd195ee6daa0795ec21b42607f1a513e5b4f8ad43bf46693b9a", func := "annuitant/annuitantlaw05.TimelineDiffs", spec := "timelineDiffs", unfollowed := true, recurses := true, named := ["math/bits.overflowError"], apart := false, narrowed := true }
def TimelineDiffsUptoSaid : Prop := timelineDiffsUptoRow.holds Tryz.pinned (OpenSpec.upto timelineDiffsSpec)

/-- 'annuitantlaw05.TimelineSpans', WHERE WHAT IT READS IS OF BULK AT MOST 1048576: true; the input reads as it did. -/
def timelineSpansUptoRow : OpenClaim := { program := "ytnacfpmbanimpaagreat", sum := "945be6b5ccc90fd195ee6daa0795ec21b42607f1a513e5b4f8ad43bf46693b9a", func := "annuitant/annuitantlaw05.TimelineSpans", spec := "timelineSpans", unfollowed := true, recurses := true, named := ["math/bits.overflowError"], apart := false, narrowed := true }
def TimelineSpansUptoSaid : Prop := timelineSpansUptoRow.holds Tryz.pinned (OpenSpec.upto timelineSpansSpec)

/-- 'annuitantlaw05.TimelineCovers', WHERE WHAT IT READS IS OF BULK AT MOST 1048576: true; the input reads as it did. -/
def timelineCoversUptoRow : OpenClaim := { program := "ytnacfpmbanimpaagreat", sum := "945be6b5ccc90fd195ee6daa0795ec21b42607f1a513e5b4f8ad43bf46693b9a", func := "annuitant/annuitantlaw05.TimelineCovers", spec := "timelineCovers", unfollowed := true, recurses := true, named := ["math/bits.overflowError"], apart := false, narrowed := true }
def TimelineCoversUptoSaid : Prop := timelineCoversUptoRow.holds Tryz.pinned (OpenSpec.upto timelineCoversSpec)

end Rows
end Go.Proofs.YtnacfpmbanimpaaGreat
