/-
  No cell of these rows narrows 'for every input' (looked for: loops, veiled, ifaces, maps, wideKeys, modest, calm, conditions, laid).
  DERIVED. THE GIVEN ROWS OF THIS SEAT. 7 by the template 'for every input the law returns true; each argument reads behind the call as it read before'; 0 by the template 'total and deterministic' (their statements: YtibnifedegepgaaGreatTotals.lean).
  GIVEN WITH THE SEED: the statements are not yours to turn. If you find one false, say at which input.
  Laid BY PROGRAM, IN A SANDBOX (cutbox-rows.mjs): the forced cells as the released guide's own fill.sh prints them over the translation bcbe962d8702aa93… (all of the seat's roots in one cut). By AI agents, Wed Nov 11 2026. No macro, syntax, notation, axiom, sorry.
-/
import Derived.Test.YtibnifedegepgaaGreatChecked
import GoSem.Claim
import GoSem.ClaimJoined
import GoSem.ClaimMapViews
import Derived.JoinedTies
import Derived.KernelRfl
namespace Go.Proofs.YtibnifedegepgaaGreat
/- THE CELL 'sum', in the pinned program and in every row, IS THE sha256 OF THE DUMP (.gsa) THAT YtibnifedegepgaaGreatProg.lean LOADS. Nothing in Lean hashes anything: it is a label: what it is worth is what the hold of that sum in a sandbox is worth. -/
noncomputable def Tryz.pinned : Pinned := { name := "ytibnifedegepgaagreat", sum := "bcbe962d8702aa93abb54d9e289c4156987189b48c176db93455485880ffd19f", checked := Tryz.checked }
namespace Rows
def none {H : Type} : Left H := { results := [], args := [] }

/-- 'annuitantlaw08.ServiceMonths': WHATEVER THE INPUT: true; the input reads as it did. -/
def serviceMonthsSpec : ChangeSpec := { name := "serviceMonths", fn := fun _ => fun
  | [d] => { results := [.lit (.bool true)], args := [d] }
  | _ => none }
def serviceMonthsRow : OpenClaim := { program := "ytibnifedegepgaagreat", sum := "bcbe962d8702aa93abb54d9e289c4156987189b48c176db93455485880ffd19f", func := "annuitant/annuitantlaw08.ServiceMonths", spec := "serviceMonths", unfollowed := true, recurses := true, named := ["math/bits.overflowError"], apart := false }
def ServiceMonthsSaid : Prop := serviceMonthsRow.holds Tryz.pinned (OpenSpec.ofChange serviceMonthsSpec)

/-- ITS FALSE NEIGHBOUR: 'it returns false'. Refute it at one input. -/
def serviceMonthsWrong : ChangeSpec := { name := "serviceMonths", fn := fun _ => fun
  | [d] => { results := [.lit (.bool false)], args := [d] }
  | _ => none }
def ServiceMonthsWrongFalsely : Prop := serviceMonthsRow.holds Tryz.pinned (OpenSpec.ofChange serviceMonthsWrong)

/-- 'annuitantlaw08.ServiceBounds': WHATEVER THE INPUT: true; the input reads as it did. -/
def serviceBoundsSpec : ChangeSpec := { name := "serviceBounds", fn := fun _ => fun
  | [d1, d2, d3] => { results := [.lit (.bool true)], args := [d1, d2, d3] }
  | _ => none }
def serviceBoundsRow : OpenClaim := { program := "ytibnifedegepgaagreat", sum := "bcbe962d8702aa93abb54d9e289c4156987189b48c176db93455485880ffd19f", func := "annuitant/annuitantlaw08.ServiceBounds", spec := "serviceBounds", unfollowed := true, recurses := true, named := ["math/bits.overflowError"], apart := false }
def ServiceBoundsSaid : Prop := serviceBoundsRow.holds Tryz.pinned (OpenSpec.ofChange serviceBoundsSpec)

/-- ITS FALSE NEIGHBOUR: 'it returns false'. Refute it at one input. -/
def serviceBoundsWrong : ChangeSpec := { name := "serviceBounds", fn := fun _ => fun
  | [d1, d2, d3] => { results := [.lit (.bool false)], args := [d1, d2, d3] }
  | _ => none }
def ServiceBoundsWrongFalsely : Prop := serviceBoundsRow.holds Tryz.pinned (OpenSpec.ofChange serviceBoundsWrong)

/-- 'annuitantlaw08.ServiceCaps': WHATEVER THE INPUT: true; the input reads as it did. -/
def serviceCapsSpec : ChangeSpec := { name := "serviceCaps", fn := fun _ => fun
  | [d1, d2, d3, d4, d5] => { results := [.lit (.bool true)], args := [d1, d2, d3, d4, d5] }
  | _ => none }
def serviceCapsRow : OpenClaim := { program := "ytibnifedegepgaagreat", sum := "bcbe962d8702aa93abb54d9e289c4156987189b48c176db93455485880ffd19f", func := "annuitant/annuitantlaw08.ServiceCaps", spec := "serviceCaps", unfollowed := true, recurses := true, named := ["math/bits.overflowError"], apart := false }
def ServiceCapsSaid : Prop := serviceCapsRow.holds Tryz.pinned (OpenSpec.ofChange serviceCapsSpec)

/-- ITS FALSE NEIGHBOUR: 'it returns false'. Refute it at one input. -/
def serviceCapsWrong : ChangeSpec := { name := "serviceCaps", fn := fun _ => fun
  | [d1, d2, d3, d4, d5] => { results := [.lit (.bool false)], args := [d1, d2, d3, d4, d5] }
  | _ => none }
def ServiceCapsWrongFalsely : Prop := serviceCapsRow.holds Tryz.pinned (OpenSpec.ofChange serviceCapsWrong)

/-- 'annuitantlaw08.ServiceWrong': WHATEVER THE INPUT: true; the input reads as it did. -/
def serviceWrongSpec : ChangeSpec := { name := "serviceWrong", fn := fun _ => fun
  | [d1, d2, d3, d4] => { results := [.lit (.bool true)], args := [d1, d2, d3, d4] }
  | _ => none }
def serviceWrongRow : OpenClaim := { program := "ytibnifedegepgaagreat", sum := "bcbe962d8702aa93abb54d9e289c4156987189b48c176db93455485880ffd19f", func := "annuitant/annuitantlaw08.ServiceWrong", spec := "serviceWrong", unfollowed := true, recurses := true, named := ["math/bits.overflowError"], apart := false }
def ServiceWrongSaid : Prop := serviceWrongRow.holds Tryz.pinned (OpenSpec.ofChange serviceWrongSpec)

/-- ITS FALSE NEIGHBOUR: 'it returns false'. Refute it at one input. -/
def serviceWrongWrong : ChangeSpec := { name := "serviceWrong", fn := fun _ => fun
  | [d1, d2, d3, d4] => { results := [.lit (.bool false)], args := [d1, d2, d3, d4] }
  | _ => none }
def ServiceWrongWrongFalsely : Prop := serviceWrongRow.holds Tryz.pinned (OpenSpec.ofChange serviceWrongWrong)

/-- 'annuitantlaw08.ServiceCounts': WHATEVER THE INPUT: true; the input reads as it did. -/
def serviceCountsSpec : ChangeSpec := { name := "serviceCounts", fn := fun _ => fun
  | [d1, d2, d3] => { results := [.lit (.bool true)], args := [d1, d2, d3] }
  | _ => none }
def serviceCountsRow : OpenClaim := { program := "ytibnifedegepgaagreat", sum := "bcbe962d8702aa93abb54d9e289c4156987189b48c176db93455485880ffd19f", func := "annuitant/annuitantlaw08.ServiceCounts", spec := "serviceCounts", unfollowed := true, recurses := true, named := ["math/bits.overflowError"], apart := false }
def ServiceCountsSaid : Prop := serviceCountsRow.holds Tryz.pinned (OpenSpec.ofChange serviceCountsSpec)

/-- ITS FALSE NEIGHBOUR: 'it returns false'. Refute it at one input. -/
def serviceCountsWrong : ChangeSpec := { name := "serviceCounts", fn := fun _ => fun
  | [d1, d2, d3] => { results := [.lit (.bool false)], args := [d1, d2, d3] }
  | _ => none }
def ServiceCountsWrongFalsely : Prop := serviceCountsRow.holds Tryz.pinned (OpenSpec.ofChange serviceCountsWrong)

/-- 'annuitantlaw08.ServiceAdds': WHATEVER THE INPUT: true; the input reads as it did. -/
def serviceAddsSpec : ChangeSpec := { name := "serviceAdds", fn := fun _ => fun
  | [d1, d2, d3, d4] => { results := [.lit (.bool true)], args := [d1, d2, d3, d4] }
  | _ => none }
def serviceAddsRow : OpenClaim := { program := "ytibnifedegepgaagreat", sum := "bcbe962d8702aa93abb54d9e289c4156987189b48c176db93455485880ffd19f", func := "annuitant/annuitantlaw08.ServiceAdds", spec := "serviceAdds", unfollowed := true, recurses := true, named := ["math/bits.overflowError"], apart := false }
def ServiceAddsSaid : Prop := serviceAddsRow.holds Tryz.pinned (OpenSpec.ofChange serviceAddsSpec)

/-- ITS FALSE NEIGHBOUR: 'it returns false'. Refute it at one input. -/
def serviceAddsWrong : ChangeSpec := { name := "serviceAdds", fn := fun _ => fun
  | [d1, d2, d3, d4] => { results := [.lit (.bool false)], args := [d1, d2, d3, d4] }
  | _ => none }
def ServiceAddsWrongFalsely : Prop := serviceAddsRow.holds Tryz.pinned (OpenSpec.ofChange serviceAddsWrong)

/-- 'annuitantlaw08.ServiceBreaks': WHATEVER THE INPUT: true; the input reads as it did. -/
def serviceBreaksSpec : ChangeSpec := { name := "serviceBreaks", fn := fun _ => fun
  | [d1, d2, d3, d4] => { results := [.lit (.bool true)], args := [d1, d2, d3, d4] }
  | _ => none }
def serviceBreaksRow : OpenClaim := { program := "ytibnifedegepgaagreat", sum := "bcbe962d8702aa93abb54d9e289c4156987189b48c176db93455485880ffd19f", func := "annuitant/annuitantlaw08.ServiceBreaks", spec := "serviceBreaks", unfollowed := true, recurses := true, named := ["math/bits.overflowError"], apart := false }
def ServiceBreaksSaid : Prop := serviceBreaksRow.holds Tryz.pinned (OpenSpec.ofChange serviceBreaksSpec)

/-- ITS FALSE NEIGHBOUR: 'it returns false'. Refute it at one input. -/
def serviceBreaksWrong : ChangeSpec := { name := "serviceBreaks", fn := fun _ => fun
  | [d1, d2, d3, d4] => { results := [.lit (.bool false)], args := [d1, d2, d3, d4] }
  | _ => none }
def ServiceBreaksWrongFalsely : Prop := serviceBreaksRow.holds Tryz.pinned (OpenSpec.ofChange serviceBreaksWrong)

/- THE SECOND FORM. 'bulk': how many values and letters a reading holds, each counted each time it is reached (what is shared counts as often as it is met; a slice's spare places count too). A statement '..UptoSaid' is the law's where the arguments, and the package variables that the reading takes, are together of bulk at most 1048576: NARROWER than '..Said'. Prove '..Said' where nothing that the law and all that it calls make is longer than what came in: it says more and counts as full. Else prove '..UptoSaid'. A law counts once. -/
mutual
def uptoBulk {H : Type} : DataW H → Nat
  | .lit (.string bytes) => bytes.length + 1
  | .lit _ => 1
  | .nil => 1
  | .ptr d => uptoBulk d + 1
  | .slice elems spare => uptoBulkAll elems + uptoBulkAll spare + 1
  | .agg parts => uptoBulkAll parts + 1
  | .iface _ d => uptoBulk d + 1
  | .map entries => uptoBulkEntries entries + 1
  | .held _ => 1
def uptoBulkAll {H : Type} : List (DataW H) → Nat
  | [] => 0
  | d :: r => uptoBulk d + uptoBulkAll r
def uptoBulkEntries {H : Type} : List (Lit × DataW H) → Nat
  | [] => 0
  | x :: r => uptoBulkEntry x + uptoBulkEntries r
def uptoBulkEntry {H : Type} : Lit × DataW H → Nat
  | (.string bytes, d) => bytes.length + uptoBulk d + 1
  | (_, d) => uptoBulk d + 1
 end
def uptoSmall : (H : Type) → List (DataW H) → Bool := fun _ ds => decide (uptoBulkAll ds ≤ 1048576)
def OpenSpec.upto (s : _root_.Go.ChangeSpec) : _root_.Go.OpenSpec := { _root_.Go.OpenSpec.ofChange s with cond := some uptoSmall }

/-- 'annuitantlaw08.ServiceMonths', WHERE WHAT IT READS IS OF BULK AT MOST 1048576: true; the input reads as it did. -/
def serviceMonthsUptoRow : OpenClaim := { program := "ytibnifedegepgaagreat", sum := "bcbe962d8702aa93abb54d9e289c4156987189b48c176db93455485880ffd19f", func := "annuitant/annuitantlaw08.ServiceMonths", spec := "serviceMonths", unfollowed := true, recurses := true, named := ["math/bits.overflowError"], apart := false, narrowed := true }
def ServiceMonthsUptoSaid : Prop := serviceMonthsUptoRow.holds Tryz.pinned (OpenSpec.upto serviceMonthsSpec)

/-- 'annuitantlaw08.ServiceBounds', WHERE WHAT IT READS IS OF BULK AT MOST 1048576: true; the input reads as it did. -/
def serviceBoundsUptoRow : OpenClaim := { program := "ytibnifedegepgaagreat", sum := "bcbe962d8702aa93abb54d9e289c4156987189b48c176db93455485880ffd19f", func := "annuitant/annuitantlaw08.ServiceBounds", spec := "serviceBounds", unfollowed := true, recurses := true, named := ["math/bits.overflowError"], apart := false, narrowed := true }
def ServiceBoundsUptoSaid : Prop := serviceBoundsUptoRow.holds Tryz.pinned (OpenSpec.upto serviceBoundsSpec)

/-- 'annuitantlaw08.ServiceCaps', WHERE WHAT IT READS IS OF BULK AT MOST 1048576: true; the input reads as it did. -/
def serviceCapsUptoRow : OpenClaim := { program := "ytibnifedegepgaagreat", sum := "bcbe962d8702aa93abb54d9e289c4156987189b48c176db93455485880ffd19f", func := "annuitant/annuitantlaw08.ServiceCaps", spec := "serviceCaps", unfollowed := true, recurses := true, named := ["math/bits.overflowError"], apart := false, narrowed := true }
def ServiceCapsUptoSaid : Prop := serviceCapsUptoRow.holds Tryz.pinned (OpenSpec.upto serviceCapsSpec)

/-- 'annuitantlaw08.ServiceWrong', WHERE WHAT IT READS IS OF BULK AT MOST 1048576: true; the input reads as it did. -/
def serviceWrongUptoRow : OpenClaim := { program := "ytibnifedegepgaagreat", sum := "bcbe962d8702aa93abb54d9e289c4156987189b48c176db93455485880ffd19f", func := "annuitant/annuitantlaw08.ServiceWrong", spec := "serviceWrong", unfollowed := true, recurses := true, named := ["math/bits.overflowError"], apart := false, narrowed := true }
def ServiceWrongUptoSaid : Prop := serviceWrongUptoRow.holds Tryz.pinned (OpenSpec.upto serviceWrongSpec)

/-- 'annuitantlaw08.ServiceCounts', WHERE WHAT IT READS IS OF BULK AT MOST 1048576: true; the input reads as it did. -/
def serviceCountsUptoRow : OpenClaim := { program := "ytibnifedegepgaagreat", sum := "bcbe962d8702aa93abb54d9e289c4156987189b48c176db93455485880ffd19f", func := "annuitant/annuitantlaw08.ServiceCounts", spec := "serviceCounts", unfollowed := true, recurses := true, named := ["math/bits.overflowError"], apart := false, narrowed := true }
def ServiceCountsUptoSaid : Prop := serviceCountsUptoRow.holds Tryz.pinned (OpenSpec.upto serviceCountsSpec)

/-- 'annuitantlaw08.ServiceAdds', WHERE WHAT IT READS IS OF BULK AT MOST 1048576: true; the input reads as it did. -/
def serviceAddsUptoRow : OpenClaim := { program := "ytibnifedegepgaagreat", sum := "bcbe962d8702aa93abb54d9e289c4156987189b48c176db93455485880ffd19f", func := "annuitant/annuitantlaw08.ServiceAdds", spec := "serviceAdds", unfollowed := true, recurses := true, named := ["math/bits.overflowError"], apart := false, narrowed := true }
def ServiceAddsUptoSaid : Prop := serviceAddsUptoRow.holds Tryz.pinned (OpenSpec.upto serviceAddsSpec)

/-- 'annuitantlaw08.ServiceBreaks', WHERE WHAT IT READS IS OF BULK AT MOST 1048576: true; the input reads as it did. -/
def serviceBreaksUptoRow : OpenClaim := { program := "ytibnifedegepgaagreat", sum := "bcbe962d8702aa93abb54d9e289c4156987189b48c176db93455485880ffd19f", func := "annuitant/annuitantlaw08.ServiceBreaks", spec := "serviceBreaks", unfollowed := true, recurses := true, named := ["math/bits.overflowError"], apart := false, narrowed := true }
def ServiceBreaksUptoSaid : Prop := serviceBreaksUptoRow.holds Tryz.pinned (OpenSpec.upto serviceBreaksSpec)

end Rows
end Go.Proofs.YtibnifedegepgaaGreat
