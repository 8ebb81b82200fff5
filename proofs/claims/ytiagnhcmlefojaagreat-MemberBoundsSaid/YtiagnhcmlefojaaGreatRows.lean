/-
  No cell of these rows narrows 'for every input' (looked for: loops, veiled, ifaces, maps, wideKeys, modest, calm, conditions, laid).
  DERIVED. THE GIVEN ROWS OF THIS SEAT. 7 by the template 'for every input the law returns true; each argument reads behind the call as it read before'; 0 by the template 'total and deterministic' (their statements: YtiagnhcmlefojaaGreatTotals.lean).
  GIVEN WITH THE SEED: the statements are not yours to turn. If you find one false, say at which input.
  Laid BY PROGRAM, IN A SANDBOX (cutbox-rows.mjs): the forced cells as the released guide's own fill.sh prints them over the translation 7e85d6d99a25f32e… (all of the seat's roots in one cut). By AI agents, Wed Nov 11 2026. No macro, syntax, notation, axiom, sorry.
-/
import Derived.Test.YtiagnhcmlefojaaGreatChecked
import GoSem.Claim
import GoSem.ClaimJoined
import GoSem.ClaimMapViews
import Derived.JoinedTies
import Derived.KernelRfl
namespace Go.Proofs.YtiagnhcmlefojaaGreat
/- THE CELL 'sum', in the pinned program and in every row, IS THE sha256 OF THE DUMP (.gsa) THAT YtiagnhcmlefojaaGreatProg.lean LOADS. Nothing in Lean hashes anything: it is a label: what it is worth is what the hold of that sum in a sandbox is worth. -/
noncomputable def Tryz.pinned : Pinned := { name := "ytiagnhcmlefojaagreat", sum := "7e85d6d99a25f32e637a98786b1d64fd9ade7692ee48a74f61d06a160d65f452", checked := Tryz.checked }
namespace Rows
def none {H : Type} : Left H := { results := [], args := [] }

/-- 'annuitantlaw22.MemberVoid': WHATEVER THE INPUT: true; the input reads as it did. -/
def memberVoidSpec : ChangeSpec := { name := "memberVoid", fn := fun _ => fun
  | [d1, d2] => { results := [.lit (.bool true)], args := [d1, d2] }
  | _ => none }
def memberVoidRow : OpenClaim := { program := "ytiagnhcmlefojaagreat", sum := "7e85d6d99a25f32e637a98786b1d64fd9ade7692ee48a74f61d06a160d65f452", func := "annuitant/annuitantlaw22.MemberVoid", spec := "memberVoid", unfollowed := true, recurses := true, named := ["math/bits.overflowError"], apart := false }
def MemberVoidSaid : Prop := memberVoidRow.holds Tryz.pinned (OpenSpec.ofChange memberVoidSpec)

/-- ITS FALSE NEIGHBOUR: 'it returns false'. Refute it at one input. -/
def memberVoidWrong : ChangeSpec := { name := "memberVoid", fn := fun _ => fun
  | [d1, d2] => { results := [.lit (.bool false)], args := [d1, d2] }
  | _ => none }
def MemberVoidWrongFalsely : Prop := memberVoidRow.holds Tryz.pinned (OpenSpec.ofChange memberVoidWrong)

/-- 'annuitantlaw22.MemberOrder': WHATEVER THE INPUT: true; the input reads as it did. -/
def memberOrderSpec : ChangeSpec := { name := "memberOrder", fn := fun _ => fun
  | [d1, d2] => { results := [.lit (.bool true)], args := [d1, d2] }
  | _ => none }
def memberOrderRow : OpenClaim := { program := "ytiagnhcmlefojaagreat", sum := "7e85d6d99a25f32e637a98786b1d64fd9ade7692ee48a74f61d06a160d65f452", func := "annuitant/annuitantlaw22.MemberOrder", spec := "memberOrder", unfollowed := true, recurses := true, named := ["math/bits.overflowError"], apart := false }
def MemberOrderSaid : Prop := memberOrderRow.holds Tryz.pinned (OpenSpec.ofChange memberOrderSpec)

/-- ITS FALSE NEIGHBOUR: 'it returns false'. Refute it at one input. -/
def memberOrderWrong : ChangeSpec := { name := "memberOrder", fn := fun _ => fun
  | [d1, d2] => { results := [.lit (.bool false)], args := [d1, d2] }
  | _ => none }
def MemberOrderWrongFalsely : Prop := memberOrderRow.holds Tryz.pinned (OpenSpec.ofChange memberOrderWrong)

/-- 'annuitantlaw22.MemberKnown': WHATEVER THE INPUT: true; the input reads as it did. -/
def memberKnownSpec : ChangeSpec := { name := "memberKnown", fn := fun _ => fun
  | [d1, d2, d3] => { results := [.lit (.bool true)], args := [d1, d2, d3] }
  | _ => none }
def memberKnownRow : OpenClaim := { program := "ytiagnhcmlefojaagreat", sum := "7e85d6d99a25f32e637a98786b1d64fd9ade7692ee48a74f61d06a160d65f452", func := "annuitant/annuitantlaw22.MemberKnown", spec := "memberKnown", unfollowed := true, recurses := true, named := ["math/bits.overflowError"], apart := false }
def MemberKnownSaid : Prop := memberKnownRow.holds Tryz.pinned (OpenSpec.ofChange memberKnownSpec)

/-- ITS FALSE NEIGHBOUR: 'it returns false'. Refute it at one input. -/
def memberKnownWrong : ChangeSpec := { name := "memberKnown", fn := fun _ => fun
  | [d1, d2, d3] => { results := [.lit (.bool false)], args := [d1, d2, d3] }
  | _ => none }
def MemberKnownWrongFalsely : Prop := memberKnownRow.holds Tryz.pinned (OpenSpec.ofChange memberKnownWrong)

/-- 'annuitantlaw22.MemberWrong': WHATEVER THE INPUT: true; the input reads as it did. -/
def memberWrongSpec : ChangeSpec := { name := "memberWrong", fn := fun _ => fun
  | [d1, d2] => { results := [.lit (.bool true)], args := [d1, d2] }
  | _ => none }
def memberWrongRow : OpenClaim := { program := "ytiagnhcmlefojaagreat", sum := "7e85d6d99a25f32e637a98786b1d64fd9ade7692ee48a74f61d06a160d65f452", func := "annuitant/annuitantlaw22.MemberWrong", spec := "memberWrong", unfollowed := true, recurses := true, named := ["math/bits.overflowError"], apart := false }
def MemberWrongSaid : Prop := memberWrongRow.holds Tryz.pinned (OpenSpec.ofChange memberWrongSpec)

/-- ITS FALSE NEIGHBOUR: 'it returns false'. Refute it at one input. -/
def memberWrongWrong : ChangeSpec := { name := "memberWrong", fn := fun _ => fun
  | [d1, d2] => { results := [.lit (.bool false)], args := [d1, d2] }
  | _ => none }
def MemberWrongWrongFalsely : Prop := memberWrongRow.holds Tryz.pinned (OpenSpec.ofChange memberWrongWrong)

/-- 'annuitantlaw22.MemberJobs': WHATEVER THE INPUT: true; the input reads as it did. -/
def memberJobsSpec : ChangeSpec := { name := "memberJobs", fn := fun _ => fun
  | [d1, d2, d3] => { results := [.lit (.bool true)], args := [d1, d2, d3] }
  | _ => none }
def memberJobsRow : OpenClaim := { program := "ytiagnhcmlefojaagreat", sum := "7e85d6d99a25f32e637a98786b1d64fd9ade7692ee48a74f61d06a160d65f452", func := "annuitant/annuitantlaw22.MemberJobs", spec := "memberJobs", unfollowed := true, recurses := true, named := ["math/bits.overflowError"], apart := false }
def MemberJobsSaid : Prop := memberJobsRow.holds Tryz.pinned (OpenSpec.ofChange memberJobsSpec)

/-- ITS FALSE NEIGHBOUR: 'it returns false'. Refute it at one input. -/
def memberJobsWrong : ChangeSpec := { name := "memberJobs", fn := fun _ => fun
  | [d1, d2, d3] => { results := [.lit (.bool false)], args := [d1, d2, d3] }
  | _ => none }
def MemberJobsWrongFalsely : Prop := memberJobsRow.holds Tryz.pinned (OpenSpec.ofChange memberJobsWrong)

/-- 'annuitantlaw22.MemberBounds': WHATEVER THE INPUT: true; the input reads as it did. -/
def memberBoundsSpec : ChangeSpec := { name := "memberBounds", fn := fun _ => fun
  | [d1, d2, d3] => { results := [.lit (.bool true)], args := [d1, d2, d3] }
  | _ => none }
def memberBoundsRow : OpenClaim := { program := "ytiagnhcmlefojaagreat", sum := "7e85d6d99a25f32e637a98786b1d64fd9ade7692ee48a74f61d06a160d65f452", func := "annuitant/annuitantlaw22.MemberBounds", spec := "memberBounds", unfollowed := true, recurses := true, named := ["math/bits.overflowError"], apart := false }
def MemberBoundsSaid : Prop := memberBoundsRow.holds Tryz.pinned (OpenSpec.ofChange memberBoundsSpec)

/-- ITS FALSE NEIGHBOUR: 'it returns false'. Refute it at one input. -/
def memberBoundsWrong : ChangeSpec := { name := "memberBounds", fn := fun _ => fun
  | [d1, d2, d3] => { results := [.lit (.bool false)], args := [d1, d2, d3] }
  | _ => none }
def MemberBoundsWrongFalsely : Prop := memberBoundsRow.holds Tryz.pinned (OpenSpec.ofChange memberBoundsWrong)

/-- 'annuitantlaw22.MemberViews': WHATEVER THE INPUT: true; the input reads as it did. -/
def memberViewsSpec : ChangeSpec := { name := "memberViews", fn := fun _ => fun
  | [d1, d2] => { results := [.lit (.bool true)], args := [d1, d2] }
  | _ => none }
def memberViewsRow : OpenClaim := { program := "ytiagnhcmlefojaagreat", sum := "7e85d6d99a25f32e637a98786b1d64fd9ade7692ee48a74f61d06a160d65f452", func := "annuitant/annuitantlaw22.MemberViews", spec := "memberViews", unfollowed := true, recurses := true, named := ["math/bits.overflowError"], apart := false }
def MemberViewsSaid : Prop := memberViewsRow.holds Tryz.pinned (OpenSpec.ofChange memberViewsSpec)

/-- ITS FALSE NEIGHBOUR: 'it returns false'. Refute it at one input. -/
def memberViewsWrong : ChangeSpec := { name := "memberViews", fn := fun _ => fun
  | [d1, d2] => { results := [.lit (.bool false)], args := [d1, d2] }
  | _ => none }
def MemberViewsWrongFalsely : Prop := memberViewsRow.holds Tryz.pinned (OpenSpec.ofChange memberViewsWrong)

/- THE SECOND FORM. 'bulk': how many values and letters a reading holds, each counted each time it is reached (what is shared counts as often as it is met; a slice's spare places count too). A statement '..UptoSaid' is the law's where the arguments, and the package variables that the reading takes, are together of bulk at most 1048576: NARROWER than '..Said'. Prove '..Said' where nothing that the law and all that it calls make is longer than what came in: it says more and counts as full. Else prove '..UptoSaid'. A law counts once. -/
mutual
def uptoBulk {H : Type} : DataW H → Nat
  | .lit (.string bytes) => bytes.length + 1
  | .lit _ => 1
  | .nil => 1
  | .ptr d => uptoBulk d + 1
  | .slice elems spare => uptoBulkAll elems + uptoBulkAll spare + 1
  | .agg parts => uptoBulkAll parts + 1
  | .iface _ d => uptoBulk d + 1
  | .map entries => uptoBulkEntries entries + 1
  | .held _ => 1
def uptoBulkAll {H : Type} : List (DataW H) → Nat
  | [] => 0
  | d :: r => uptoBulk d + uptoBulkAll r
def uptoBulkEntries {H : Type} : List (Lit × DataW H) → Nat
  | [] => 0
  | x :: r => uptoBulkEntry x + uptoBulkEntries r
def uptoBulkEntry {H : Type} : Lit × DataW H → Nat
  | (.string bytes, d) => bytes.length + uptoBulk d + 1
  | (_, d) => uptoBulk d + 1
 end
def uptoSmall : (H : Type) → List (DataW H) → Bool := fun _ ds => decide (uptoBulkAll ds ≤ 1048576)
def OpenSpec.upto (s : _root_.Go.ChangeSpec) : _root_.Go.OpenSpec := { _root_.Go.OpenSpec.ofChange s with cond := some uptoSmall }

/-- 'annuitantlaw22.MemberVoid', WHERE WHAT IT READS IS OF BULK AT MOST 1048576: true; the input reads as it did. -/
def memberVoidUptoRow : OpenClaim := { program := "ytiagnhcmlefojaagreat", sum := "7e85d6d99a25f32e637a98786b1d64fd9ade7692ee48a74f61d06a160d65f452", func := "annuitant/annuitantlaw22.MemberVoid", spec := "memberVoid", unfollowed := true, recurses := true, named := ["math/bits.overflowError"], apart := false, narrowed := true }
def MemberVoidUptoSaid : Prop := memberVoidUptoRow.holds Tryz.pinned (OpenSpec.upto memberVoidSpec)

/-- 'annuitantlaw22.MemberOrder', WHERE WHAT IT READS IS OF BULK AT MOST 1048576: true; the input reads as it did. -/
def memberOrderUptoRow : OpenClaim := { program := "ytiagnhcmlefojaagreat", sum := "7e85d6d99a25f32e637a98786b1d64fd9ade7692ee48a74f61d06a160d65f452", func := "annuitant/annuitantlaw22.MemberOrder", spec := "memberOrder", unfollowed := true, recurses := true, named := ["math/bits.overflowError"], apart := false, narrowed := true }
def MemberOrderUptoSaid : Prop := memberOrderUptoRow.holds Tryz.pinned (OpenSpec.upto memberOrderSpec)

/-- 'annuitantlaw22.MemberKnown', WHERE WHAT IT READS IS OF BULK AT MOST 1048576: true; the input reads as it did. -/
def memberKnownUptoRow : OpenClaim := { program := "ytiagnhcmlefojaagreat", sum := "7e85d6d99a25f32e637a98786b1d64fd9ade7692ee48a74f61d06a160d65f452", func := "annuitant/annuitantlaw22.MemberKnown", spec := "memberKnown", unfollowed := true, recurses := true, named := ["math/bits.overflowError"], apart := false, narrowed := true }
def MemberKnownUptoSaid : Prop := memberKnownUptoRow.holds Tryz.pinned (OpenSpec.upto memberKnownSpec)

/-- 'annuitantlaw22.MemberWrong', WHERE WHAT IT READS IS OF BULK AT MOST 1048576: true; the input reads as it did. -/
def memberWrongUptoRow : OpenClaim := { program := "ytiagnhcmlefojaagreat", sum := "7e85d6d99a25f32e637a98786b1d64fd9ade7692ee48a74f61d06a160d65f452", func := "annuitant/annuitantlaw22.MemberWrong", spec := "memberWrong", unfollowed := true, recurses := true, named := ["math/bits.overflowError"], apart := false, narrowed := true }
def MemberWrongUptoSaid : Prop := memberWrongUptoRow.holds Tryz.pinned (OpenSpec.upto memberWrongSpec)

/-- 'annuitantlaw22.MemberJobs', WHERE WHAT IT READS IS OF BULK AT MOST 1048576: true; the input reads as it did. -/
def memberJobsUptoRow : OpenClaim := { program := "ytiagnhcmlefojaagreat", sum := "7e85d6d99a25f32e637a98786b1d64fd9ade7692ee48a74f61d06a160d65f452", func := "annuitant/annuitantlaw22.MemberJobs", spec := "memberJobs", unfollowed := true, recurses := true, named := ["math/bits.overflowError"], apart := false, narrowed := true }
def MemberJobsUptoSaid : Prop := memberJobsUptoRow.holds Tryz.pinned (OpenSpec.upto memberJobsSpec)

/-- 'annuitantlaw22.MemberBounds', WHERE WHAT IT READS IS OF BULK AT MOST 1048576: true; the input reads as it did. -/
def memberBoundsUptoRow : OpenClaim := { program := "ytiagnhcmlefojaagreat", sum := "7e85d6d99a25f32e637a98786b1d64fd9ade7692ee48a74f61d06a160d65f452", func := "annuitant/annuitantlaw22.MemberBounds", spec := "memberBounds", unfollowed := true, recurses := true, named := ["math/bits.overflowError"], apart := false, narrowed := true }
def MemberBoundsUptoSaid : Prop := memberBoundsUptoRow.holds Tryz.pinned (OpenSpec.upto memberBoundsSpec)

/-- 'annuitantlaw22.MemberViews', WHERE WHAT IT READS IS OF BULK AT MOST 1048576: true; the input reads as it did. -/
def memberViewsUptoRow : OpenClaim := { program := "ytiagnhcmlefojaagreat", sum := "7e85d6d99a25f32e637a98786b1d64fd9ade7692ee48a74f61d06a160d65f452", func := "annuitant/annuitantlaw22.MemberViews", spec := "memberViews", unfollowed := true, recurses := true, named := ["math/bits.overflowError"], apart := false, narrowed := true }
def MemberViewsUptoSaid : Prop := memberViewsUptoRow.holds Tryz.pinned (OpenSpec.upto memberViewsSpec)

end Rows
end Go.Proofs.YtiagnhcmlefojaaGreat
