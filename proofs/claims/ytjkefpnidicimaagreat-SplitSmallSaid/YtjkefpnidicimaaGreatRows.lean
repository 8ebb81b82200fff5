/-
  No cell of these rows narrows 'for every input' (looked for: loops, veiled, ifaces, maps, wideKeys, modest, calm, conditions, laid).
  DERIVED. THE GIVEN ROWS OF THIS SEAT. 8 by the template 'for every input the law returns true; each argument reads behind the call as it read before'; 0 by the template 'total and deterministic' (their statements: YtjkefpnidicimaaGreatTotals.lean).
  GIVEN WITH THE SEED: the statements are not yours to turn. If you find one false, say at which input.
  Laid BY PROGRAM, IN A SANDBOX (cutbox-rows.mjs): the forced cells as the released guide's own fill.sh prints them over the translation 64b7788ae903321d… (all of the seat's roots in one cut). By AI agents, Wed Nov 11 2026. No macro, syntax, notation, axiom, sorry.
-/
import Derived.Test.YtjkefpnidicimaaGreatChecked
import GoSem.Claim
import GoSem.ClaimJoined
import GoSem.ClaimMapViews
import Derived.JoinedTies
import Derived.KernelRfl
namespace Go.Proofs.YtjkefpnidicimaaGreat
/- THE CELL 'sum', in the pinned program and in every row, IS THE sha256 OF THE DUMP (.gsa) THAT YtjkefpnidicimaaGreatProg.lean LOADS. Nothing in Lean hashes anything: it is a label: what it is worth is what the hold of that sum in a sandbox is worth. -/
noncomputable def Tryz.pinned : Pinned := { name := "ytjkefpnidicimaagreat", sum := "64b7788ae903321df810ef67501cbbc037ac41e3c29b14d67be1db254ad9f30e", checked := Tryz.checked }
namespace Rows
def none {H : Type} : Left H := { results := [], args := [] }

/-- 'annuitantlaw24.SplitTells': WHATEVER THE INPUT: true; the input reads as it did. -/
def splitTellsSpec : ChangeSpec := { name := "splitTells", fn := fun _ => fun
  | [d1, d2, d3, d4] => { results := [.lit (.bool true)], args := [d1, d2, d3, d4] }
  | _ => none }
def splitTellsRow : OpenClaim := { program := "ytjkefpnidicimaagreat", sum := "64b7788ae903321df810ef67501cbbc037ac41e3c29b14d67be1db254ad9f30e", func := "annuitant/annuitantlaw24.SplitTells", spec := "splitTells", unfollowed := true, recurses := true, named := ["math/bits.overflowError"], apart := false }
def SplitTellsSaid : Prop := splitTellsRow.holds Tryz.pinned (OpenSpec.ofChange splitTellsSpec)

/-- ITS FALSE NEIGHBOUR: 'it returns false'. Refute it at one input. -/
def splitTellsWrong : ChangeSpec := { name := "splitTells", fn := fun _ => fun
  | [d1, d2, d3, d4] => { results := [.lit (.bool false)], args := [d1, d2, d3, d4] }
  | _ => none }
def SplitTellsWrongFalsely : Prop := splitTellsRow.holds Tryz.pinned (OpenSpec.ofChange splitTellsWrong)

/-- 'annuitantlaw24.SplitSmall': WHATEVER THE INPUT: true; the input reads as it did. -/
def splitSmallSpec : ChangeSpec := { name := "splitSmall", fn := fun _ => fun
  | [] => { results := [.lit (.bool true)], args := [] }
  | _ => none }
def splitSmallRow : OpenClaim := { program := "ytjkefpnidicimaagreat", sum := "64b7788ae903321df810ef67501cbbc037ac41e3c29b14d67be1db254ad9f30e", func := "annuitant/annuitantlaw24.SplitSmall", spec := "splitSmall", unfollowed := true, recurses := true, named := ["math/bits.overflowError"], apart := false }
def SplitSmallSaid : Prop := splitSmallRow.holds Tryz.pinned (OpenSpec.ofChange splitSmallSpec)

/-- ITS FALSE NEIGHBOUR: 'it returns false'. Refute it at one input. -/
def splitSmallWrong : ChangeSpec := { name := "splitSmall", fn := fun _ => fun
  | [] => { results := [.lit (.bool false)], args := [] }
  | _ => none }
def SplitSmallWrongFalsely : Prop := splitSmallRow.holds Tryz.pinned (OpenSpec.ofChange splitSmallWrong)

/-- 'annuitantlaw08.ServiceYears': WHATEVER THE INPUT: true; the input reads as it did. -/
def serviceYearsSpec : ChangeSpec := { name := "serviceYears", fn := fun _ => fun
  | [d1, d2, d3, d4] => { results := [.lit (.bool true)], args := [d1, d2, d3, d4] }
  | _ => none }
def serviceYearsRow : OpenClaim := { program := "ytjkefpnidicimaagreat", sum := "64b7788ae903321df810ef67501cbbc037ac41e3c29b14d67be1db254ad9f30e", func := "annuitant/annuitantlaw08.ServiceYears", spec := "serviceYears", unfollowed := true, recurses := true, named := ["math/bits.overflowError"], apart := false }
def ServiceYearsSaid : Prop := serviceYearsRow.holds Tryz.pinned (OpenSpec.ofChange serviceYearsSpec)

/-- ITS FALSE NEIGHBOUR: 'it returns false'. Refute it at one input. -/
def serviceYearsWrong : ChangeSpec := { name := "serviceYears", fn := fun _ => fun
  | [d1, d2, d3, d4] => { results := [.lit (.bool false)], args := [d1, d2, d3, d4] }
  | _ => none }
def ServiceYearsWrongFalsely : Prop := serviceYearsRow.holds Tryz.pinned (OpenSpec.ofChange serviceYearsWrong)

/-- 'annuitantlaw08.ServiceSets': WHATEVER THE INPUT: true; the input reads as it did. -/
def serviceSetsSpec : ChangeSpec := { name := "serviceSets", fn := fun _ => fun
  | [d1, d2, d3, d4] => { results := [.lit (.bool true)], args := [d1, d2, d3, d4] }
  | _ => none }
def serviceSetsRow : OpenClaim := { program := "ytjkefpnidicimaagreat", sum := "64b7788ae903321df810ef67501cbbc037ac41e3c29b14d67be1db254ad9f30e", func := "annuitant/annuitantlaw08.ServiceSets", spec := "serviceSets", unfollowed := true, recurses := true, named := ["math/bits.overflowError"], apart := false }
def ServiceSetsSaid : Prop := serviceSetsRow.holds Tryz.pinned (OpenSpec.ofChange serviceSetsSpec)

/-- ITS FALSE NEIGHBOUR: 'it returns false'. Refute it at one input. -/
def serviceSetsWrong : ChangeSpec := { name := "serviceSets", fn := fun _ => fun
  | [d1, d2, d3, d4] => { results := [.lit (.bool false)], args := [d1, d2, d3, d4] }
  | _ => none }
def ServiceSetsWrongFalsely : Prop := serviceSetsRow.holds Tryz.pinned (OpenSpec.ofChange serviceSetsWrong)

/-- 'annuitantlaw08.ServiceSmall': WHATEVER THE INPUT: true; the input reads as it did. -/
def serviceSmallSpec : ChangeSpec := { name := "serviceSmall", fn := fun _ => fun
  | [] => { results := [.lit (.bool true)], args := [] }
  | _ => none }
def serviceSmallRow : OpenClaim := { program := "ytjkefpnidicimaagreat", sum := "64b7788ae903321df810ef67501cbbc037ac41e3c29b14d67be1db254ad9f30e", func := "annuitant/annuitantlaw08.ServiceSmall", spec := "serviceSmall", unfollowed := true, recurses := true, named := ["math/bits.overflowError"], apart := false }
def ServiceSmallSaid : Prop := serviceSmallRow.holds Tryz.pinned (OpenSpec.ofChange serviceSmallSpec)

/-- ITS FALSE NEIGHBOUR: 'it returns false'. Refute it at one input. -/
def serviceSmallWrong : ChangeSpec := { name := "serviceSmall", fn := fun _ => fun
  | [] => { results := [.lit (.bool false)], args := [] }
  | _ => none }
def ServiceSmallWrongFalsely : Prop := serviceSmallRow.holds Tryz.pinned (OpenSpec.ofChange serviceSmallWrong)

/-- 'annuitantlaw05.TimelineAsks': WHATEVER THE INPUT: true; the input reads as it did. -/
def timelineAsksSpec : ChangeSpec := { name := "timelineAsks", fn := fun _ => fun
  | [d1, d2, d3] => { results := [.lit (.bool true)], args := [d1, d2, d3] }
  | _ => none }
def timelineAsksRow : OpenClaim := { program := "ytjkefpnidicimaagreat", sum := "64b7788ae903321df810ef67501cbbc037ac41e3c29b14d67be1db254ad9f30e", func := "annuitant/annuitantlaw05.TimelineAsks", spec := "timelineAsks", unfollowed := true, recurses := true, named := ["math/bits.overflowError"], apart := false }
def TimelineAsksSaid : Prop := timelineAsksRow.holds Tryz.pinned (OpenSpec.ofChange timelineAsksSpec)

/-- ITS FALSE NEIGHBOUR: 'it returns false'. Refute it at one input. -/
def timelineAsksWrong : ChangeSpec := { name := "timelineAsks", fn := fun _ => fun
  | [d1, d2, d3] => { results := [.lit (.bool false)], args := [d1, d2, d3] }
  | _ => none }
def TimelineAsksWrongFalsely : Prop := timelineAsksRow.holds Tryz.pinned (OpenSpec.ofChange timelineAsksWrong)

/-- 'annuitantlaw05.TimelineSums': WHATEVER THE INPUT: true; the input reads as it did. -/
def timelineSumsSpec : ChangeSpec := { name := "timelineSums", fn := fun _ => fun
  | [d1, d2, d3] => { results := [.lit (.bool true)], args := [d1, d2, d3] }
  | _ => none }
def timelineSumsRow : OpenClaim := { program := "ytjkefpnidicimaagreat", sum := "64b7788ae903321df810ef67501cbbc037ac41e3c29b14d67be1db254ad9f30e", func := "annuitant/annuitantlaw05.TimelineSums", spec := "timelineSums", unfollowed := true, recurses := true, named := ["math/bits.overflowError"], apart := false }
def TimelineSumsSaid : Prop := timelineSumsRow.holds Tryz.pinned (OpenSpec.ofChange timelineSumsSpec)

/-- ITS FALSE NEIGHBOUR: 'it returns false'. Refute it at one input. -/
def timelineSumsWrong : ChangeSpec := { name := "timelineSums", fn := fun _ => fun
  | [d1, d2, d3] => { results := [.lit (.bool false)], args := [d1, d2, d3] }
  | _ => none }
def TimelineSumsWrongFalsely : Prop := timelineSumsRow.holds Tryz.pinned (OpenSpec.ofChange timelineSumsWrong)

/-- 'annuitantlaw05.TimelineSmall': WHATEVER THE INPUT: true; the input reads as it did. -/
def timelineSmallSpec : ChangeSpec := { name := "timelineSmall", fn := fun _ => fun
  | [] => { results := [.lit (.bool true)], args := [] }
  | _ => none }
def timelineSmallRow : OpenClaim := { program := "ytjkefpnidicimaagreat", sum := "64b7788ae903321df810ef67501cbbc037ac41e3c29b14d67be1db254ad9f30e", func := "annuitant/annuitantlaw05.TimelineSmall", spec := "timelineSmall", unfollowed := true, recurses := true, named := ["math/bits.overflowError"], apart := false }
def TimelineSmallSaid : Prop := timelineSmallRow.holds Tryz.pinned (OpenSpec.ofChange timelineSmallSpec)

/-- ITS FALSE NEIGHBOUR: 'it returns false'. Refute it at one input. -/
def timelineSmallWrong : ChangeSpec := { name := "timelineSmall", fn := fun _ => fun
  | [] => { results := [.lit (.bool false)], args := [] }
  | _ => none }
def TimelineSmallWrongFalsely : Prop := timelineSmallRow.holds Tryz.pinned (OpenSpec.ofChange timelineSmallWrong)

/- THE SECOND FORM. 'bulk': how many values and letters a reading holds, each counted each time it is reached (what is shared counts as often as it is met; a slice's spare places count too). A statement '..UptoSaid' is the law's where the arguments, and the package variables that the reading takes, are together of bulk at most 1048576: NARROWER than '..Said'. Prove '..Said' where nothing that the law and all that it calls make is longer than what came in: it says more and counts as full. Else prove '..UptoSaid'. A law counts once. -/
mutual
def uptoBulk {H : Type} : DataW H → Nat
  | .lit (.string bytes) => bytes.length + 1
  | .lit _ => 1
  | .nil => 1
  | .ptr d => uptoBulk d + 1
  | .slice elems spare => uptoBulkAll elems + uptoBulkAll spare + 1
  | .agg parts => uptoBulkAll parts + 1
  | .iface _ d => uptoBulk d + 1
  | .map entries => uptoBulkEntries entries + 1
  | .held _ => 1
def uptoBulkAll {H : Type} : List (DataW H) → Nat
  | [] => 0
  | d :: r => uptoBulk d + uptoBulkAll r
def uptoBulkEntries {H : Type} : List (Lit × DataW H) → Nat
  | [] => 0
  | x :: r => uptoBulkEntry x + uptoBulkEntries r
def uptoBulkEntry {H : Type} : Lit × DataW H → Nat
  | (.string bytes, d) => bytes.length + uptoBulk d + 1
  | (_, d) => uptoBulk d + 1
 end
def uptoSmall : (H : Type) → List (DataW H) → Bool := fun _ ds => decide (uptoBulkAll ds ≤ 1048576)
def OpenSpec.upto (s : _root_.Go.ChangeSpec) : _root_.Go.OpenSpec := { _root_.Go.OpenSpec.ofChange s with cond := some uptoSmall }

/-- 'annuitantlaw24.SplitTells', WHERE WHAT IT READS IS OF BULK AT MOST 1048576: true; the input reads as it did. -/
def splitTellsUptoRow : OpenClaim := { program := "ytjkefpnidicimaagreat", sum := "64b7788ae903321df810ef67501cbbc037ac41e3c29b14d67be1db254ad9f30e", func := "annuitant/annuitantlaw24.SplitTells", spec := "splitTells", unfollowed := true, recurses := true, named := ["math/bits.overflowError"], apart := false, narrowed := true }
def SplitTellsUptoSaid : Prop := splitTellsUptoRow.holds Tryz.pinned (OpenSpec.upto splitTellsSpec)

/-- 'annuitantlaw24.SplitSmall', WHERE WHAT IT READS IS OF BULK AT MOST 1048576: true; the input reads as it did. -/
def splitSmallUptoRow : OpenClaim := { program := "ytjkefpnidicimaagreat", sum := "64b7788ae903321df810ef67501cbbc037ac41e3c29b14d67be1db254ad9f30e", func := "annuitant/annuitantlaw24.SplitSmall", spec := "splitSmall", unfollowed := true, recurses := true, named := ["math/bits.overflowError"], apart := false, narrowed := true }
def SplitSmallUptoSaid : Prop := splitSmallUptoRow.holds Tryz.pinned (OpenSpec.upto splitSmallSpec)

/-- 'annuitantlaw08.ServiceYears', WHERE WHAT IT READS IS OF BULK AT MOST 1048576: true; the input reads as it did. -/
def serviceYearsUptoRow : OpenClaim := { program := "ytjkefpnidicimaagreat", sum := "64b7788ae903321df810ef67501cbbc037ac41e3c29b14d67be1db254ad9f30e", func := "annuitant/annuitantlaw08.ServiceYears", spec := "serviceYears", unfollowed := true, recurses := true, named := ["math/bits.overflowError"], apart := false, narrowed := true }
def ServiceYearsUptoSaid : Prop := serviceYearsUptoRow.holds Tryz.pinned (OpenSpec.upto serviceYearsSpec)

/-- 'annuitantlaw08.ServiceSets', WHERE WHAT IT READS IS OF BULK AT MOST 1048576: true; the input reads as it did. -/
def serviceSetsUptoRow : OpenClaim := { program := "ytjkefpnidicimaagreat", sum := "64b7788ae903321df810ef67501cbbc037ac41e3c29b14d67be1db254ad9f30e", func := "annuitant/annuitantlaw08.ServiceSets", spec := "serviceSets", unfollowed := true, recurses := true, named := ["math/bits.overflowError"], apart := false, narrowed := true }
def ServiceSetsUptoSaid : Prop := serviceSetsUptoRow.holds Tryz.pinned (OpenSpec.upto serviceSetsSpec)

/-- 'annuitantlaw08.ServiceSmall', WHERE WHAT IT READS IS OF BULK AT MOST 1048576: true; the input reads as it did. -/
def serviceSmallUptoRow : OpenClaim := { program := "ytjkefpnidicimaagreat", sum := "64b7788ae903321df810ef67501cbbc037ac41e3c29b14d67be1db254ad9f30e", func := "annuitant/annuitantlaw08.ServiceSmall", spec := "serviceSmall", unfollowed := true, recurses := true, named := ["math/bits.overflowError"], apart := false, narrowed := true }
def ServiceSmallUptoSaid : Prop := serviceSmallUptoRow.holds Tryz.pinned (OpenSpec.upto serviceSmallSpec)

/-- 'annuitantlaw05.TimelineAsks', WHERE WHAT IT READS IS OF BULK AT MOST 1048576: true; the input reads as it did. -/
def timelineAsksUptoRow : OpenClaim := { program := "ytjkefpnidicimaagreat", sum := "64b7788ae903321df810ef67501cbbc037ac41e3c29b14d67be1db254ad9f30e", func := "annuitant/annuitantlaw05.TimelineAsks", spec := "timelineAsks", unfollowed := true, recurses := true, named := ["math/bits.overflowError"], apart := false, narrowed := true }
def TimelineAsksUptoSaid : Prop := timelineAsksUptoRow.holds Tryz.pinned (OpenSpec.upto timelineAsksSpec)

/-- 'annuitantlaw05.TimelineSums', WHERE WHAT IT READS IS OF BULK AT MOST 1048576: true; the input reads as it did. -/
def timelineSumsUptoRow : OpenClaim := { program := "ytjkefpnidicimaagreat", sum := "64b7788ae903321df810ef67501cbbc037ac41e3c29b14d67be1db254ad9f30e", func := "annuitant/annuitantlaw05.TimelineSums", spec := "timelineSums", unfollowed := true, recurses := true, named := ["math/bits.overflowError"], apart := false, narrowed := true }
def TimelineSumsUptoSaid : Prop := timelineSumsUptoRow.holds Tryz.pinned (OpenSpec.upto timelineSumsSpec)

/-- 'annuitantlaw05.TimelineSmall', WHERE WHAT IT READS IS OF BULK AT MOST 1048576: true; the input reads as it did. -/
def timelineSmallUptoRow : OpenClaim := { program := "ytjkefpnidicimaagreat", sum := "64b7788ae903321df810ef67501cbbc037ac41e3c29b14d67be1db254ad9f30e", func := "annuitant/annuitantlaw05.TimelineSmall", spec := "timelineSmall", unfollowed := true, recurses := true, named := ["math/bits.overflowError"], apart := false, narrowed := true }
def TimelineSmallUptoSaid : Prop := timelineSmallUptoRow.holds Tryz.pinned (OpenSpec.upto timelineSmallSpec)

end Rows
end Go.Proofs.YtjkefpnidicimaaGreat
