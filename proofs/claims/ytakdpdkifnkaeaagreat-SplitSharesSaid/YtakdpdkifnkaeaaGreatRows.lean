/-
  No cell of these rows narrows 'for every input' (looked for: loops, veiled, ifaces, maps, wideKeys, modest, calm, conditions, laid).
  DERIVED. THE GIVEN ROWS OF THIS SEAT. 8 by the template 'for every input the law returns true; each argument reads behind the call as it read before'; 0 by the template 'total and deterministic' (their statements: YtakdpdkifnkaeaaGreatTotals.lean).
  GIVEN WITH THE SEED: the statements are not yours to turn. If you find one false, say at which input.
  Laid BY PROGRAM, IN A SANDBOX (cutbox-rows.mjs): the forced cells as the released guide's own fill.sh prints them over the translation f455c3ffa524024b… (all of the seat's roots in one cut). By AI agents, Wed Nov 11 2026. No macro, syntax, notation, axiom, sorry.
-/
import Derived.Test.YtakdpdkifnkaeaaGreatChecked
import GoSem.Claim
import GoSem.ClaimJoined
import GoSem.ClaimMapViews
import Derived.JoinedTies
import Derived.KernelRfl
namespace Go.Proofs.YtakdpdkifnkaeaaGreat
/- THE CELL 'sum', in the pinned program and in every row, IS THE sha256 OF THE DUMP (.gsa) THAT YtakdpdkifnkaeaaGreatProg.lean LOADS. Nothing in Lean hashes anything: it is a label: what it is worth is what the hold of that sum in a sandbox is worth. -/
noncomputable def Tryz.pinned : Pinned := { name := "ytakdpdkifnkaeaagreat", sum := "f455c3ffa524024bf11255116459dd1f021941f365af3d34ef1be676298e36ff", checked := Tryz.checked }
namespace Rows
def none {H : Type} : Left H := { results := [], args := [] }

/-- 'annuitantlaw24.SplitBack': WHATEVER THE INPUT: true; the input reads as it did. -/
def splitBackSpec : ChangeSpec := { name := "splitBack", fn := fun _ => fun
  | [d1, d2, d3, d4] => { results := [.lit (.bool true)], args := [d1, d2, d3, d4] }
  | _ => none }
def splitBackRow : OpenClaim := { program := "ytakdpdkifnkaeaagreat", sum := "f455c3ffa524024bf11255116459dd1f021941f365af3d34ef1be676298e36ff", func := "annuitant/annuitantlaw24.SplitBack", spec := "splitBack", unfollowed := true, recurses := true, named := ["math/bits.overflowError"], apart := false }
def SplitBackSaid : Prop := splitBackRow.holds Tryz.pinned (OpenSpec.ofChange splitBackSpec)

/-- ITS FALSE NEIGHBOUR: 'it returns false'. Refute it at one input. -/
def splitBackWrong : ChangeSpec := { name := "splitBack", fn := fun _ => fun
  | [d1, d2, d3, d4] => { results := [.lit (.bool false)], args := [d1, d2, d3, d4] }
  | _ => none }
def SplitBackWrongFalsely : Prop := splitBackRow.holds Tryz.pinned (OpenSpec.ofChange splitBackWrong)

/-- 'annuitantlaw24.SplitMerge': WHATEVER THE INPUT: true; the input reads as it did. -/
def splitMergeSpec : ChangeSpec := { name := "splitMerge", fn := fun _ => fun
  | [d1, d2, d3, d4, d5] => { results := [.lit (.bool true)], args := [d1, d2, d3, d4, d5] }
  | _ => none }
def splitMergeRow : OpenClaim := { program := "ytakdpdkifnkaeaagreat", sum := "f455c3ffa524024bf11255116459dd1f021941f365af3d34ef1be676298e36ff", func := "annuitant/annuitantlaw24.SplitMerge", spec := "splitMerge", unfollowed := true, recurses := true, named := ["math/bits.overflowError"], apart := false }
def SplitMergeSaid : Prop := splitMergeRow.holds Tryz.pinned (OpenSpec.ofChange splitMergeSpec)

/-- ITS FALSE NEIGHBOUR: 'it returns false'. Refute it at one input. -/
def splitMergeWrong : ChangeSpec := { name := "splitMerge", fn := fun _ => fun
  | [d1, d2, d3, d4, d5] => { results := [.lit (.bool false)], args := [d1, d2, d3, d4, d5] }
  | _ => none }
def SplitMergeWrongFalsely : Prop := splitMergeRow.holds Tryz.pinned (OpenSpec.ofChange splitMergeWrong)

/-- 'annuitantlaw24.SplitFull': WHATEVER THE INPUT: true; the input reads as it did. -/
def splitFullSpec : ChangeSpec := { name := "splitFull", fn := fun _ => fun
  | [d1, d2, d3] => { results := [.lit (.bool true)], args := [d1, d2, d3] }
  | _ => none }
def splitFullRow : OpenClaim := { program := "ytakdpdkifnkaeaagreat", sum := "f455c3ffa524024bf11255116459dd1f021941f365af3d34ef1be676298e36ff", func := "annuitant/annuitantlaw24.SplitFull", spec := "splitFull", unfollowed := true, recurses := true, named := ["math/bits.overflowError"], apart := false }
def SplitFullSaid : Prop := splitFullRow.holds Tryz.pinned (OpenSpec.ofChange splitFullSpec)

/-- ITS FALSE NEIGHBOUR: 'it returns false'. Refute it at one input. -/
def splitFullWrong : ChangeSpec := { name := "splitFull", fn := fun _ => fun
  | [d1, d2, d3] => { results := [.lit (.bool false)], args := [d1, d2, d3] }
  | _ => none }
def SplitFullWrongFalsely : Prop := splitFullRow.holds Tryz.pinned (OpenSpec.ofChange splitFullWrong)

/-- 'annuitantlaw24.SplitShares': WHATEVER THE INPUT: true; the input reads as it did. -/
def splitSharesSpec : ChangeSpec := { name := "splitShares", fn := fun _ => fun
  | [d1, d2, d3] => { results := [.lit (.bool true)], args := [d1, d2, d3] }
  | _ => none }
def splitSharesRow : OpenClaim := { program := "ytakdpdkifnkaeaagreat", sum := "f455c3ffa524024bf11255116459dd1f021941f365af3d34ef1be676298e36ff", func := "annuitant/annuitantlaw24.SplitShares", spec := "splitShares", unfollowed := true, recurses := true, named := ["math/bits.overflowError"], apart := false }
def SplitSharesSaid : Prop := splitSharesRow.holds Tryz.pinned (OpenSpec.ofChange splitSharesSpec)

/-- ITS FALSE NEIGHBOUR: 'it returns false'. Refute it at one input. -/
def splitSharesWrong : ChangeSpec := { name := "splitShares", fn := fun _ => fun
  | [d1, d2, d3] => { results := [.lit (.bool false)], args := [d1, d2, d3] }
  | _ => none }
def SplitSharesWrongFalsely : Prop := splitSharesRow.holds Tryz.pinned (OpenSpec.ofChange splitSharesWrong)

/-- 'annuitantlaw24.SplitTells': WHATEVER THE INPUT: true; the input reads as it did. -/
def splitTellsSpec : ChangeSpec := { name := "splitTells", fn := fun _ => fun
  | [d1, d2, d3, d4] => { results := [.lit (.bool true)], args := [d1, d2, d3, d4] }
  | _ => none }
def splitTellsRow : OpenClaim := { program := "ytakdpdkifnkaeaagreat", sum := "f455c3ffa524024bf11255116459dd1f021941f365af3d34ef1be676298e36ff", func := "annuitant/annuitantlaw24.SplitTells", spec := "splitTells", unfollowed := true, recurses := true, named := ["math/bits.overflowError"], apart := false }
def SplitTellsSaid : Prop := splitTellsRow.holds Tryz.pinned (OpenSpec.ofChange splitTellsSpec)

/-- ITS FALSE NEIGHBOUR: 'it returns false'. Refute it at one input. -/
def splitTellsWrong : ChangeSpec := { name := "splitTells", fn := fun _ => fun
  | [d1, d2, d3, d4] => { results := [.lit (.bool false)], args := [d1, d2, d3, d4] }
  | _ => none }
def SplitTellsWrongFalsely : Prop := splitTellsRow.holds Tryz.pinned (OpenSpec.ofChange splitTellsWrong)

/-- 'annuitantlaw24.SplitRuns': WHATEVER THE INPUT: true; the input reads as it did. -/
def splitRunsSpec : ChangeSpec := { name := "splitRuns", fn := fun _ => fun
  | [d1, d2, d3] => { results := [.lit (.bool true)], args := [d1, d2, d3] }
  | _ => none }
def splitRunsRow : OpenClaim := { program := "ytakdpdkifnkaeaagreat", sum := "f455c3ffa524024bf11255116459dd1f021941f365af3d34ef1be676298e36ff", func := "annuitant/annuitantlaw24.SplitRuns", spec := "splitRuns", unfollowed := true, recurses := true, named := ["math/bits.overflowError"], apart := false }
def SplitRunsSaid : Prop := splitRunsRow.holds Tryz.pinned (OpenSpec.ofChange splitRunsSpec)

/-- ITS FALSE NEIGHBOUR: 'it returns false'. Refute it at one input. -/
def splitRunsWrong : ChangeSpec := { name := "splitRuns", fn := fun _ => fun
  | [d1, d2, d3] => { results := [.lit (.bool false)], args := [d1, d2, d3] }
  | _ => none }
def SplitRunsWrongFalsely : Prop := splitRunsRow.holds Tryz.pinned (OpenSpec.ofChange splitRunsWrong)

/-- 'annuitantlaw24.SplitSmall': WHATEVER THE INPUT: true; the input reads as it did. -/
def splitSmallSpec : ChangeSpec := { name := "splitSmall", fn := fun _ => fun
  | [] => { results := [.lit (.bool true)], args := [] }
  | _ => none }
def splitSmallRow : OpenClaim := { program := "ytakdpdkifnkaeaagreat", sum := "f455c3ffa524024bf11255116459dd1f021941f365af3d34ef1be676298e36ff", func := "annuitant/annuitantlaw24.SplitSmall", spec := "splitSmall", unfollowed := true, recurses := true, named := ["math/bits.overflowError"], apart := false }
def SplitSmallSaid : Prop := splitSmallRow.holds Tryz.pinned (OpenSpec.ofChange splitSmallSpec)

/-- ITS FALSE NEIGHBOUR: 'it returns false'. Refute it at one input. -/
def splitSmallWrong : ChangeSpec := { name := "splitSmall", fn := fun _ => fun
  | [] => { results := [.lit (.bool false)], args := [] }
  | _ => none }
def SplitSmallWrongFalsely : Prop := splitSmallRow.holds Tryz.pinned (OpenSpec.ofChange splitSmallWrong)

/-- 'annuitantlaw24.SplitWhole': WHATEVER THE INPUT: true; the input reads as it did. -/
def splitWholeSpec : ChangeSpec := { name := "splitWhole", fn := fun _ => fun
  | [d1, d2, d3] => { results := [.lit (.bool true)], args := [d1, d2, d3] }
  | _ => none }
def splitWholeRow : OpenClaim := { program := "ytakdpdkifnkaeaagreat", sum := "f455c3ffa524024bf11255116459dd1f021941f365af3d34ef1be676298e36ff", func := "annuitant/annuitantlaw24.SplitWhole", spec := "splitWhole", unfollowed := true, recurses := true, named := ["math/bits.overflowError"], apart := false }
def SplitWholeSaid : Prop := splitWholeRow.holds Tryz.pinned (OpenSpec.ofChange splitWholeSpec)

/-- ITS FALSE NEIGHBOUR: 'it returns false'. Refute it at one input. -/
def splitWholeWrong : ChangeSpec := { name := "splitWhole", fn := fun _ => fun
  | [d1, d2, d3] => { results := [.lit (.bool false)], args := [d1, d2, d3] }
  | _ => none }
def SplitWholeWrongFalsely : Prop := splitWholeRow.holds Tryz.pinned (OpenSpec.ofChange splitWholeWrong)

/- THE SECOND FORM. 'bulk': how many values and letters a reading holds, each counted each time it is reached (what is shared counts as often as it is met; a slice's spare places count too). A statement '..UptoSaid' is the law's where the arguments, and the package variables that the reading takes, are together of bulk at most 1048576: NARROWER than '..Said'. Prove '..Said' where nothing that the law and all that it calls make is longer than what came in: it says more and counts as full. Else prove '..UptoSaid'. A law counts once. -/
mutual
def uptoBulk {H : Type} : DataW H → Nat
  | .lit (.string bytes) => bytes.length + 1
  | .lit _ => 1
  | .nil => 1
  | .ptr d => uptoBulk d + 1
  | .slice elems spare => uptoBulkAll elems + uptoBulkAll spare + 1
  | .agg parts => uptoBulkAll parts + 1
  | .iface _ d => uptoBulk d + 1
  | .map entries => uptoBulkEntries entries + 1
  | .held _ => 1
def uptoBulkAll {H : Type} : List (DataW H) → Nat
  | [] => 0
  | d :: r => uptoBulk d + uptoBulkAll r
def uptoBulkEntries {H : Type} : List (Lit × DataW H) → Nat
  | [] => 0
  | x :: r => uptoBulkEntry x + uptoBulkEntries r
def uptoBulkEntry {H : Type} : Lit × DataW H → Nat
  | (.string bytes, d) => bytes.length + uptoBulk d + 1
  | (_, d) => uptoBulk d + 1
 end
def uptoSmall : (H : Type) → List (DataW H) → Bool := fun _ ds => decide (uptoBulkAll ds ≤ 1048576)
def OpenSpec.upto (s : _root_.Go.ChangeSpec) : _root_.Go.OpenSpec := { _root_.Go.OpenSpec.ofChange s with cond := some uptoSmall }

/-- 'annuitantlaw24.SplitBack', WHERE WHAT IT READS IS OF BULK AT MOST 1048576: true; the input reads as it did. -/
def splitBackUptoRow : OpenClaim := { program := "ytakdpdkifnkaeaagreat", sum := "f455c3ffa524024bf11255116459dd1f021941f365af3d34ef1be676298e36ff", func := "annuitant/annuitantlaw24.SplitBack", spec := "splitBack", unfollowed := true, recurses := true, named := ["math/bits.overflowError"], apart := false, narrowed := true }
def SplitBackUptoSaid : Prop := splitBackUptoRow.holds Tryz.pinned (OpenSpec.upto splitBackSpec)

/-- 'annuitantlaw24.SplitMerge', WHERE WHAT IT READS IS OF BULK AT MOST 1048576: true; the input reads as it did. -/
def splitMergeUptoRow : OpenClaim := { program := "ytakdpdkifnkaeaagreat", sum := "f455c3ffa524024bf11255116459dd1f021941f365af3d34ef1be676298e36ff", func := "annuitant/annuitantlaw24.SplitMerge", spec := "splitMerge", unfollowed := true, recurses := true, named := ["math/bits.overflowError"], apart := false, narrowed := true }
def SplitMergeUptoSaid : Prop := splitMergeUptoRow.holds Tryz.pinned (OpenSpec.upto splitMergeSpec)

/-- 'annuitantlaw24.SplitFull', WHERE WHAT IT READS IS OF BULK AT MOST 1048576: true; the input reads as it did. -/
def splitFullUptoRow : OpenClaim := { program := "ytakdpdkifnkaeaagreat", sum := "f455c3ffa524024bf11255116459dd1f021941f365af3d34ef1be676298e36ff", func := "annuitant/annuitantlaw24.SplitFull", spec := "splitFull", unfollowed := true, recurses := true, named := ["math/bits.overflowError"], apart := false, narrowed := true }
def SplitFullUptoSaid : Prop := splitFullUptoRow.holds Tryz.pinned (OpenSpec.upto splitFullSpec)

/-- 'annuitantlaw24.SplitShares', WHERE WHAT IT READS IS OF BULK AT MOST 1048576: true; the input reads as it did. -/
def splitSharesUptoRow : OpenClaim := { program := "ytakdpdkifnkaeaagreat", sum := "f455c3ffa524024bf11255116459dd1f021941f365af3d34ef1be676298e36ff", func := "annuitant/annuitantlaw24.SplitShares", spec := "splitShares", unfollowed := true, recurses := true, named := ["math/bits.overflowError"], apart := false, narrowed := true }
def SplitSharesUptoSaid : Prop := splitSharesUptoRow.holds Tryz.pinned (OpenSpec.upto splitSharesSpec)

/-- 'annuitantlaw24.SplitTells', WHERE WHAT IT READS IS OF BULK AT MOST 1048576: true; the input reads as it did. -/
def splitTellsUptoRow : OpenClaim := { program := "ytakdpdkifnkaeaagreat", sum := "f455c3ffa524024bf11255116459dd1f021941f365af3d34ef1be676298e36ff", func := "annuitant/annuitantlaw24.SplitTells", spec := "splitTells", unfollowed := true, recurses := true, named := ["math/bits.overflowError"], apart := false, narrowed := true }
def SplitTellsUptoSaid : Prop := splitTellsUptoRow.holds Tryz.pinned (OpenSpec.upto splitTellsSpec)

/-- 'annuitantlaw24.SplitRuns', WHERE WHAT IT READS IS OF BULK AT MOST 1048576: true; the input reads as it did. -/
def splitRunsUptoRow : OpenClaim := { program := "ytakdpdkifnkaeaagreat", sum := "f455c3ffa524024bf11255116459dd1f021941f365af3d34ef1be676298e36ff", func := "annuitant/annuitantlaw24.SplitRuns", spec := "splitRuns", unfollowed := true, recurses := true, named := ["math/bits.overflowError"], apart := false, narrowed := true }
def SplitRunsUptoSaid : Prop := splitRunsUptoRow.holds Tryz.pinned (OpenSpec.upto splitRunsSpec)

/-- 'annuitantlaw24.SplitSmall', WHERE WHAT IT READS IS OF BULK AT MOST 1048576: true; the input reads as it did. -/
def splitSmallUptoRow : OpenClaim := { program := "ytakdpdkifnkaeaagreat", sum := "f455c3ffa524024bf11255116459dd1f021941f365af3d34ef1be676298e36ff", func := "annuitant/annuitantlaw24.SplitSmall", spec := "splitSmall", unfollowed := true, recurses := true, named := ["math/bits.overflowError"], apart := false, narrowed := true }
def SplitSmallUptoSaid : Prop := splitSmallUptoRow.holds Tryz.pinned (OpenSpec.upto splitSmallSpec)

/-- 'annuitantlaw24.SplitWhole', WHERE WHAT IT READS IS OF BULK AT MOST 1048576: true; the input reads as it did. -/
def splitWholeUptoRow : OpenClaim := { program := "ytakdpdkifnkaeaagreat", sum := "f455c3ffa524024bf11255116459dd1f021941f365af3d34ef1be676298e36ff", func := "annuitant/annuitantlaw24.SplitWhole", spec := "splitWhole", unfollowed := true, recurses := true, named := ["math/bits.overflowError"], apart := false, narrowed := true }
def SplitWholeUptoSaid : Prop := splitWholeUptoRow.holds Tryz.pinned (OpenSpec.upto splitWholeSpec)

end Rows
end Go.Proofs.YtakdpdkifnkaeaaGreat
