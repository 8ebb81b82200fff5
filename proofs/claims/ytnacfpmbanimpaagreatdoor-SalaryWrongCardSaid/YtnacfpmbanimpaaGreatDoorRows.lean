/-
  NARROWER THAN 'FOR EVERY INPUT', by the rows' own cells (each row's printed sentence says how): SalaryMean: laid · SalaryScaled: laid · SalaryWrong: laid · SalaryBest: laid · SalaryWindows: laid · SalaryOutside: laid.
  DERIVED. THE GIVEN ROWS OF THIS SEAT. 6 by the template 'for every input the law returns true; each argument reads behind the call as it read before'; 0 by the template 'total and deterministic' (their statements: YtnacfpmbanimpaaGreatDoorTotals.lean).
  GIVEN WITH THE SEED: the statements are not yours to turn. If you find one false, say at which input.
  Laid BY PROGRAM, IN A SANDBOX (cutbox-rows.mjs): the forced cells as the released guide's own fill.sh prints them over the translation afa045f5944d52c7… (all of the seat's roots in one cut). By AI agents, Wed Nov 11 2026. No macro, syntax, notation, axiom, sorry.
-/
import Derived.Test.YtnacfpmbanimpaaGreatDoorChecked
import GoSem.Claim
import GoSem.ClaimJoined
import GoSem.ClaimMapViews
import Derived.JoinedTies
import Derived.KernelRfl
namespace Go.Proofs.YtnacfpmbanimpaaGreatDoor
/- THE CELL 'sum', in the pinned program and in every row, IS THE sha256 OF THE DUMP (.gsa) THAT YtnacfpmbanimpaaGreatDoorProg.lean LOADS. Nothing in Lean hashes anything: it is a label: what it is worth is what the hold of that sum in a sandbox is worth. -/
noncomputable def Tryz.pinned : Pinned := { name := "ytnacfpmbanimpaagreatdoor", sum := "afa045f5944d52c786df71b4a877b4508319dcc08536681c72b05f01509311f7", checked := Tryz.checked }
namespace Rows
def none {H : Type} : Left H := { results := [], args := [] }

/- WHAT THE LISTED PACKAGE-LEVEL VARIABLES READ AS WHEN THE CALL BEGINS. Each datum BY PROGRAM (the guide's laid-datum.mjs) off the statement by which the dump's own 'gosem.cut.vars' lays the variable. In a bare row this is a premise. The card (YtnacfpmbanimpaaGreatDoorCards.lean) ties it to the program's text. -/
def laid_annuitant_calendar_lengths {H : Type} : DataW H := .agg [.lit (.int .i64 31), .lit (.int .i64 28), .lit (.int .i64 31), .lit (.int .i64 30), .lit (.int .i64 31), .lit (.int .i64 30), .lit (.int .i64 31), .lit (.int .i64 31), .lit (.int .i64 30), .lit (.int .i64 31), .lit (.int .i64 30), .lit (.int .i64 31)]

/-- 'annuitantlaw09.SalaryMean': WHATEVER THE INPUT: true; the input reads as it did. -/
def salaryMeanSpec : ChangeSpec := { name := "salaryMean", fn := fun _ => fun
  | [d1, d2, d3] => { results := [.lit (.bool true)], args := [d1, d2, d3] }
  | _ => none }
def salaryMeanRow : OpenClaim := { program := "ytnacfpmbanimpaagreatdoor", sum := "afa045f5944d52c786df71b4a877b4508319dcc08536681c72b05f01509311f7", func := "annuitant/annuitantlaw09.SalaryMean", spec := "salaryMean", unfollowed := true, recurses := true, named := ["math/bits.overflowError", "annuitant/calendar.lengths"], apart := false, laid := [("annuitant/calendar.lengths", laid_annuitant_calendar_lengths)] }
def SalaryMeanSaid : Prop := salaryMeanRow.holds Tryz.pinned (OpenSpec.ofChange salaryMeanSpec)

/-- ITS FALSE NEIGHBOUR: 'it returns false'. Refute it at one input. -/
def salaryMeanWrong : ChangeSpec := { name := "salaryMean", fn := fun _ => fun
  | [d1, d2, d3] => { results := [.lit (.bool false)], args := [d1, d2, d3] }
  | _ => none }
def SalaryMeanWrongFalsely : Prop := salaryMeanRow.holds Tryz.pinned (OpenSpec.ofChange salaryMeanWrong)

/-- 'annuitantlaw09.SalaryScaled': WHATEVER THE INPUT: true; the input reads as it did. -/
def salaryScaledSpec : ChangeSpec := { name := "salaryScaled", fn := fun _ => fun
  | [d1, d2, d3, d4, d5] => { results := [.lit (.bool true)], args := [d1, d2, d3, d4, d5] }
  | _ => none }
def salaryScaledRow : OpenClaim := { program := "ytnacfpmbanimpaagreatdoor", sum := "afa045f5944d52c786df71b4a877b4508319dcc08536681c72b05f01509311f7", func := "annuitant/annuitantlaw09.SalaryScaled", spec := "salaryScaled", unfollowed := true, recurses := true, named := ["math/bits.overflowError", "annuitant/calendar.lengths"], apart := false, laid := [("annuitant/calendar.lengths", laid_annuitant_calendar_lengths)] }
def SalaryScaledSaid : Prop := salaryScaledRow.holds Tryz.pinned (OpenSpec.ofChange salaryScaledSpec)

/-- ITS FALSE NEIGHBOUR: 'it returns false'. Refute it at one input. -/
def salaryScaledWrong : ChangeSpec := { name := "salaryScaled", fn := fun _ => fun
  | [d1, d2, d3, d4, d5] => { results := [.lit (.bool false)], args := [d1, d2, d3, d4, d5] }
  | _ => none }
def SalaryScaledWrongFalsely : Prop := salaryScaledRow.holds Tryz.pinned (OpenSpec.ofChange salaryScaledWrong)

/-- 'annuitantlaw09.SalaryWrong': WHATEVER THE INPUT: true; the input reads as it did. -/
def salaryWrongSpec : ChangeSpec := { name := "salaryWrong", fn := fun _ => fun
  | [d1, d2, d3, d4] => { results := [.lit (.bool true)], args := [d1, d2, d3, d4] }
  | _ => none }
def salaryWrongRow : OpenClaim := { program := "ytnacfpmbanimpaagreatdoor", sum := "afa045f5944d52c786df71b4a877b4508319dcc08536681c72b05f01509311f7", func := "annuitant/annuitantlaw09.SalaryWrong", spec := "salaryWrong", unfollowed := true, recurses := true, named := ["math/bits.overflowError", "annuitant/calendar.lengths"], apart := false, laid := [("annuitant/calendar.lengths", laid_annuitant_calendar_lengths)] }
def SalaryWrongSaid : Prop := salaryWrongRow.holds Tryz.pinned (OpenSpec.ofChange salaryWrongSpec)

/-- ITS FALSE NEIGHBOUR: 'it returns false'. Refute it at one input. -/
def salaryWrongWrong : ChangeSpec := { name := "salaryWrong", fn := fun _ => fun
  | [d1, d2, d3, d4] => { results := [.lit (.bool false)], args := [d1, d2, d3, d4] }
  | _ => none }
def SalaryWrongWrongFalsely : Prop := salaryWrongRow.holds Tryz.pinned (OpenSpec.ofChange salaryWrongWrong)

/-- 'annuitantlaw09.SalaryBest': WHATEVER THE INPUT: true; the input reads as it did. -/
def salaryBestSpec : ChangeSpec := { name := "salaryBest", fn := fun _ => fun
  | [d1, d2, d3, d4] => { results := [.lit (.bool true)], args := [d1, d2, d3, d4] }
  | _ => none }
def salaryBestRow : OpenClaim := { program := "ytnacfpmbanimpaagreatdoor", sum := "afa045f5944d52c786df71b4a877b4508319dcc08536681c72b05f01509311f7", func := "annuitant/annuitantlaw09.SalaryBest", spec := "salaryBest", unfollowed := true, recurses := true, named := ["math/bits.overflowError", "annuitant/calendar.lengths"], apart := false, laid := [("annuitant/calendar.lengths", laid_annuitant_calendar_lengths)] }
def SalaryBestSaid : Prop := salaryBestRow.holds Tryz.pinned (OpenSpec.ofChange salaryBestSpec)

/-- ITS FALSE NEIGHBOUR: 'it returns false'. Refute it at one input. -/
def salaryBestWrong : ChangeSpec := { name := "salaryBest", fn := fun _ => fun
  | [d1, d2, d3, d4] => { results := [.lit (.bool false)], args := [d1, d2, d3, d4] }
  | _ => none }
def SalaryBestWrongFalsely : Prop := salaryBestRow.holds Tryz.pinned (OpenSpec.ofChange salaryBestWrong)

/-- 'annuitantlaw09.SalaryWindows': WHATEVER THE INPUT: true; the input reads as it did. -/
def salaryWindowsSpec : ChangeSpec := { name := "salaryWindows", fn := fun _ => fun
  | [d1, d2, d3, d4] => { results := [.lit (.bool true)], args := [d1, d2, d3, d4] }
  | _ => none }
def salaryWindowsRow : OpenClaim := { program := "ytnacfpmbanimpaagreatdoor", sum := "afa045f5944d52c786df71b4a877b4508319dcc08536681c72b05f01509311f7", func := "annuitant/annuitantlaw09.SalaryWindows", spec := "salaryWindows", unfollowed := true, recurses := true, named := ["math/bits.overflowError", "annuitant/calendar.lengths"], apart := false, laid := [("annuitant/calendar.lengths", laid_annuitant_calendar_lengths)] }
def SalaryWindowsSaid : Prop := salaryWindowsRow.holds Tryz.pinned (OpenSpec.ofChange salaryWindowsSpec)

/-- ITS FALSE NEIGHBOUR: 'it returns false'. Refute it at one input. -/
def salaryWindowsWrong : ChangeSpec := { name := "salaryWindows", fn := fun _ => fun
  | [d1, d2, d3, d4] => { results := [.lit (.bool false)], args := [d1, d2, d3, d4] }
  | _ => none }
def SalaryWindowsWrongFalsely : Prop := salaryWindowsRow.holds Tryz.pinned (OpenSpec.ofChange salaryWindowsWrong)

/-- 'annuitantlaw09.SalaryOutside': WHATEVER THE INPUT: true; the input reads as it did. -/
def salaryOutsideSpec : ChangeSpec := { name := "salaryOutside", fn := fun _ => fun
  | [d1, d2, d3, d4] => { results := [.lit (.bool true)], args := [d1, d2, d3, d4] }
  | _ => none }
def salaryOutsideRow : OpenClaim := { program := "ytnacfpmbanimpaagreatdoor", sum := "afa045f5944d52c786df71b4a877b4508319dcc08536681c72b05f01509311f7", func := "annuitant/annuitantlaw09.SalaryOutside", spec := "salaryOutside", unfollowed := true, recurses := true, named := ["math/bits.overflowError", "annuitant/calendar.lengths"], apart := false, laid := [("annuitant/calendar.lengths", laid_annuitant_calendar_lengths)] }
def SalaryOutsideSaid : Prop := salaryOutsideRow.holds Tryz.pinned (OpenSpec.ofChange salaryOutsideSpec)

/-- ITS FALSE NEIGHBOUR: 'it returns false'. Refute it at one input. -/
def salaryOutsideWrong : ChangeSpec := { name := "salaryOutside", fn := fun _ => fun
  | [d1, d2, d3, d4] => { results := [.lit (.bool false)], args := [d1, d2, d3, d4] }
  | _ => none }
def SalaryOutsideWrongFalsely : Prop := salaryOutsideRow.holds Tryz.pinned (OpenSpec.ofChange salaryOutsideWrong)

/- THE SECOND FORM. 'bulk': how many values and letters a reading holds, each counted each time it is reached (what is shared counts as often as it is met; a slice's spare places count too). A statement '..UptoSaid' is the law's where the arguments, and the package variables that the reading takes, are together of bulk at most 1048576: NARROWER than '..Said'. Prove '..Said' where nothing that the law and all that it calls make is longer than what came in: it says more and counts as full. Else prove '..UptoSaid'. A law counts once. -/
mutual
def uptoBulk {H : Type} : DataW H → Nat
  | .lit (.string bytes) => bytes.length + 1
  | .lit _ => 1
  | .nil => 1
  | .ptr d => uptoBulk d + 1
  | .slice elems spare => uptoBulkAll elems + uptoBulkAll spare + 1
  | .agg parts => uptoBulkAll parts + 1
  | .iface _ d => uptoBulk d + 1
  | .map entries => uptoBulkEntries entries + 1
  | .held _ => 1
def uptoBulkAll {H : Type} : List (DataW H) → Nat
  | [] => 0
  | d :: r => uptoBulk d + uptoBulkAll r
def uptoBulkEntries {H : Type} : List (Lit × DataW H) → Nat
  | [] => 0
  | x :: r => uptoBulkEntry x + uptoBulkEntries r
def uptoBulkEntry {H : Type} : Lit × DataW H → Nat
  | (.string bytes, d) => bytes.length + uptoBulk d + 1
  | (_, d) => uptoBulk d + 1
 end
def uptoSmall : (H : Type) → List (DataW H) → Bool := fun _ ds => decide (uptoBulkAll ds ≤ 1048576)
def OpenSpec.upto (s : _root_.Go.ChangeSpec) : _root_.Go.OpenSpec := { _root_.Go.OpenSpec.ofChange s with cond := some uptoSmall }

/-- 'annuitantlaw09.SalaryMean', WHERE WHAT IT READS IS OF BULK AT MOST 1048576: true; the input reads as it did. -/
def salaryMeanUptoRow : OpenClaim := { program := "ytnacfpmbanimpaagreatdoor", sum := "afa045f5944d52c786df71b4a877b4508319dcc08536681c72b05f01509311f7", func := "annuitant/annuitantlaw09.SalaryMean", spec := "salaryMean", unfollowed := true, recurses := true, named := ["math/bits.overflowError", "annuitant/calendar.lengths"], apart := false, laid := [("annuitant/calendar.lengths", laid_annuitant_calendar_lengths)], narrowed := true }
def SalaryMeanUptoSaid : Prop := salaryMeanUptoRow.holds Tryz.pinned (OpenSpec.upto salaryMeanSpec)

/-- 'annuitantlaw09.SalaryScaled', WHERE WHAT IT READS IS OF BULK AT MOST 1048576: true; the input reads as it did. -/
def salaryScaledUptoRow : OpenClaim := { program := "ytnacfpmbanimpaagreatdoor", sum := "afa045f5944d52c786df71b4a877b4508319dcc08536681c72b05f01509311f7", func := "annuitant/annuitantlaw09.SalaryScaled", spec := "salaryScaled", unfollowed := true, recurses := true, named := ["math/bits.overflowError", "annuitant/calendar.lengths"], apart := false, laid := [("annuitant/calendar.lengths", laid_annuitant_calendar_lengths)], narrowed := true }
def SalaryScaledUptoSaid : Prop := salaryScaledUptoRow.holds Tryz.pinned (OpenSpec.upto salaryScaledSpec)

/-- 'annuitantlaw09.SalaryWrong', WHERE WHAT IT READS IS OF BULK AT MOST 1048576: true; the input reads as it did. -/
def salaryWrongUptoRow : OpenClaim := { program := "ytnacfpmbanimpaagreatdoor", sum := "afa045f5944d52c786df71b4a877b4508319dcc08536681c72b05f01509311f7", func := "annuitant/annuitantlaw09.SalaryWrong", spec := "salaryWrong", unfollowed := true, recurses := true, named := ["math/bits.overflowError", "annuitant/calendar.lengths"], apart := false, laid := [("annuitant/calendar.lengths", laid_annuitant_calendar_lengths)], narrowed := true }
def SalaryWrongUptoSaid : Prop := salaryWrongUptoRow.holds Tryz.pinned (OpenSpec.upto salaryWrongSpec)

/-- 'annuitantlaw09.SalaryBest', WHERE WHAT IT READS IS OF BULK AT MOST 1048576: true; the input reads as it did. -/
def salaryBestUptoRow : OpenClaim := { program := "ytnacfpmbanimpaagreatdoor", sum := "afa045f5944d52c786df71b4a877b4508319dcc08536681c72b05f01509311f7", func := "annuitant/annuitantlaw09.SalaryBest", spec := "salaryBest", unfollowed := true, recurses := true, named := ["math/bits.overflowError", "annuitant/calendar.lengths"], apart := false, laid := [("annuitant/calendar.lengths", laid_annuitant_calendar_lengths)], narrowed := true }
def SalaryBestUptoSaid : Prop := salaryBestUptoRow.holds Tryz.pinned (OpenSpec.upto salaryBestSpec)

/-- 'annuitantlaw09.SalaryWindows', WHERE WHAT IT READS IS OF BULK AT MOST 1048576: true; the input reads as it did. -/
def salaryWindowsUptoRow : OpenClaim := { program := "ytnacfpmbanimpaagreatdoor", sum := "afa045f5944d52c786df71b4a877b4508319dcc08536681c72b05f01509311f7", func := "annuitant/annuitantlaw09.SalaryWindows", spec := "salaryWindows", unfollowed := true, recurses := true, named := ["math/bits.overflowError", "annuitant/calendar.lengths"], apart := false, laid := [("annuitant/calendar.lengths", laid_annuitant_calendar_lengths)], narrowed := true }
def SalaryWindowsUptoSaid : Prop := salaryWindowsUptoRow.holds Tryz.pinned (OpenSpec.upto salaryWindowsSpec)

/-- 'annuitantlaw09.SalaryOutside', WHERE WHAT IT READS IS OF BULK AT MOST 1048576: true; the input reads as it did. -/
def salaryOutsideUptoRow : OpenClaim := { program := "ytnacfpmbanimpaagreatdoor", sum := "afa045f5944d52c786df71b4a877b4508319dcc08536681c72b05f01509311f7", func := "annuitant/annuitantlaw09.SalaryOutside", spec := "salaryOutside", unfollowed := true, recurses := true, named := ["math/bits.overflowError", "annuitant/calendar.lengths"], apart := false, laid := [("annuitant/calendar.lengths", laid_annuitant_calendar_lengths)], narrowed := true }
def SalaryOutsideUptoSaid : Prop := salaryOutsideUptoRow.holds Tryz.pinned (OpenSpec.upto salaryOutsideSpec)

end Rows
end Go.Proofs.YtnacfpmbanimpaaGreatDoor
