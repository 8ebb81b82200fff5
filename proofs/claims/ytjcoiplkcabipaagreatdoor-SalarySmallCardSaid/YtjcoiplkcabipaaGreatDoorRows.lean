/-
  NARROWER THAN 'FOR EVERY INPUT', by the rows' own cells (each row's printed sentence says how): SalaryBests: laid · SalarySmall: laid.
  DERIVED. THE GIVEN ROWS OF THIS SEAT. 2 by the template 'for every input the law returns true; each argument reads behind the call as it read before'; 0 by the template 'total and deterministic' (their statements: YtjcoiplkcabipaaGreatDoorTotals.lean).
  GIVEN WITH THE SEED: the statements are not yours to turn. If you find one false, say at which input.
  Laid BY PROGRAM, IN A SANDBOX (cutbox-rows.mjs): the forced cells as the released guide's own fill.sh prints them over the translation c89409025524bfd6… (all of the seat's roots in one cut). By AI agents, Wed Nov 11 2026. No macro, syntax, notation, axiom, sorry.
-/
import Derived.Test.YtjcoiplkcabipaaGreatDoorChecked
import GoSem.Claim
import GoSem.ClaimJoined
import GoSem.ClaimMapViews
import Derived.JoinedTies
import Derived.KernelRfl
namespace Go.Proofs.YtjcoiplkcabipaaGreatDoor
/- THE CELL 'sum', in the pinned program and in every row, IS THE sha256 OF THE DUMP (.gsa) THAT YtjcoiplkcabipaaGreatDoorProg.lean LOADS. Nothing in Lean hashes anything: it is a label: what it is worth is what the hold of that sum in a sandbox is worth. -/
noncomputable def Tryz.pinned : Pinned := { name := "ytjcoiplkcabipaagreatdoor", sum := "c89409025524bfd62f32f87396826b7ee243238051fc45ef5c44b05e008c3c70", checked := Tryz.checked }
namespace Rows
def none {H : Type} : Left H := { results := [], args := [] }

/- WHAT THE LISTED PACKAGE-LEVEL VARIABLES READ AS WHEN THE CALL BEGINS. Each datum BY PROGRAM (the guide's laid-datum.mjs) off the statement by which the dump's own 'gosem.cut.vars' lays the variable. In a bare row this is a premise. The card (YtjcoiplkcabipaaGreatDoorCards.lean) ties it to the program's text. -/
def laid_annuitant_calendar_lengths {H : Type} : DataW H := .agg [.lit (.int .i64 31), .lit (.int .i64 28), .lit (.int .i64 31), .lit (.int .i64 30), .lit (.int .i64 31), .lit (.int .i64 30), .lit (.int .i64 31), .lit (.int .i64 31), .lit (.int .i64 30), .lit (.int .i64 31), .lit (.int .i64 30), .lit (.int .i64 31)]

/-- 'annuitantlaw09.SalaryBests': WHATEVER THE INPUT: true; the input reads as it did. -/
def salaryBestsSpec : ChangeSpec := { name := "salaryBests", fn := fun _ => fun
  | [d1, d2, d3, d4] => { results := [.lit (.bool true)], args := [d1, d2, d3, d4] }
  | _ => none }
def salaryBestsRow : OpenClaim := { program := "ytjcoiplkcabipaagreatdoor", sum := "c89409025524bfd62f32f87396826b7ee243238051fc45ef5c44b05e008c3c70", func := "annuitant/annuitantlaw09.SalaryBests", spec := "salaryBests", unfollowed := true, recurses := true, named := ["math/bits.overflowError", "annuitant/calendar.lengths"], apart := false, laid := [("annuitant/calendar.lengths", laid_annuitant_calendar_lengths)] }
def SalaryBestsSaid : Prop := salaryBestsRow.holds Tryz.pinned (OpenSpec.ofChange salaryBestsSpec)

/-- ITS FALSE NEIGHBOUR: 'it returns false'. Refute it at one input. -/
def salaryBestsWrong : ChangeSpec := { name := "salaryBests", fn := fun _ => fun
  | [d1, d2, d3, d4] => { results := [.lit (.bool false)], args := [d1, d2, d3, d4] }
  | _ => none }
def SalaryBestsWrongFalsely : Prop := salaryBestsRow.holds Tryz.pinned (OpenSpec.ofChange salaryBestsWrong)

/-- 'annuitantlaw09.SalarySmall': WHATEVER THE INPUT: true; the input reads as it did. -/
def salarySmallSpec : ChangeSpec := { name := "salarySmall", fn := fun _ => fun
  | [] => { results := [.lit (.bool true)], args := [] }
  | _ => none }
def salarySmallRow : OpenClaim := { program := "ytjcoiplkcabipaagreatdoor", sum := "c89409025524bfd62f32f87396826b7ee243238051fc45ef5c44b05e008c3c70", func := "annuitant/annuitantlaw09.SalarySmall", spec := "salarySmall", unfollowed := true, recurses := true, named := ["math/bits.overflowError", "annuitant/calendar.lengths"], apart := false, laid := [("annuitant/calendar.lengths", laid_annuitant_calendar_lengths)] }
def SalarySmallSaid : Prop := salarySmallRow.holds Tryz.pinned (OpenSpec.ofChange salarySmallSpec)

/-- ITS FALSE NEIGHBOUR: 'it returns false'. Refute it at one input. -/
def salarySmallWrong : ChangeSpec := { name := "salarySmall", fn := fun _ => fun
  | [] => { results := [.lit (.bool false)], args := [] }
  | _ => none }
def SalarySmallWrongFalsely : Prop := salarySmallRow.holds Tryz.pinned (OpenSpec.ofChange salarySmallWrong)

/- THE SECOND FORM. 'bulk': how many values and letters a reading holds, each counted each time it is reached (what is shared counts as often as it is met; a slice's spare places count too). A statement '..UptoSaid' is the law's where the arguments, and the package variables that the reading takes, are together of bulk at most 1048576: NARROWER than '..Said'. Prove '..Said' where nothing that the law and all that it calls make is longer than what came in: it says more and counts as full. Else prove '..UptoSaid'. A law counts once. -/
mutual
def uptoBulk {H : Type} : DataW H → Nat
  | .lit (.string bytes) => bytes.length + 1
  | .lit _ => 1
  | .nil => 1
  | .ptr d => uptoBulk d + 1
  | .slice elems spare => uptoBulkAll elems + uptoBulkAll spare + 1
  | .agg parts => uptoBulkAll parts + 1
  | .iface _ d => uptoBulk d + 1
  | .map entries => uptoBulkEntries entries + 1
  | .held _ => 1
def uptoBulkAll {H : Type} : List (DataW H) → Nat
  | [] => 0
  | d :: r => uptoBulk d + uptoBulkAll r
def uptoBulkEntries {H : Type} : List (Lit × DataW H) → Nat
  | [] => 0
  | x :: r => uptoBulkEntry x + uptoBulkEntries r
def uptoBulkEntry {H : Type} : Lit × DataW H → Nat
  | (.string bytes, d) => bytes.length + uptoBulk d + 1
  | (_, d) => uptoBulk d + 1
 end
def uptoSmall : (H : Type) → List (DataW H) → Bool := fun _ ds => decide (uptoBulkAll ds ≤ 1048576)
def OpenSpec.upto (s : _root_.Go.ChangeSpec) : _root_.Go.OpenSpec := { _root_.Go.OpenSpec.ofChange s with cond := some uptoSmall }

/-- 'annuitantlaw09.SalaryBests', WHERE WHAT IT READS IS OF BULK AT MOST 1048576: true; the input reads as it did. -/
def salaryBestsUptoRow : OpenClaim := { program := "ytjcoiplkcabipaagreatdoor", sum := "c89409025524bfd62f32f87396826b7ee243238051fc45ef5c44b05e008c3c70", func := "annuitant/annuitantlaw09.SalaryBests", spec := "salaryBests", unfollowed := true, recurses := true, named := ["math/bits.overflowError", "annuitant/calendar.lengths"], apart := false, laid := [("annuitant/calendar.lengths", laid_annuitant_calendar_lengths)], narrowed := true }
def SalaryBestsUptoSaid : Prop := salaryBestsUptoRow.holds Tryz.pinned (OpenSpec.upto salaryBestsSpec)

/-- 'annuitantlaw09.SalarySmall', WHERE WHAT IT READS IS OF BULK AT MOST 1048576: true; the input reads as it did. -/
def salarySmallUptoRow : OpenClaim := { program := "ytjcoiplkcabipaagreatdoor", sum := "c89409025524bfd62f32f87396826b7ee243238051fc45ef5c44b05e008c3c70", func := "annuitant/annuitantlaw09.SalarySmall", spec := "salarySmall", unfollowed := true, recurses := true, named := ["math/bits.overflowError", "annuitant/calendar.lengths"], apart := false, laid := [("annuitant/calendar.lengths", laid_annuitant_calendar_lengths)], narrowed := true }
def SalarySmallUptoSaid : Prop := salarySmallUptoRow.holds Tryz.pinned (OpenSpec.upto salarySmallSpec)

end Rows
end Go.Proofs.YtjcoiplkcabipaaGreatDoor
