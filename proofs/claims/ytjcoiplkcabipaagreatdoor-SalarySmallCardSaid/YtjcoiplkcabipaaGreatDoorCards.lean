/-
  DERIVED. GIVEN WITH THE SEED: THE CARDS: each row of YtjcoiplkcabipaaGreatDoorRows.lean that lists a variable, with what it lists TIED to the program's text (the seventh form; the later family's looks); each row that meets fmt, with fmt's text TOLD by the authors' own Lean function (tested against real Go, not proved from fmt's source: count such statements apart). THE CARD IS WHAT COUNTS. Prove the row's statement (the work); the ties are given (YtjcoiplkcabipaaGreatDoorTie.lean); close each card by the builder's one call (the guide's Derived/Test/ToyasCard.lean, 'card_holds'). Laid BY PROGRAM, IN A SANDBOX (cutbox-door.mjs). By AI agents, Wed Nov 11 2026. No macro, syntax, notation, axiom, sorry.
-/
import Derived.Test.YtjcoiplkcabipaaGreatDoorRows
import GoSem.ClaimSeven
namespace Go.Proofs.YtjcoiplkcabipaaGreatDoor
namespace Rows

/-- THE TIED CARD OF 'annuitantlaw09.SalaryBests'. -/
def salaryBestsCard : Claim7 := { stood := { row := salaryBestsRow, standIns := [], harness := (true, "7957c93f3e24314e826c5f1ff1b3240867091b0209ffade7d51d577c63947538"), looks := false }, kinds := [], alts := [], laidByText := true, laidKinds := [.data], laidTests := true, laidLooks := .later }
def SalaryBestsCardSaid : Prop := Claim7.holds Tryz.pinned (.plain (OpenSpec.ofChange salaryBestsSpec)) salaryBestsCard

/-- THE TIED CARD OF 'annuitantlaw09.SalarySmall'. -/
def salarySmallCard : Claim7 := { stood := { row := salarySmallRow, standIns := [], harness := (true, "7957c93f3e24314e826c5f1ff1b3240867091b0209ffade7d51d577c63947538"), looks := false }, kinds := [], alts := [], laidByText := true, laidKinds := [.data], laidTests := true, laidLooks := .later }
def SalarySmallCardSaid : Prop := Claim7.holds Tryz.pinned (.plain (OpenSpec.ofChange salarySmallSpec)) salarySmallCard

/-- THE SECOND FORM's CARD OF 'annuitantlaw09.SalaryBests'. -/
def salaryBestsUptoCard : Claim7 := { stood := { row := salaryBestsUptoRow, standIns := [], harness := (true, "7957c93f3e24314e826c5f1ff1b3240867091b0209ffade7d51d577c63947538"), looks := false }, kinds := [], alts := [], laidByText := true, laidKinds := [.data], laidTests := true, laidLooks := .later }
def SalaryBestsUptoCardSaid : Prop := Claim7.holds Tryz.pinned (.plain (OpenSpec.upto salaryBestsSpec)) salaryBestsUptoCard

/-- THE SECOND FORM's CARD OF 'annuitantlaw09.SalarySmall'. -/
def salarySmallUptoCard : Claim7 := { stood := { row := salarySmallUptoRow, standIns := [], harness := (true, "7957c93f3e24314e826c5f1ff1b3240867091b0209ffade7d51d577c63947538"), looks := false }, kinds := [], alts := [], laidByText := true, laidKinds := [.data], laidTests := true, laidLooks := .later }
def SalarySmallUptoCardSaid : Prop := Claim7.holds Tryz.pinned (.plain (OpenSpec.upto salarySmallSpec)) salarySmallUptoCard
end Rows
end Go.Proofs.YtjcoiplkcabipaaGreatDoor
