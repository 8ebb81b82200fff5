/-
  DERIVED. GIVEN WITH THE SEED: THE CARDS: each row of YtdcbapghcmhgkaaGreatDoorRows.lean that lists a variable, with what it lists TIED to the program's text (the seventh form; the later family's looks); each row that meets fmt, with fmt's text TOLD by the authors' own Lean function (tested against real Go, not proved from fmt's source: count such statements apart). THE CARD IS WHAT COUNTS. Prove the row's statement (the work); the ties are given (YtdcbapghcmhgkaaGreatDoorTie.lean); close each card by the builder's one call (the guide's Derived/Test/ToyasCard.lean, 'card_holds'). Laid BY PROGRAM, IN A SANDBOX (cutbox-door.mjs). By AI agents, Wed Nov 11 2026. No macro, syntax, notation, axiom, sorry.
-/
import Derived.Test.YtdcbapghcmhgkaaGreatDoorRows
import GoSem.ClaimSeven
namespace Go.Proofs.YtdcbapghcmhgkaaGreatDoor
namespace Rows

/-- THE TIED CARD OF 'annuitantlaw09.SalaryMeans'. -/
def salaryMeansCard : Claim7 := { stood := { row := salaryMeansRow, standIns := [], harness := (true, "988f4bbd4eec0e8b49974c865e6802c180e31cb2c2866e4abd381bd193644c20"), looks := false }, kinds := [], alts := [], laidByText := true, laidKinds := [.data], laidTests := true, laidLooks := .later }
def SalaryMeansCardSaid : Prop := Claim7.holds Tryz.pinned (.plain (OpenSpec.ofChange salaryMeansSpec)) salaryMeansCard

/-- THE TIED CARD OF 'annuitantlaw09.SalaryBests'. -/
def salaryBestsCard : Claim7 := { stood := { row := salaryBestsRow, standIns := [], harness := (true, "988f4bbd4eec0e8b49974c865e6802c180e31cb2c2866e4abd381bd193644c20"), looks := false }, kinds := [], alts := [], laidByText := true, laidKinds := [.data], laidTests := true, laidLooks := .later }
def SalaryBestsCardSaid : Prop := Claim7.holds Tryz.pinned (.plain (OpenSpec.ofChange salaryBestsSpec)) salaryBestsCard

/-- THE TIED CARD OF 'annuitantlaw09.SalarySmall'. -/
def salarySmallCard : Claim7 := { stood := { row := salarySmallRow, standIns := [], harness := (true, "988f4bbd4eec0e8b49974c865e6802c180e31cb2c2866e4abd381bd193644c20"), looks := false }, kinds := [], alts := [], laidByText := true, laidKinds := [.data], laidTests := true, laidLooks := .later }
def SalarySmallCardSaid : Prop := Claim7.holds Tryz.pinned (.plain (OpenSpec.ofChange salarySmallSpec)) salarySmallCard

/-- THE SECOND FORM's CARD OF 'annuitantlaw09.SalaryMeans'. -/
def salaryMeansUptoCard : Claim7 := { stood := { row := salaryMeansUptoRow, standIns := [], harness := (true, "988f4bbd4eec0e8b49974c865e6802c180e31cb2c2866e4abd381bd193644c20"), looks := false }, kinds := [], alts := [], laidByText := true, laidKinds := [.data], laidTests := true, laidLooks := .later }
def SalaryMeansUptoCardSaid : Prop := Claim7.holds Tryz.pinned (.plain (OpenSpec.upto salaryMeansSpec)) salaryMeansUptoCard

/-- THE SECOND FORM's CARD OF 'annuitantlaw09.SalaryBests'. -/
def salaryBestsUptoCard : Claim7 := { stood := { row := salaryBestsUptoRow, standIns := [], harness := (true, "988f4bbd4eec0e8b49974c865e6802c180e31cb2c2866e4abd381bd193644c20"), looks := false }, kinds := [], alts := [], laidByText := true, laidKinds := [.data], laidTests := true, laidLooks := .later }
def SalaryBestsUptoCardSaid : Prop := Claim7.holds Tryz.pinned (.plain (OpenSpec.upto salaryBestsSpec)) salaryBestsUptoCard

/-- THE SECOND FORM's CARD OF 'annuitantlaw09.SalarySmall'. -/
def salarySmallUptoCard : Claim7 := { stood := { row := salarySmallUptoRow, standIns := [], harness := (true, "988f4bbd4eec0e8b49974c865e6802c180e31cb2c2866e4abd381bd193644c20"), looks := false }, kinds := [], alts := [], laidByText := true, laidKinds := [.data], laidTests := true, laidLooks := .later }
def SalarySmallUptoCardSaid : Prop := Claim7.holds Tryz.pinned (.plain (OpenSpec.upto salarySmallSpec)) salarySmallUptoCard
end Rows
end Go.Proofs.YtdcbapghcmhgkaaGreatDoor
