/-
  DERIVED. GIVEN WITH THE SEED: THE CARDS: each row of YtnacfpmbanimpaaGreatDoorRows.lean that lists a variable, with what it lists TIED to the program's text (the seventh form; the later family's looks); each row that meets fmt, with fmt's text TOLD by the authors' own Lean function (tested against real Go, not proved from fmt's source: count such statements apart). THE CARD IS WHAT COUNTS. Prove the row's statement (the work); the ties are given (YtnacfpmbanimpaaGreatDoorTie.lean); close each card by the builder's one call (the guide's Derived/Test/ToyasCard.lean, 'card_holds'). Laid BY PROGRAM, IN A SANDBOX (cutbox-door.mjs). By AI agents, Wed Nov 11 2026. No macro, syntax, notation, axiom, sorry.
-/
import Derived.Test.YtnacfpmbanimpaaGreatDoorRows
import GoSem.ClaimSeven
namespace Go.Proofs.YtnacfpmbanimpaaGreatDoor
namespace Rows

/-- THE TIED CARD OF 'annuitantlaw09.SalaryMean'. -/
def salaryMeanCard : Claim7 := { stood := { row := salaryMeanRow, standIns := [], harness := (true, "fbeb016a0732ce078ecaa28ff71b933c8b6c3343245b4afc51e6f693fbee66cd"), looks := false }, kinds := [], alts := [], laidByText := true, laidKinds := [.data], laidTests := true, laidLooks := .later }
def SalaryMeanCardSaid : Prop := Claim7.holds Tryz.pinned (.plain (OpenSpec.ofChange salaryMeanSpec)) salaryMeanCard

/-- THE TIED CARD OF 'annuitantlaw09.SalaryScaled'. -/
def salaryScaledCard : Claim7 := { stood := { row := salaryScaledRow, standIns := [], harness := (true, "fbeb016a0732ce078ecaa28ff71b933c8b6c3343245b4afc51e6f693fbee66cd"), looks := false }, kinds := [], alts := [], laidByText := true, laidKinds := [.data], laidTests := true, laidLooks := .later }
def SalaryScaledCardSaid : Prop := Claim7.holds Tryz.pinned (.plain (OpenSpec.ofChange salaryScaledSpec)) salaryScaledCard

/-- THE TIED CARD OF 'annuitantlaw09.SalaryWrong'. -/
def salaryWrongCard : Claim7 := { stood := { row := salaryWrongRow, standIns := [], harness := (true, "fbeb016a0732ce078ecaa28ff71b933c8b6c3343245b4afc51e6f693fbee66cd"), looks := false }, kinds := [], alts := [], laidByText := true, laidKinds := [.data], laidTests := true, laidLooks := .later }
def SalaryWrongCardSaid : Prop := Claim7.holds Tryz.pinned (.plain (OpenSpec.ofChange salaryWrongSpec)) salaryWrongCard

/-- THE TIED CARD OF 'annuitantlaw09.SalaryBest'. -/
def salaryBestCard : Claim7 := { stood := { row := salaryBestRow, standIns := [], harness := (true, "fbeb016a0732ce078ecaa28ff71b933c8b6c3343245b4afc51e6f693fbee66cd"), looks := false }, kinds := [], alts := [], laidByText := true, laidKinds := [.data], laidTests := true, laidLooks := .later }
def SalaryBestCardSaid : Prop := Claim7.holds Tryz.pinned (.plain (OpenSpec.ofChange salaryBestSpec)) salaryBestCard

/-- THE TIED CARD OF 'annuitantlaw09.SalaryWindows'. -/
def salaryWindowsCard : Claim7 := { stood := { row := salaryWindowsRow, standIns := [], harness := (true, "fbeb016a0732ce078ecaa28ff71b933c8b6c3343245b4afc51e6f693fbee66cd"), looks := false }, kinds := [], alts := [], laidByText := true, laidKinds := [.data], laidTests := true, laidLooks := .later }
def SalaryWindowsCardSaid : Prop := Claim7.holds Tryz.pinned (.plain (OpenSpec.ofChange salaryWindowsSpec)) salaryWindowsCard

/-- THE TIED CARD OF 'annuitantlaw09.SalaryOutside'. -/
def salaryOutsideCard : Claim7 := { stood := { row := salaryOutsideRow, standIns := [], harness := (true, "fbeb016a0732ce078ecaa28ff71b933c8b6c3343245b4afc51e6f693fbee66cd"), looks := false }, kinds := [], alts := [], laidByText := true, laidKinds := [.data], laidTests := true, laidLooks := .later }
def SalaryOutsideCardSaid : Prop := Claim7.holds Tryz.pinned (.plain (OpenSpec.ofChange salaryOutsideSpec)) salaryOutsideCard

/-- THE SECOND FORM's CARD OF 'annuitantlaw09.SalaryMean'. -/
def salaryMeanUptoCard : Claim7 := { stood := { row := salaryMeanUptoRow, standIns := [], harness := (true, "fbeb016a0732ce078ecaa28ff71b933c8b6c3343245b4afc51e6f693fbee66cd"), looks := false }, kinds := [], alts := [], laidByText := true, laidKinds := [.data], laidTests := true, laidLooks := .later }
def SalaryMeanUptoCardSaid : Prop := Claim7.holds Tryz.pinned (.plain (OpenSpec.upto salaryMeanSpec)) salaryMeanUptoCard

/-- THE SECOND FORM's CARD OF 'annuitantlaw09.SalaryScaled'. -/
def salaryScaledUptoCard : Claim7 := { stood := { row := salaryScaledUptoRow, standIns := [], harness := (true, "fbeb016a0732ce078ecaa28ff71b933c8b6c3343245b4afc51e6f693fbee66cd"), looks := false }, kinds := [], alts := [], laidByText := true, laidKinds := [.data], laidTests := true, laidLooks := .later }
def SalaryScaledUptoCardSaid : Prop := Claim7.holds Tryz.pinned (.plain (OpenSpec.upto salaryScaledSpec)) salaryScaledUptoCard

/-- THE SECOND FORM's CARD OF 'annuitantlaw09.SalaryWrong'. -/
def salaryWrongUptoCard : Claim7 := { stood := { row := salaryWrongUptoRow, standIns := [], harness := (true, "fbeb016a0732ce078ecaa28ff71b933c8b6c3343245b4afc51e6f693fbee66cd"), looks := false }, kinds := [], alts := [], laidByText := true, laidKinds := [.data], laidTests := true, laidLooks := .later }
def SalaryWrongUptoCardSaid : Prop := Claim7.holds Tryz.pinned (.plain (OpenSpec.upto salaryWrongSpec)) salaryWrongUptoCard

/-- THE SECOND FORM's CARD OF 'annuitantlaw09.SalaryBest'. -/
def salaryBestUptoCard : Claim7 := { stood := { row := salaryBestUptoRow, standIns := [], harness := (true, "fbeb016a0732ce078ecaa28ff71b933c8b6c3343245b4afc51e6f693fbee66cd"), looks := false }, kinds := [], alts := [], laidByText := true, laidKinds := [.data], laidTests := true, laidLooks := .later }
def SalaryBestUptoCardSaid : Prop := Claim7.holds Tryz.pinned (.plain (OpenSpec.upto salaryBestSpec)) salaryBestUptoCard

/-- THE SECOND FORM's CARD OF 'annuitantlaw09.SalaryWindows'. -/
def salaryWindowsUptoCard : Claim7 := { stood := { row := salaryWindowsUptoRow, standIns := [], harness := (true, "fbeb016a0732ce078ecaa28ff71b933c8b6c3343245b4afc51e6f693fbee66cd"), looks := false }, kinds := [], alts := [], laidByText := true, laidKinds := [.data], laidTests := true, laidLooks := .later }
def SalaryWindowsUptoCardSaid : Prop := Claim7.holds Tryz.pinned (.plain (OpenSpec.upto salaryWindowsSpec)) salaryWindowsUptoCard

/-- THE SECOND FORM's CARD OF 'annuitantlaw09.SalaryOutside'. -/
def salaryOutsideUptoCard : Claim7 := { stood := { row := salaryOutsideUptoRow, standIns := [], harness := (true, "fbeb016a0732ce078ecaa28ff71b933c8b6c3343245b4afc51e6f693fbee66cd"), looks := false }, kinds := [], alts := [], laidByText := true, laidKinds := [.data], laidTests := true, laidLooks := .later }
def SalaryOutsideUptoCardSaid : Prop := Claim7.holds Tryz.pinned (.plain (OpenSpec.upto salaryOutsideSpec)) salaryOutsideUptoCard
end Rows
end Go.Proofs.YtnacfpmbanimpaaGreatDoor
