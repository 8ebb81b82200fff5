/-
  DERIVED. GIVEN WITH THE SEED: THE CARDS: each row of YtobjfhagbkjegaaGreatDoorRows.lean that lists a variable, with what it lists TIED to the program's text (the seventh form; the later family's looks); each row that meets fmt, with fmt's text TOLD by the authors' own Lean function (tested against real Go, not proved from fmt's source: count such statements apart). THE CARD IS WHAT COUNTS. Prove the row's statement (the work); the ties are given (YtobjfhagbkjegaaGreatDoorTie.lean); close each card by the builder's one call (the guide's Derived/Test/ToyasCard.lean, 'card_holds'). Laid BY PROGRAM, IN A SANDBOX (cutbox-door.mjs). By AI agents, Wed Nov 11 2026. No macro, syntax, notation, axiom, sorry.
-/
import Derived.Test.YtobjfhagbkjegaaGreatDoorRows
import GoSem.ClaimSeven
namespace Go.Proofs.YtobjfhagbkjegaaGreatDoor
namespace Rows

/-- THE TIED CARD OF 'annuitantlaw06.FactRights'. -/
def factRightsCard : Claim7 := { stood := { row := factRightsRow, standIns := [], harness := (true, "f38a013f48a76c2defe0dc2ad111a2fdda8b18fa585194e30e095a3f479a6f28"), looks := false }, kinds := [], alts := [], laidByText := true, laidKinds := [.data, .data, .data], laidTests := true, laidLooks := .later }
def FactRightsCardSaid : Prop := Claim7.holds Tryz.pinned (.plain (OpenSpec.ofChange factRightsSpec)) factRightsCard

/-- THE SECOND FORM's CARD OF 'annuitantlaw06.FactRights'. -/
def factRightsUptoCard : Claim7 := { stood := { row := factRightsUptoRow, standIns := [], harness := (true, "f38a013f48a76c2defe0dc2ad111a2fdda8b18fa585194e30e095a3f479a6f28"), looks := false }, kinds := [], alts := [], laidByText := true, laidKinds := [.data, .data, .data], laidTests := true, laidLooks := .later }
def FactRightsUptoCardSaid : Prop := Claim7.holds Tryz.pinned (.plain (OpenSpec.upto factRightsSpec)) factRightsUptoCard
end Rows
end Go.Proofs.YtobjfhagbkjegaaGreatDoor
