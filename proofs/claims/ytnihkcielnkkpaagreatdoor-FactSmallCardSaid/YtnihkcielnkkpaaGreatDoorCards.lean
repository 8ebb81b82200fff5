/-
  DERIVED. GIVEN WITH THE SEED: THE CARDS: each row of YtnihkcielnkkpaaGreatDoorRows.lean that lists a variable, with what it lists TIED to the program's text (the seventh form; the later family's looks); each row that meets fmt, with fmt's text TOLD by the authors' own Lean function (tested against real Go, not proved from fmt's source: count such statements apart). THE CARD IS WHAT COUNTS. Prove the row's statement (the work); the ties are given (YtnihkcielnkkpaaGreatDoorTie.lean); close each card by the builder's one call (the guide's Derived/Test/ToyasCard.lean, 'card_holds'). Laid BY PROGRAM, IN A SANDBOX (cutbox-door.mjs). By AI agents, Wed Nov 11 2026. No macro, syntax, notation, axiom, sorry.
-/
import Derived.Test.YtnihkcielnkkpaaGreatDoorRows
import GoSem.ClaimSeven
namespace Go.Proofs.YtnihkcielnkkpaaGreatDoor
namespace Rows

/-- THE TIED CARD OF 'annuitantlaw06.FactSmall'. -/
def factSmallCard : Claim7 := { stood := { row := factSmallRow, standIns := [], harness := (true, "6b5d859328e1088641b6db65f87d72e81f6add0156dd21068f46a3fa18d761c2"), looks := false }, kinds := [], alts := [], laidByText := true, laidKinds := [.data, .data, .data], laidTests := true, laidLooks := .later }
def FactSmallCardSaid : Prop := Claim7.holds Tryz.pinned (.plain (OpenSpec.ofChange factSmallSpec)) factSmallCard

/-- THE SECOND FORM's CARD OF 'annuitantlaw06.FactSmall'. -/
def factSmallUptoCard : Claim7 := { stood := { row := factSmallUptoRow, standIns := [], harness := (true, "6b5d859328e1088641b6db65f87d72e81f6add0156dd21068f46a3fa18d761c2"), looks := false }, kinds := [], alts := [], laidByText := true, laidKinds := [.data, .data, .data], laidTests := true, laidLooks := .later }
def FactSmallUptoCardSaid : Prop := Claim7.holds Tryz.pinned (.plain (OpenSpec.upto factSmallSpec)) factSmallUptoCard
end Rows
end Go.Proofs.YtnihkcielnkkpaaGreatDoor
