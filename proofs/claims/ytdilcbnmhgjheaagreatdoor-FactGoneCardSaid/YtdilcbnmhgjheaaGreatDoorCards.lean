/-
  DERIVED. GIVEN WITH THE SEED: THE CARDS: each row of YtdilcbnmhgjheaaGreatDoorRows.lean that lists a variable, with what it lists TIED to the program's text (the seventh form; the later family's looks); each row that meets fmt, with fmt's text TOLD by the authors' own Lean function (tested against real Go, not proved from fmt's source: count such statements apart). THE CARD IS WHAT COUNTS. Prove the row's statement (the work); the ties are given (YtdilcbnmhgjheaaGreatDoorTie.lean); close each card by the builder's one call (the guide's Derived/Test/ToyasCard.lean, 'card_holds'). Laid BY PROGRAM, IN A SANDBOX (cutbox-door.mjs). By AI agents, Wed Nov 11 2026. No macro, syntax, notation, axiom, sorry.
-/
import Derived.Test.YtdilcbnmhgjheaaGreatDoorRows
import GoSem.ClaimSeven
namespace Go.Proofs.YtdilcbnmhgjheaaGreatDoor
namespace Rows

/-- THE TIED CARD OF 'annuitantlaw06.FactOrder'. -/
def factOrderCard : Claim7 := { stood := { row := factOrderRow, standIns := [], harness := (true, "48a879b34ca97ca6e37d89cfb3dc7382f1288208c395c1eabd112f4709842fbf"), looks := false }, kinds := [], alts := [], laidByText := true, laidKinds := [.data, .data, .data], laidTests := true, laidLooks := .later }
def FactOrderCardSaid : Prop := Claim7.holds Tryz.pinned (.plain (OpenSpec.ofChange factOrderSpec)) factOrderCard

/-- THE TIED CARD OF 'annuitantlaw06.FactLearns'. -/
def factLearnsCard : Claim7 := { stood := { row := factLearnsRow, standIns := [], harness := (true, "48a879b34ca97ca6e37d89cfb3dc7382f1288208c395c1eabd112f4709842fbf"), looks := false }, kinds := [], alts := [], laidByText := true, laidKinds := [.data, .data, .data], laidTests := true, laidLooks := .later }
def FactLearnsCardSaid : Prop := Claim7.holds Tryz.pinned (.plain (OpenSpec.ofChange factLearnsSpec)) factLearnsCard

/-- THE TIED CARD OF 'annuitantlaw06.FactLast'. -/
def factLastCard : Claim7 := { stood := { row := factLastRow, standIns := [], harness := (true, "48a879b34ca97ca6e37d89cfb3dc7382f1288208c395c1eabd112f4709842fbf"), looks := false }, kinds := [], alts := [], laidByText := true, laidKinds := [.data, .data, .data], laidTests := true, laidLooks := .later }
def FactLastCardSaid : Prop := Claim7.holds Tryz.pinned (.plain (OpenSpec.ofChange factLastSpec)) factLastCard

/-- THE TIED CARD OF 'annuitantlaw06.FactGone'. -/
def factGoneCard : Claim7 := { stood := { row := factGoneRow, standIns := [], harness := (true, "48a879b34ca97ca6e37d89cfb3dc7382f1288208c395c1eabd112f4709842fbf"), looks := false }, kinds := [], alts := [], laidByText := true, laidKinds := [.data, .data, .data], laidTests := true, laidLooks := .later }
def FactGoneCardSaid : Prop := Claim7.holds Tryz.pinned (.plain (OpenSpec.ofChange factGoneSpec)) factGoneCard

/-- THE TIED CARD OF 'annuitantlaw06.FactWrong'. -/
def factWrongCard : Claim7 := { stood := { row := factWrongRow, standIns := [], harness := (true, "48a879b34ca97ca6e37d89cfb3dc7382f1288208c395c1eabd112f4709842fbf"), looks := false }, kinds := [], alts := [], laidByText := true, laidKinds := [.data, .data, .data], laidTests := true, laidLooks := .later }
def FactWrongCardSaid : Prop := Claim7.holds Tryz.pinned (.plain (OpenSpec.ofChange factWrongSpec)) factWrongCard

/-- THE TIED CARD OF 'annuitantlaw06.FactLater'. -/
def factLaterCard : Claim7 := { stood := { row := factLaterRow, standIns := [], harness := (true, "48a879b34ca97ca6e37d89cfb3dc7382f1288208c395c1eabd112f4709842fbf"), looks := false }, kinds := [], alts := [], laidByText := true, laidKinds := [.data, .data, .data], laidTests := true, laidLooks := .later }
def FactLaterCardSaid : Prop := Claim7.holds Tryz.pinned (.plain (OpenSpec.ofChange factLaterSpec)) factLaterCard

/-- THE TIED CARD OF 'annuitantlaw06.FactDiffs'. -/
def factDiffsCard : Claim7 := { stood := { row := factDiffsRow, standIns := [], harness := (true, "48a879b34ca97ca6e37d89cfb3dc7382f1288208c395c1eabd112f4709842fbf"), looks := false }, kinds := [], alts := [], laidByText := true, laidKinds := [.data, .data, .data], laidTests := true, laidLooks := .later }
def FactDiffsCardSaid : Prop := Claim7.holds Tryz.pinned (.plain (OpenSpec.ofChange factDiffsSpec)) factDiffsCard

/-- THE SECOND FORM's CARD OF 'annuitantlaw06.FactOrder'. -/
def factOrderUptoCard : Claim7 := { stood := { row := factOrderUptoRow, standIns := [], harness := (true, "48a879b34ca97ca6e37d89cfb3dc7382f1288208c395c1eabd112f4709842fbf"), looks := false }, kinds := [], alts := [], laidByText := true, laidKinds := [.data, .data, .data], laidTests := true, laidLooks := .later }
def FactOrderUptoCardSaid : Prop := Claim7.holds Tryz.pinned (.plain (OpenSpec.upto factOrderSpec)) factOrderUptoCard

/-- THE SECOND FORM's CARD OF 'annuitantlaw06.FactLearns'. -/
def factLearnsUptoCard : Claim7 := { stood := { row := factLearnsUptoRow, standIns := [], harness := (true, "48a879b34ca97ca6e37d89cfb3dc7382f1288208c395c1eabd112f4709842fbf"), looks := false }, kinds := [], alts := [], laidByText := true, laidKinds := [.data, .data, .data], laidTests := true, laidLooks := .later }
def FactLearnsUptoCardSaid : Prop := Claim7.holds Tryz.pinned (.plain (OpenSpec.upto factLearnsSpec)) factLearnsUptoCard

/-- THE SECOND FORM's CARD OF 'annuitantlaw06.FactLast'. -/
def factLastUptoCard : Claim7 := { stood := { row := factLastUptoRow, standIns := [], harness := (true, "48a879b34ca97ca6e37d89cfb3dc7382f1288208c395c1eabd112f4709842fbf"), looks := false }, kinds := [], alts := [], laidByText := true, laidKinds := [.data, .data, .data], laidTests := true, laidLooks := .later }
def FactLastUptoCardSaid : Prop := Claim7.holds Tryz.pinned (.plain (OpenSpec.upto factLastSpec)) factLastUptoCard

/-- THE SECOND FORM's CARD OF 'annuitantlaw06.FactGone'. -/
def factGoneUptoCard : Claim7 := { stood := { row := factGoneUptoRow, standIns := [], harness := (true, "48a879b34ca97ca6e37d89cfb3dc7382f1288208c395c1eabd112f4709842fbf"), looks := false }, kinds := [], alts := [], laidByText := true, laidKinds := [.data, .data, .data], laidTests := true, laidLooks := .later }
def FactGoneUptoCardSaid : Prop := Claim7.holds Tryz.pinned (.plain (OpenSpec.upto factGoneSpec)) factGoneUptoCard

/-- THE SECOND FORM's CARD OF 'annuitantlaw06.FactWrong'. -/
def factWrongUptoCard : Claim7 := { stood := { row := factWrongUptoRow, standIns := [], harness := (true, "48a879b34ca97ca6e37d89cfb3dc7382f1288208c395c1eabd112f4709842fbf"), looks := false }, kinds := [], alts := [], laidByText := true, laidKinds := [.data, .data, .data], laidTests := true, laidLooks := .later }
def FactWrongUptoCardSaid : Prop := Claim7.holds Tryz.pinned (.plain (OpenSpec.upto factWrongSpec)) factWrongUptoCard

/-- THE SECOND FORM's CARD OF 'annuitantlaw06.FactLater'. -/
def factLaterUptoCard : Claim7 := { stood := { row := factLaterUptoRow, standIns := [], harness := (true, "48a879b34ca97ca6e37d89cfb3dc7382f1288208c395c1eabd112f4709842fbf"), looks := false }, kinds := [], alts := [], laidByText := true, laidKinds := [.data, .data, .data], laidTests := true, laidLooks := .later }
def FactLaterUptoCardSaid : Prop := Claim7.holds Tryz.pinned (.plain (OpenSpec.upto factLaterSpec)) factLaterUptoCard

/-- THE SECOND FORM's CARD OF 'annuitantlaw06.FactDiffs'. -/
def factDiffsUptoCard : Claim7 := { stood := { row := factDiffsUptoRow, standIns := [], harness := (true, "48a879b34ca97ca6e37d89cfb3dc7382f1288208c395c1eabd112f4709842fbf"), looks := false }, kinds := [], alts := [], laidByText := true, laidKinds := [.data, .data, .data], laidTests := true, laidLooks := .later }
def FactDiffsUptoCardSaid : Prop := Claim7.holds Tryz.pinned (.plain (OpenSpec.upto factDiffsSpec)) factDiffsUptoCard
end Rows
end Go.Proofs.YtdilcbnmhgjheaaGreatDoor
