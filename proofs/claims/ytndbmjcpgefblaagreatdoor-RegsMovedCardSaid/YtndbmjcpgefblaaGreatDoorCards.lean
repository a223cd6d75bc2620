/-
  DERIVED. GIVEN WITH THE SEED: THE CARDS: each row of YtndbmjcpgefblaaGreatDoorRows.lean that lists a variable, with what it lists TIED to the program's text (the seventh form; the later family's looks); each row that meets fmt, with fmt's text TOLD by the authors' own Lean function (tested against real Go, not proved from fmt's source: count such statements apart). THE CARD IS WHAT COUNTS. Prove the row's statement (the work); the ties are given (YtndbmjcpgefblaaGreatDoorTie.lean); close each card by the builder's one call (the guide's Derived/Test/ToyasCard.lean, 'card_holds'). Laid BY PROGRAM, IN A SANDBOX (cutbox-door.mjs). By AI agents, Wed Nov 11 2026. No macro, syntax, notation, axiom, sorry.
-/
import Derived.Test.YtndbmjcpgefblaaGreatDoorRows
import GoSem.ClaimSeven
namespace Go.Proofs.YtndbmjcpgefblaaGreatDoor
namespace Rows

/-- THE TIED CARD OF 'lodelaw13.RegsMoves'. -/
def regsMovesCard : Claim7 := { stood := { row := regsMovesRow, standIns := [], harness := (true, "cbd0ae30834f816aab7ddde82c2f3fefbd6e70a9e2b798a7a6b77010ac35ebd2"), looks := true }, kinds := [], alts := [], laidByText := true, laidKinds := [.data, .data, .data, .sentinel, .sentinel], laidTests := true, laidLooks := .later }
def RegsMovesCardSaid : Prop := Claim7.holds Tryz.pinned (.plain (OpenSpec.ofChange regsMovesSpec)) regsMovesCard

/-- THE TIED CARD OF 'lodelaw13.RegsMoved'. -/
def regsMovedCard : Claim7 := { stood := { row := regsMovedRow, standIns := [], harness := (true, "cbd0ae30834f816aab7ddde82c2f3fefbd6e70a9e2b798a7a6b77010ac35ebd2"), looks := true }, kinds := [], alts := [], laidByText := true, laidKinds := [.data, .data, .data, .sentinel, .sentinel], laidTests := true, laidLooks := .later }
def RegsMovedCardSaid : Prop := Claim7.holds Tryz.pinned (.plain (OpenSpec.ofChange regsMovedSpec)) regsMovedCard

/-- THE SECOND FORM's CARD OF 'lodelaw13.RegsMoves'. -/
def regsMovesUptoCard : Claim7 := { stood := { row := regsMovesUptoRow, standIns := [], harness := (true, "cbd0ae30834f816aab7ddde82c2f3fefbd6e70a9e2b798a7a6b77010ac35ebd2"), looks := true }, kinds := [], alts := [], laidByText := true, laidKinds := [.data, .data, .data, .sentinel, .sentinel], laidTests := true, laidLooks := .later }
def RegsMovesUptoCardSaid : Prop := Claim7.holds Tryz.pinned (.plain (OpenSpec.upto regsMovesSpec)) regsMovesUptoCard

/-- THE SECOND FORM's CARD OF 'lodelaw13.RegsMoved'. -/
def regsMovedUptoCard : Claim7 := { stood := { row := regsMovedUptoRow, standIns := [], harness := (true, "cbd0ae30834f816aab7ddde82c2f3fefbd6e70a9e2b798a7a6b77010ac35ebd2"), looks := true }, kinds := [], alts := [], laidByText := true, laidKinds := [.data, .data, .data, .sentinel, .sentinel], laidTests := true, laidLooks := .later }
def RegsMovedUptoCardSaid : Prop := Claim7.holds Tryz.pinned (.plain (OpenSpec.upto regsMovedSpec)) regsMovedUptoCard
end Rows
end Go.Proofs.YtndbmjcpgefblaaGreatDoor
