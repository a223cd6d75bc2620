/-
  DERIVED. GIVEN WITH THE SEED: THE CARDS: each row of YtodnahjlheaolaaGreatDoorRows.lean that lists a variable, with what it lists TIED to the program's text (the seventh form; the later family's looks); each row that meets fmt, with fmt's text TOLD by the authors' own Lean function (tested against real Go, not proved from fmt's source: count such statements apart). THE CARD IS WHAT COUNTS. Prove the row's statement (the work); the ties are given (YtodnahjlheaolaaGreatDoorTie.lean); close each card by the builder's one call (the guide's Derived/Test/ToyasCard.lean, 'card_holds'). Laid BY PROGRAM, IN A SANDBOX (cutbox-door.mjs). By AI agents, Wed Nov 11 2026. No macro, syntax, notation, axiom, sorry.
-/
import Derived.Test.YtodnahjlheaolaaGreatDoorRows
import GoSem.ClaimSeven
namespace Go.Proofs.YtodnahjlheaolaaGreatDoor
namespace Rows

/-- THE TIED CARD OF 'lodelaw13.RegsColours'. -/
def regsColoursCard : Claim7 := { stood := { row := regsColoursRow, standIns := [], harness := (true, "5f1c50770a969e6fa0aef1afb96a061f1e8fabbfa9a906ee1e872a6ba3406d58"), looks := true }, kinds := [], alts := [], laidByText := true, laidKinds := [.data, .data, .data, .sentinel, .sentinel], laidTests := true, laidLooks := .later }
def RegsColoursCardSaid : Prop := Claim7.holds Tryz.pinned (.plain (OpenSpec.ofChange regsColoursSpec)) regsColoursCard

/-- THE SECOND FORM's CARD OF 'lodelaw13.RegsColours'. -/
def regsColoursUptoCard : Claim7 := { stood := { row := regsColoursUptoRow, standIns := [], harness := (true, "5f1c50770a969e6fa0aef1afb96a061f1e8fabbfa9a906ee1e872a6ba3406d58"), looks := true }, kinds := [], alts := [], laidByText := true, laidKinds := [.data, .data, .data, .sentinel, .sentinel], laidTests := true, laidLooks := .later }
def RegsColoursUptoCardSaid : Prop := Claim7.holds Tryz.pinned (.plain (OpenSpec.upto regsColoursSpec)) regsColoursUptoCard
end Rows
end Go.Proofs.YtodnahjlheaolaaGreatDoor
