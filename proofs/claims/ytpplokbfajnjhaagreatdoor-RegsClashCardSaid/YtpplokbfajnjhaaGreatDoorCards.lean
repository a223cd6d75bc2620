/-
  DERIVED. GIVEN WITH THE SEED: THE CARDS: each row of YtpplokbfajnjhaaGreatDoorRows.lean that lists a variable, with what it lists TIED to the program's text (the seventh form; the later family's looks); each row that meets fmt, with fmt's text TOLD by the authors' own Lean function (tested against real Go, not proved from fmt's source: count such statements apart). THE CARD IS WHAT COUNTS. Prove the row's statement (the work); the ties are given (YtpplokbfajnjhaaGreatDoorTie.lean); close each card by the builder's one call (the guide's Derived/Test/ToyasCard.lean, 'card_holds'). Laid BY PROGRAM, IN A SANDBOX (cutbox-door.mjs). By AI agents, Wed Nov 11 2026. No macro, syntax, notation, axiom, sorry.
-/
import Derived.Test.YtpplokbfajnjhaaGreatDoorRows
import GoSem.ClaimSeven
namespace Go.Proofs.YtpplokbfajnjhaaGreatDoor
namespace Rows

/-- THE TIED CARD OF 'lodelaw13.RegsClash'. -/
def regsClashCard : Claim7 := { stood := { row := regsClashRow, standIns := [], harness := (true, "02c643e0c287ff64622b374558b22e5de8841c874256fd9c56d63ceb23d6159e"), looks := true }, kinds := [], alts := [], laidByText := true, laidKinds := [.data, .data, .data, .sentinel, .sentinel], laidTests := true, laidLooks := .later }
def RegsClashCardSaid : Prop := Claim7.holds Tryz.pinned (.plain (OpenSpec.ofChange regsClashSpec)) regsClashCard

/-- THE SECOND FORM's CARD OF 'lodelaw13.RegsClash'. -/
def regsClashUptoCard : Claim7 := { stood := { row := regsClashUptoRow, standIns := [], harness := (true, "02c643e0c287ff64622b374558b22e5de8841c874256fd9c56d63ceb23d6159e"), looks := true }, kinds := [], alts := [], laidByText := true, laidKinds := [.data, .data, .data, .sentinel, .sentinel], laidTests := true, laidLooks := .later }
def RegsClashUptoCardSaid : Prop := Claim7.holds Tryz.pinned (.plain (OpenSpec.upto regsClashSpec)) regsClashUptoCard
end Rows
end Go.Proofs.YtpplokbfajnjhaaGreatDoor
