/-
  DERIVED. GIVEN WITH THE SEED: THE CARDS: each row of YtjapbgcbkolgmaaGreatDoorRows.lean that lists a variable, with what it lists TIED to the program's text (the seventh form; the later family's looks); each row that meets fmt, with fmt's text TOLD by the authors' own Lean function (tested against real Go, not proved from fmt's source: count such statements apart). THE CARD IS WHAT COUNTS. Prove the row's statement (the work); the ties are given (YtjapbgcbkolgmaaGreatDoorTie.lean); close each card by the builder's one call (the guide's Derived/Test/ToyasCard.lean, 'card_holds'). Laid BY PROGRAM, IN A SANDBOX (cutbox-door.mjs). By AI agents, Wed Nov 11 2026. No macro, syntax, notation, axiom, sorry.
-/
import Derived.Test.YtjapbgcbkolgmaaGreatDoorRows
import GoSem.ClaimSeven
namespace Go.Proofs.YtjapbgcbkolgmaaGreatDoor
namespace Rows

/-- THE TIED CARD OF 'lodelaw11.GraphLive'. -/
def graphLiveCard : Claim7 := { stood := { row := graphLiveRow, standIns := [], harness := (true, "98fa0285d95dc29a2c98f304d8c50f86ab66763768ac9664f4776760cd406087"), looks := true }, kinds := [], alts := [], laidByText := true, laidKinds := [.data, .data, .data, .sentinel, .sentinel], laidTests := true, laidLooks := .later }
def GraphLiveCardSaid : Prop := Claim7.holds Tryz.pinned (.plain (OpenSpec.ofChange graphLiveSpec)) graphLiveCard

/-- THE SECOND FORM's CARD OF 'lodelaw11.GraphLive'. -/
def graphLiveUptoCard : Claim7 := { stood := { row := graphLiveUptoRow, standIns := [], harness := (true, "98fa0285d95dc29a2c98f304d8c50f86ab66763768ac9664f4776760cd406087"), looks := true }, kinds := [], alts := [], laidByText := true, laidKinds := [.data, .data, .data, .sentinel, .sentinel], laidTests := true, laidLooks := .later }
def GraphLiveUptoCardSaid : Prop := Claim7.holds Tryz.pinned (.plain (OpenSpec.upto graphLiveSpec)) graphLiveUptoCard
end Rows
end Go.Proofs.YtjapbgcbkolgmaaGreatDoor
