/-
  DERIVED. GIVEN WITH THE SEED: THE CARDS: each row of YtcipmlnpjkngpaaGreatDoorRows.lean that lists a variable, with what it lists TIED to the program's text (the seventh form; the later family's looks); each row that meets fmt, with fmt's text TOLD by the authors' own Lean function (tested against real Go, not proved from fmt's source: count such statements apart). THE CARD IS WHAT COUNTS. Prove the row's statement (the work); the ties are given (YtcipmlnpjkngpaaGreatDoorTie.lean); close each card by the builder's one call (the guide's Derived/Test/ToyasCard.lean, 'card_holds'). Laid BY PROGRAM, IN A SANDBOX (cutbox-door.mjs). By AI agents, Wed Nov 11 2026. No macro, syntax, notation, axiom, sorry.
-/
import Derived.Test.YtcipmlnpjkngpaaGreatDoorRows
import GoSem.ClaimSeven
namespace Go.Proofs.YtcipmlnpjkngpaaGreatDoor
namespace Rows

/-- THE TIED CARD OF 'lodelaw11.GraphLives'. -/
def graphLivesCard : Claim7 := { stood := { row := graphLivesRow, standIns := [], harness := (true, "fd1f0a2feaafffd70bfd883ab38e6347da2c32598cc9824779b451ef968f8098"), looks := true }, kinds := [], alts := [], laidByText := true, laidKinds := [.data, .data, .data, .sentinel, .sentinel], laidTests := true, laidLooks := .later }
def GraphLivesCardSaid : Prop := Claim7.holds Tryz.pinned (.plain (OpenSpec.ofChange graphLivesSpec)) graphLivesCard

/-- THE SECOND FORM's CARD OF 'lodelaw11.GraphLives'. -/
def graphLivesUptoCard : Claim7 := { stood := { row := graphLivesUptoRow, standIns := [], harness := (true, "fd1f0a2feaafffd70bfd883ab38e6347da2c32598cc9824779b451ef968f8098"), looks := true }, kinds := [], alts := [], laidByText := true, laidKinds := [.data, .data, .data, .sentinel, .sentinel], laidTests := true, laidLooks := .later }
def GraphLivesUptoCardSaid : Prop := Claim7.holds Tryz.pinned (.plain (OpenSpec.upto graphLivesSpec)) graphLivesUptoCard
end Rows
end Go.Proofs.YtcipmlnpjkngpaaGreatDoor
