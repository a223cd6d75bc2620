/-
  DERIVED. GIVEN WITH THE SEED: THE CARDS: each row of YtjhkgigolpfcfaaGreatDoorRows.lean that lists a variable, with what it lists TIED to the program's text (the seventh form; the later family's looks); each row that meets fmt, with fmt's text TOLD by the authors' own Lean function (tested against real Go, not proved from fmt's source: count such statements apart). THE CARD IS WHAT COUNTS. Prove the row's statement (the work); the ties are given (YtjhkgigolpfcfaaGreatDoorTie.lean); close each card by the builder's one call (the guide's Derived/Test/ToyasCard.lean, 'card_holds'). Laid BY PROGRAM, IN A SANDBOX (cutbox-door.mjs). By AI agents, Wed Nov 11 2026. No macro, syntax, notation, axiom, sorry.
-/
import Derived.Test.YtjhkgigolpfcfaaGreatDoorRows
import GoSem.ClaimSeven
namespace Go.Proofs.YtjhkgigolpfcfaaGreatDoor
namespace Rows

/-- THE TIED CARD OF 'lodelaw13.RegsLive'. -/
def regsLiveCard : Claim7 := { stood := { row := regsLiveRow, standIns := [], harness := (true, "e675a71c8dbb15b36683c12f96c7c0e8c5eba8f6e9c937083c21dd5116cc3b7c"), looks := true }, kinds := [], alts := [], laidByText := true, laidKinds := [.data, .data, .data, .sentinel, .sentinel], laidTests := true, laidLooks := .later }
def RegsLiveCardSaid : Prop := Claim7.holds Tryz.pinned (.plain (OpenSpec.ofChange regsLiveSpec)) regsLiveCard

/-- THE TIED CARD OF 'lodelaw13.RegsClash'. -/
def regsClashCard : Claim7 := { stood := { row := regsClashRow, standIns := [], harness := (true, "e675a71c8dbb15b36683c12f96c7c0e8c5eba8f6e9c937083c21dd5116cc3b7c"), looks := true }, kinds := [], alts := [], laidByText := true, laidKinds := [.data, .data, .data, .sentinel, .sentinel], laidTests := true, laidLooks := .later }
def RegsClashCardSaid : Prop := Claim7.holds Tryz.pinned (.plain (OpenSpec.ofChange regsClashSpec)) regsClashCard

/-- THE TIED CARD OF 'lodelaw13.RegsColours'. -/
def regsColoursCard : Claim7 := { stood := { row := regsColoursRow, standIns := [], harness := (true, "e675a71c8dbb15b36683c12f96c7c0e8c5eba8f6e9c937083c21dd5116cc3b7c"), looks := true }, kinds := [], alts := [], laidByText := true, laidKinds := [.data, .data, .data, .sentinel, .sentinel], laidTests := true, laidLooks := .later }
def RegsColoursCardSaid : Prop := Claim7.holds Tryz.pinned (.plain (OpenSpec.ofChange regsColoursSpec)) regsColoursCard

/-- THE TIED CARD OF 'lodelaw13.RegsFewest'. -/
def regsFewestCard : Claim7 := { stood := { row := regsFewestRow, standIns := [], harness := (true, "e675a71c8dbb15b36683c12f96c7c0e8c5eba8f6e9c937083c21dd5116cc3b7c"), looks := true }, kinds := [], alts := [], laidByText := true, laidKinds := [.data, .data, .data, .sentinel, .sentinel], laidTests := true, laidLooks := .later }
def RegsFewestCardSaid : Prop := Claim7.holds Tryz.pinned (.plain (OpenSpec.ofChange regsFewestSpec)) regsFewestCard

/-- THE TIED CARD OF 'lodelaw13.RegsClashes'. -/
def regsClashesCard : Claim7 := { stood := { row := regsClashesRow, standIns := [], harness := (true, "e675a71c8dbb15b36683c12f96c7c0e8c5eba8f6e9c937083c21dd5116cc3b7c"), looks := true }, kinds := [], alts := [], laidByText := true, laidKinds := [.data, .data, .data, .sentinel, .sentinel], laidTests := true, laidLooks := .later }
def RegsClashesCardSaid : Prop := Claim7.holds Tryz.pinned (.plain (OpenSpec.ofChange regsClashesSpec)) regsClashesCard

/-- THE TIED CARD OF 'lodelaw13.RegsWrong'. -/
def regsWrongCard : Claim7 := { stood := { row := regsWrongRow, standIns := [], harness := (true, "e675a71c8dbb15b36683c12f96c7c0e8c5eba8f6e9c937083c21dd5116cc3b7c"), looks := true }, kinds := [], alts := [], laidByText := true, laidKinds := [.data, .data, .data, .sentinel, .sentinel], laidTests := true, laidLooks := .later }
def RegsWrongCardSaid : Prop := Claim7.holds Tryz.pinned (.plain (OpenSpec.ofChange regsWrongSpec)) regsWrongCard

/-- THE SECOND FORM's CARD OF 'lodelaw13.RegsLive'. -/
def regsLiveUptoCard : Claim7 := { stood := { row := regsLiveUptoRow, standIns := [], harness := (true, "e675a71c8dbb15b36683c12f96c7c0e8c5eba8f6e9c937083c21dd5116cc3b7c"), looks := true }, kinds := [], alts := [], laidByText := true, laidKinds := [.data, .data, .data, .sentinel, .sentinel], laidTests := true, laidLooks := .later }
def RegsLiveUptoCardSaid : Prop := Claim7.holds Tryz.pinned (.plain (OpenSpec.upto regsLiveSpec)) regsLiveUptoCard

/-- THE SECOND FORM's CARD OF 'lodelaw13.RegsClash'. -/
def regsClashUptoCard : Claim7 := { stood := { row := regsClashUptoRow, standIns := [], harness := (true, "e675a71c8dbb15b36683c12f96c7c0e8c5eba8f6e9c937083c21dd5116cc3b7c"), looks := true }, kinds := [], alts := [], laidByText := true, laidKinds := [.data, .data, .data, .sentinel, .sentinel], laidTests := true, laidLooks := .later }
def RegsClashUptoCardSaid : Prop := Claim7.holds Tryz.pinned (.plain (OpenSpec.upto regsClashSpec)) regsClashUptoCard

/-- THE SECOND FORM's CARD OF 'lodelaw13.RegsColours'. -/
def regsColoursUptoCard : Claim7 := { stood := { row := regsColoursUptoRow, standIns := [], harness := (true, "e675a71c8dbb15b36683c12f96c7c0e8c5eba8f6e9c937083c21dd5116cc3b7c"), looks := true }, kinds := [], alts := [], laidByText := true, laidKinds := [.data, .data, .data, .sentinel, .sentinel], laidTests := true, laidLooks := .later }
def RegsColoursUptoCardSaid : Prop := Claim7.holds Tryz.pinned (.plain (OpenSpec.upto regsColoursSpec)) regsColoursUptoCard

/-- THE SECOND FORM's CARD OF 'lodelaw13.RegsFewest'. -/
def regsFewestUptoCard : Claim7 := { stood := { row := regsFewestUptoRow, standIns := [], harness := (true, "e675a71c8dbb15b36683c12f96c7c0e8c5eba8f6e9c937083c21dd5116cc3b7c"), looks := true }, kinds := [], alts := [], laidByText := true, laidKinds := [.data, .data, .data, .sentinel, .sentinel], laidTests := true, laidLooks := .later }
def RegsFewestUptoCardSaid : Prop := Claim7.holds Tryz.pinned (.plain (OpenSpec.upto regsFewestSpec)) regsFewestUptoCard

/-- THE SECOND FORM's CARD OF 'lodelaw13.RegsClashes'. -/
def regsClashesUptoCard : Claim7 := { stood := { row := regsClashesUptoRow, standIns := [], harness := (true, "e675a71c8dbb15b36683c12f96c7c0e8c5eba8f6e9c937083c21dd5116cc3b7c"), looks := true }, kinds := [], alts := [], laidByText := true, laidKinds := [.data, .data, .data, .sentinel, .sentinel], laidTests := true, laidLooks := .later }
def RegsClashesUptoCardSaid : Prop := Claim7.holds Tryz.pinned (.plain (OpenSpec.upto regsClashesSpec)) regsClashesUptoCard

/-- THE SECOND FORM's CARD OF 'lodelaw13.RegsWrong'. -/
def regsWrongUptoCard : Claim7 := { stood := { row := regsWrongUptoRow, standIns := [], harness := (true, "e675a71c8dbb15b36683c12f96c7c0e8c5eba8f6e9c937083c21dd5116cc3b7c"), looks := true }, kinds := [], alts := [], laidByText := true, laidKinds := [.data, .data, .data, .sentinel, .sentinel], laidTests := true, laidLooks := .later }
def RegsWrongUptoCardSaid : Prop := Claim7.holds Tryz.pinned (.plain (OpenSpec.upto regsWrongSpec)) regsWrongUptoCard
end Rows
end Go.Proofs.YtjhkgigolpfcfaaGreatDoor
