/-
  DERIVED. GIVEN WITH THE SEED: THE CARDS: each row of YthjpciiacibnhaaDoorRows.lean that lists a variable, with what it lists TIED to the program's text (the seventh form; the later family's looks); each row that meets fmt, with fmt's text TOLD by the authors' own Lean function (tested against real Go, not proved from fmt's source: count such statements apart). THE CARD IS WHAT COUNTS. Prove the row's statement (the work); the ties are given (YthjpciiacibnhaaDoorTie.lean); close each card by the builder's one call (the guide's Derived/Test/ToyasCard.lean, 'card_holds'). Laid BY PROGRAM, IN A SANDBOX (cutbox-door.mjs). By AI agents, Wed Nov 11 2026. No macro, syntax, notation, axiom, sorry.
-/
import Derived.Test.YthjpciiacibnhaaDoorRows
import GoSem.ClaimSeven
namespace Go.Proofs.YthjpciiacibnhaaDoor
namespace Rows

/-- THE TIED CARD OF 'tallylaw1.RollTells'. -/
def rollTellsCard : Claim7 := { stood := { row := rollTellsRow, standIns := [], harness := (true, "07439a52da2259307726a4aeb13e340d05615d2462143036e98b99d416635ca5"), looks := true }, kinds := [], alts := [], laidByText := true, laidKinds := [.handle], laidTests := true, laidLooks := .later }
def RollTellsCardSaid : Prop := Claim7.holds Tryd.pinned (.plain (OpenSpec.ofChange rollTellsSpec)) rollTellsCard

/-- THE TIED CARD OF 'tallylaw1.PlaceBack'. -/
def placeBackCard : Claim7 := { stood := { row := placeBackRow, standIns := [], harness := (true, "07439a52da2259307726a4aeb13e340d05615d2462143036e98b99d416635ca5"), looks := true }, kinds := [], alts := [], laidByText := true, laidKinds := [.data, .pinned], laidTests := true, laidLooks := .later }
def PlaceBackCardSaid : Prop := Claim7.holds Tryd.pinned (.plain (OpenSpec.ofChange placeBackSpec)) placeBackCard

/-- THE TIED CARD OF 'tallylaw4.InputMany'. -/
def inputManyCard : Claim7 := { stood := { row := inputManyRow, standIns := [], harness := (true, "07439a52da2259307726a4aeb13e340d05615d2462143036e98b99d416635ca5"), looks := true }, kinds := [], alts := [], laidByText := true, laidKinds := [.handle], laidTests := true, laidLooks := .later }
def InputManyCardSaid : Prop := Claim7.holds Tryd.pinned (.plain (OpenSpec.ofChange inputManySpec)) inputManyCard

/-- THE TIED CARD OF 'tallylaw1.InputTells'. -/
def inputTellsCard : Claim7 := { stood := { row := inputTellsRow, standIns := [], harness := (true, "07439a52da2259307726a4aeb13e340d05615d2462143036e98b99d416635ca5"), looks := true }, kinds := [], alts := [], laidByText := true, laidKinds := [.handle], laidTests := true, laidLooks := .later }
def InputTellsCardSaid : Prop := Claim7.holds Tryd.pinned (.plain (OpenSpec.ofChange inputTellsSpec)) inputTellsCard

/-- THE TIED CARD OF 'tallylaw1.CellAdds'. -/
def cellAddsCard : Claim7 := { stood := { row := cellAddsRow, standIns := [], harness := (true, "07439a52da2259307726a4aeb13e340d05615d2462143036e98b99d416635ca5"), looks := true }, kinds := [], alts := [], laidByText := true, laidKinds := [.data, .data, .data, .sentinel, .sentinel], laidTests := true, laidLooks := .later }
def CellAddsCardSaid : Prop := Claim7.holds Tryd.pinned (.plain (OpenSpec.ofChange cellAddsSpec)) cellAddsCard

/-- THE TIED CARD OF 'tallylaw1.PlaceTells'. -/
def placeTellsCard : Claim7 := { stood := { row := placeTellsRow, standIns := [], harness := (true, "07439a52da2259307726a4aeb13e340d05615d2462143036e98b99d416635ca5"), looks := true }, kinds := [], alts := [], laidByText := true, laidKinds := [.data, .handle, .pinned], laidTests := true, laidLooks := .later }
def PlaceTellsCardSaid : Prop := Claim7.holds Tryd.pinned (.plain (OpenSpec.ofChange placeTellsSpec)) placeTellsCard

/-- THE TIED CARD OF 'tallylaw1.CellTells'. -/
def cellTellsCard : Claim7 := { stood := { row := cellTellsRow, standIns := [], harness := (true, "07439a52da2259307726a4aeb13e340d05615d2462143036e98b99d416635ca5"), looks := true }, kinds := [], alts := [], laidByText := true, laidKinds := [.data, .data, .data, .handle, .sentinel, .sentinel], laidTests := true, laidLooks := .later }
def CellTellsCardSaid : Prop := Claim7.holds Tryd.pinned (.plain (OpenSpec.ofChange cellTellsSpec)) cellTellsCard

/-- THE SECOND FORM's CARD OF 'tallylaw1.RollTells'. -/
def rollTellsUptoCard : Claim7 := { stood := { row := rollTellsUptoRow, standIns := [], harness := (true, "07439a52da2259307726a4aeb13e340d05615d2462143036e98b99d416635ca5"), looks := true }, kinds := [], alts := [], laidByText := true, laidKinds := [.handle], laidTests := true, laidLooks := .later }
def RollTellsUptoCardSaid : Prop := Claim7.holds Tryd.pinned (.plain (OpenSpec.upto rollTellsSpec)) rollTellsUptoCard

/-- THE SECOND FORM's CARD OF 'tallylaw1.PlaceBack'. -/
def placeBackUptoCard : Claim7 := { stood := { row := placeBackUptoRow, standIns := [], harness := (true, "07439a52da2259307726a4aeb13e340d05615d2462143036e98b99d416635ca5"), looks := true }, kinds := [], alts := [], laidByText := true, laidKinds := [.data, .pinned], laidTests := true, laidLooks := .later }
def PlaceBackUptoCardSaid : Prop := Claim7.holds Tryd.pinned (.plain (OpenSpec.upto placeBackSpec)) placeBackUptoCard

/-- THE SECOND FORM's CARD OF 'tallylaw4.InputMany'. -/
def inputManyUptoCard : Claim7 := { stood := { row := inputManyUptoRow, standIns := [], harness := (true, "07439a52da2259307726a4aeb13e340d05615d2462143036e98b99d416635ca5"), looks := true }, kinds := [], alts := [], laidByText := true, laidKinds := [.handle], laidTests := true, laidLooks := .later }
def InputManyUptoCardSaid : Prop := Claim7.holds Tryd.pinned (.plain (OpenSpec.upto inputManySpec)) inputManyUptoCard

/-- THE SECOND FORM's CARD OF 'tallylaw1.InputTells'. -/
def inputTellsUptoCard : Claim7 := { stood := { row := inputTellsUptoRow, standIns := [], harness := (true, "07439a52da2259307726a4aeb13e340d05615d2462143036e98b99d416635ca5"), looks := true }, kinds := [], alts := [], laidByText := true, laidKinds := [.handle], laidTests := true, laidLooks := .later }
def InputTellsUptoCardSaid : Prop := Claim7.holds Tryd.pinned (.plain (OpenSpec.upto inputTellsSpec)) inputTellsUptoCard

/-- THE SECOND FORM's CARD OF 'tallylaw1.CellAdds'. -/
def cellAddsUptoCard : Claim7 := { stood := { row := cellAddsUptoRow, standIns := [], harness := (true, "07439a52da2259307726a4aeb13e340d05615d2462143036e98b99d416635ca5"), looks := true }, kinds := [], alts := [], laidByText := true, laidKinds := [.data, .data, .data, .sentinel, .sentinel], laidTests := true, laidLooks := .later }
def CellAddsUptoCardSaid : Prop := Claim7.holds Tryd.pinned (.plain (OpenSpec.upto cellAddsSpec)) cellAddsUptoCard

/-- THE SECOND FORM's CARD OF 'tallylaw1.PlaceTells'. -/
def placeTellsUptoCard : Claim7 := { stood := { row := placeTellsUptoRow, standIns := [], harness := (true, "07439a52da2259307726a4aeb13e340d05615d2462143036e98b99d416635ca5"), looks := true }, kinds := [], alts := [], laidByText := true, laidKinds := [.data, .handle, .pinned], laidTests := true, laidLooks := .later }
def PlaceTellsUptoCardSaid : Prop := Claim7.holds Tryd.pinned (.plain (OpenSpec.upto placeTellsSpec)) placeTellsUptoCard

/-- THE SECOND FORM's CARD OF 'tallylaw1.CellTells'. -/
def cellTellsUptoCard : Claim7 := { stood := { row := cellTellsUptoRow, standIns := [], harness := (true, "07439a52da2259307726a4aeb13e340d05615d2462143036e98b99d416635ca5"), looks := true }, kinds := [], alts := [], laidByText := true, laidKinds := [.data, .data, .data, .handle, .sentinel, .sentinel], laidTests := true, laidLooks := .later }
def CellTellsUptoCardSaid : Prop := Claim7.holds Tryd.pinned (.plain (OpenSpec.upto cellTellsSpec)) cellTellsUptoCard
end Rows
end Go.Proofs.YthjpciiacibnhaaDoor
