/-
  DERIVED. GIVEN WITH THE SEED: THE CARDS: each row of YtcabflannjeigaaDoorRows.lean that lists a variable, with what it lists TIED to the program's text (the seventh form; the later family's looks); each row that meets fmt, with fmt's text TOLD by the authors' own Lean function (tested against real Go, not proved from fmt's source: count such statements apart). THE CARD IS WHAT COUNTS. Prove the row's statement (the work); the ties are given (YtcabflannjeigaaDoorTie.lean); close each card by the builder's one call (the guide's Derived/Test/ToyasCard.lean, 'card_holds'). Laid BY PROGRAM, IN A SANDBOX (cutbox-door.mjs). By AI agents, Wed Nov 11 2026. No macro, syntax, notation, axiom, sorry.
-/
import Derived.Test.YtcabflannjeigaaDoorRows
import GoSem.ClaimSeven
namespace Go.Proofs.YtcabflannjeigaaDoor
namespace Rows

/-- THE TIED CARD OF 'tallylaw2.ReckonTells'. -/
def reckonTellsCard : Claim7 := { stood := { row := reckonTellsRow, standIns := [], harness := (true, "91071eefd03b15e351d9cd431dcb5829dd3dc956a76fb7f51e95dce5cd07e011"), looks := true }, kinds := [], alts := [], laidByText := true, laidKinds := [.handle], laidTests := true, laidLooks := .later }
def ReckonTellsCardSaid : Prop := Claim7.holds Tryd.pinned (.plain (OpenSpec.ofChange reckonTellsSpec)) reckonTellsCard

/-- THE TIED CARD OF 'tallylaw2.ReckonSwaps'. -/
def reckonSwapsCard : Claim7 := { stood := { row := reckonSwapsRow, standIns := [], harness := (true, "91071eefd03b15e351d9cd431dcb5829dd3dc956a76fb7f51e95dce5cd07e011"), looks := true }, kinds := [], alts := [], laidByText := true, laidKinds := [.data, .data, .data], laidTests := true, laidLooks := .later }
def ReckonSwapsCardSaid : Prop := Claim7.holds Tryd.pinned (.plain (OpenSpec.ofChange reckonSwapsSpec)) reckonSwapsCard

/-- THE TIED CARD OF 'tallylaw4.ReckonNumbers'. -/
def reckonNumbersCard : Claim7 := { stood := { row := reckonNumbersRow, standIns := [], harness := (true, "91071eefd03b15e351d9cd431dcb5829dd3dc956a76fb7f51e95dce5cd07e011"), looks := true }, kinds := [], alts := [], laidByText := true, laidKinds := [.data, .data, .data, .sentinel, .sentinel], laidTests := true, laidLooks := .later }
def ReckonNumbersCardSaid : Prop := Claim7.holds Tryd.pinned (.plain (OpenSpec.ofChange reckonNumbersSpec)) reckonNumbersCard

/-- THE TIED CARD OF 'tallylaw2.FormulaBack'. -/
def formulaBackCard : Claim7 := { stood := { row := formulaBackRow, standIns := [], harness := (true, "91071eefd03b15e351d9cd431dcb5829dd3dc956a76fb7f51e95dce5cd07e011"), looks := true }, kinds := [], alts := [], laidByText := true, laidKinds := [.data, .data, .data, .sentinel, .sentinel], laidTests := true, laidLooks := .later }
def FormulaBackCardSaid : Prop := Claim7.holds Tryd.pinned (.plain (OpenSpec.ofChange formulaBackSpec)) formulaBackCard

/-- THE SECOND FORM's CARD OF 'tallylaw2.ReckonTells'. -/
def reckonTellsUptoCard : Claim7 := { stood := { row := reckonTellsUptoRow, standIns := [], harness := (true, "91071eefd03b15e351d9cd431dcb5829dd3dc956a76fb7f51e95dce5cd07e011"), looks := true }, kinds := [], alts := [], laidByText := true, laidKinds := [.handle], laidTests := true, laidLooks := .later }
def ReckonTellsUptoCardSaid : Prop := Claim7.holds Tryd.pinned (.plain (OpenSpec.upto reckonTellsSpec)) reckonTellsUptoCard

/-- THE SECOND FORM's CARD OF 'tallylaw2.ReckonSwaps'. -/
def reckonSwapsUptoCard : Claim7 := { stood := { row := reckonSwapsUptoRow, standIns := [], harness := (true, "91071eefd03b15e351d9cd431dcb5829dd3dc956a76fb7f51e95dce5cd07e011"), looks := true }, kinds := [], alts := [], laidByText := true, laidKinds := [.data, .data, .data], laidTests := true, laidLooks := .later }
def ReckonSwapsUptoCardSaid : Prop := Claim7.holds Tryd.pinned (.plain (OpenSpec.upto reckonSwapsSpec)) reckonSwapsUptoCard

/-- THE SECOND FORM's CARD OF 'tallylaw4.ReckonNumbers'. -/
def reckonNumbersUptoCard : Claim7 := { stood := { row := reckonNumbersUptoRow, standIns := [], harness := (true, "91071eefd03b15e351d9cd431dcb5829dd3dc956a76fb7f51e95dce5cd07e011"), looks := true }, kinds := [], alts := [], laidByText := true, laidKinds := [.data, .data, .data, .sentinel, .sentinel], laidTests := true, laidLooks := .later }
def ReckonNumbersUptoCardSaid : Prop := Claim7.holds Tryd.pinned (.plain (OpenSpec.upto reckonNumbersSpec)) reckonNumbersUptoCard

/-- THE SECOND FORM's CARD OF 'tallylaw2.FormulaBack'. -/
def formulaBackUptoCard : Claim7 := { stood := { row := formulaBackUptoRow, standIns := [], harness := (true, "91071eefd03b15e351d9cd431dcb5829dd3dc956a76fb7f51e95dce5cd07e011"), looks := true }, kinds := [], alts := [], laidByText := true, laidKinds := [.data, .data, .data, .sentinel, .sentinel], laidTests := true, laidLooks := .later }
def FormulaBackUptoCardSaid : Prop := Claim7.holds Tryd.pinned (.plain (OpenSpec.upto formulaBackSpec)) formulaBackUptoCard
end Rows
end Go.Proofs.YtcabflannjeigaaDoor
