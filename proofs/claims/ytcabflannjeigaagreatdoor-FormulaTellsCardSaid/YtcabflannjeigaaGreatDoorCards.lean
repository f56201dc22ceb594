/-
  DERIVED. GIVEN WITH THE SEED: THE CARDS: each row of YtcabflannjeigaaGreatDoorRows.lean that lists a variable, with what it lists TIED to the program's text (the seventh form; the later family's looks); each row that meets fmt, with fmt's text TOLD by the authors' own Lean function (tested against real Go, not proved from fmt's source: count such statements apart). THE CARD IS WHAT COUNTS. Prove the row's statement (the work); the ties are given (YtcabflannjeigaaGreatDoorTie.lean); close each card by the builder's one call (the guide's Derived/Test/ToyasCard.lean, 'card_holds'). Laid BY PROGRAM, IN A SANDBOX (cutbox-door.mjs). By AI agents, Wed Nov 11 2026. No macro, syntax, notation, axiom, sorry.
-/
import Derived.Test.YtcabflannjeigaaGreatDoorRows
import GoSem.ClaimSeven
namespace Go.Proofs.YtcabflannjeigaaGreatDoor
namespace Rows

/-- THE TIED CARD OF 'tallylaw1.FoldTells'. -/
def foldTellsCard : Claim7 := { stood := { row := foldTellsRow, standIns := [], harness := (true, "c1447c06202ac3e6b83c454710c8ec3242973b91f95f753579933c609c9b773b"), looks := true }, kinds := [], alts := [], laidByText := true, laidKinds := [.handle], laidTests := true, laidLooks := .later }
def FoldTellsCardSaid : Prop := Claim7.holds Tryz.pinned (.plain (OpenSpec.ofChange foldTellsSpec)) foldTellsCard

/-- THE TIED CARD OF 'tallylaw2.FormulaTells'. -/
def formulaTellsCard : Claim7 := { stood := { row := formulaTellsRow, standIns := [], harness := (true, "c1447c06202ac3e6b83c454710c8ec3242973b91f95f753579933c609c9b773b"), looks := true }, kinds := [], alts := [], laidByText := true, laidKinds := [.data, .data, .data, .handle, .sentinel, .sentinel], laidTests := true, laidLooks := .later }
def FormulaTellsCardSaid : Prop := Claim7.holds Tryz.pinned (.plain (OpenSpec.ofChange formulaTellsSpec)) formulaTellsCard

/-- THE TIED CARD OF 'tallylaw4.FormulaLong'. -/
def formulaLongCard : Claim7 := { stood := { row := formulaLongRow, standIns := [], harness := (true, "c1447c06202ac3e6b83c454710c8ec3242973b91f95f753579933c609c9b773b"), looks := true }, kinds := [], alts := [], laidByText := true, laidKinds := [.data, .data, .data, .handle, .sentinel, .sentinel], laidTests := true, laidLooks := .later }
def FormulaLongCardSaid : Prop := Claim7.holds Tryz.pinned (.plain (OpenSpec.ofChange formulaLongSpec)) formulaLongCard

/-- THE SECOND FORM's CARD OF 'tallylaw1.FoldTells'. -/
def foldTellsUptoCard : Claim7 := { stood := { row := foldTellsUptoRow, standIns := [], harness := (true, "c1447c06202ac3e6b83c454710c8ec3242973b91f95f753579933c609c9b773b"), looks := true }, kinds := [], alts := [], laidByText := true, laidKinds := [.handle], laidTests := true, laidLooks := .later }
def FoldTellsUptoCardSaid : Prop := Claim7.holds Tryz.pinned (.plain (OpenSpec.upto foldTellsSpec)) foldTellsUptoCard

/-- THE SECOND FORM's CARD OF 'tallylaw2.FormulaTells'. -/
def formulaTellsUptoCard : Claim7 := { stood := { row := formulaTellsUptoRow, standIns := [], harness := (true, "c1447c06202ac3e6b83c454710c8ec3242973b91f95f753579933c609c9b773b"), looks := true }, kinds := [], alts := [], laidByText := true, laidKinds := [.data, .data, .data, .handle, .sentinel, .sentinel], laidTests := true, laidLooks := .later }
def FormulaTellsUptoCardSaid : Prop := Claim7.holds Tryz.pinned (.plain (OpenSpec.upto formulaTellsSpec)) formulaTellsUptoCard

/-- THE SECOND FORM's CARD OF 'tallylaw4.FormulaLong'. -/
def formulaLongUptoCard : Claim7 := { stood := { row := formulaLongUptoRow, standIns := [], harness := (true, "c1447c06202ac3e6b83c454710c8ec3242973b91f95f753579933c609c9b773b"), looks := true }, kinds := [], alts := [], laidByText := true, laidKinds := [.data, .data, .data, .handle, .sentinel, .sentinel], laidTests := true, laidLooks := .later }
def FormulaLongUptoCardSaid : Prop := Claim7.holds Tryz.pinned (.plain (OpenSpec.upto formulaLongSpec)) formulaLongUptoCard
end Rows
end Go.Proofs.YtcabflannjeigaaGreatDoor
