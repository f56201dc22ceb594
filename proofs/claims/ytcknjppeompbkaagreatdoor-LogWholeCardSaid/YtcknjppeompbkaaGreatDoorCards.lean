/-
  DERIVED. GIVEN WITH THE SEED: THE CARDS: each row of YtcknjppeompbkaaGreatDoorRows.lean that lists a variable, with what it lists TIED to the program's text (the seventh form; the later family's looks); each row that meets fmt, with fmt's text TOLD by the authors' own Lean function (tested against real Go, not proved from fmt's source: count such statements apart). THE CARD IS WHAT COUNTS. Prove the row's statement (the work); the ties are given (YtcknjppeompbkaaGreatDoorTie.lean); close each card by the builder's one call (the guide's Derived/Test/ToyasCard.lean, 'card_holds'). Laid BY PROGRAM, IN A SANDBOX (cutbox-door.mjs). By AI agents, Wed Nov 11 2026. No macro, syntax, notation, axiom, sorry.
-/
import Derived.Test.YtcknjppeompbkaaGreatDoorRows
import GoSem.ClaimSeven
namespace Go.Proofs.YtcknjppeompbkaaGreatDoor
namespace Rows

/-- THE TIED CARD OF 'tallylaw4.SheetLines'. -/
def sheetLinesCard : Claim7 := { stood := { row := sheetLinesRow, standIns := [], harness := (true, "aaf4c214042945fc795167a008ac81d2485aa7677806ec14493cbcb54e25bf79"), looks := true }, kinds := [], alts := [], laidByText := true, laidKinds := [.data, .data, .data, .sentinel, .sentinel], laidTests := true, laidLooks := .later }
def SheetLinesCardSaid : Prop := Claim7.holds Tryz.pinned (.plain (OpenSpec.ofChange sheetLinesSpec)) sheetLinesCard

/-- THE TIED CARD OF 'tallylaw4.LogWhole'. -/
def logWholeCard : Claim7 := { stood := { row := logWholeRow, standIns := [], harness := (true, "aaf4c214042945fc795167a008ac81d2485aa7677806ec14493cbcb54e25bf79"), looks := true }, kinds := [], alts := [], laidByText := true, laidKinds := [.data, .data, .data, .handle, .sentinel, .sentinel], laidTests := true, laidLooks := .later }
def LogWholeCardSaid : Prop := Claim7.holds Tryz.pinned (.plain (OpenSpec.ofChange logWholeSpec)) logWholeCard

/-- THE SECOND FORM's CARD OF 'tallylaw4.SheetLines'. -/
def sheetLinesUptoCard : Claim7 := { stood := { row := sheetLinesUptoRow, standIns := [], harness := (true, "aaf4c214042945fc795167a008ac81d2485aa7677806ec14493cbcb54e25bf79"), looks := true }, kinds := [], alts := [], laidByText := true, laidKinds := [.data, .data, .data, .sentinel, .sentinel], laidTests := true, laidLooks := .later }
def SheetLinesUptoCardSaid : Prop := Claim7.holds Tryz.pinned (.plain (OpenSpec.upto sheetLinesSpec)) sheetLinesUptoCard

/-- THE SECOND FORM's CARD OF 'tallylaw4.LogWhole'. -/
def logWholeUptoCard : Claim7 := { stood := { row := logWholeUptoRow, standIns := [], harness := (true, "aaf4c214042945fc795167a008ac81d2485aa7677806ec14493cbcb54e25bf79"), looks := true }, kinds := [], alts := [], laidByText := true, laidKinds := [.data, .data, .data, .handle, .sentinel, .sentinel], laidTests := true, laidLooks := .later }
def LogWholeUptoCardSaid : Prop := Claim7.holds Tryz.pinned (.plain (OpenSpec.upto logWholeSpec)) logWholeUptoCard
end Rows
end Go.Proofs.YtcknjppeompbkaaGreatDoor
