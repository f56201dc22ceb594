/-
  DERIVED. GIVEN WITH THE SEED: THE CARDS: each row of YtkaifdgeigdbhaaGreatDoorRows.lean that lists a variable, with what it lists TIED to the program's text (the seventh form; the later family's looks); each row that meets fmt, with fmt's text TOLD by the authors' own Lean function (tested against real Go, not proved from fmt's source: count such statements apart). THE CARD IS WHAT COUNTS. Prove the row's statement (the work); the ties are given (YtkaifdgeigdbhaaGreatDoorTie.lean); close each card by the builder's one call (the guide's Derived/Test/ToyasCard.lean, 'card_holds'). Laid BY PROGRAM, IN A SANDBOX (cutbox-door.mjs). By AI agents, Wed Nov 11 2026. No macro, syntax, notation, axiom, sorry.
-/
import Derived.Test.YtkaifdgeigdbhaaGreatDoorRows
import GoSem.ClaimSeven
namespace Go.Proofs.YtkaifdgeigdbhaaGreatDoor
namespace Rows

/-- THE TIED CARD OF 'tallylaw3.GridTurns'. -/
def gridTurnsCard : Claim7 := { stood := { row := gridTurnsRow, standIns := [], harness := (true, "ecf60605a098cc165b5a75b51367e7e007aa19af639552d27524ee537bceeba7"), looks := true }, kinds := [], alts := [], laidByText := true, laidKinds := [.data, .data, .data, .sentinel, .sentinel], laidTests := true, laidLooks := .later }
def GridTurnsCardSaid : Prop := Claim7.holds Tryz.pinned (.plain (OpenSpec.ofChange gridTurnsSpec)) gridTurnsCard

/-- THE TIED CARD OF 'tallylaw3.GridTells'. -/
def gridTellsCard : Claim7 := { stood := { row := gridTellsRow, standIns := [], harness := (true, "ecf60605a098cc165b5a75b51367e7e007aa19af639552d27524ee537bceeba7"), looks := true }, kinds := [], alts := [], laidByText := true, laidKinds := [.data, .data, .data, .handle, .sentinel, .sentinel], laidTests := true, laidLooks := .later }
def GridTellsCardSaid : Prop := Claim7.holds Tryz.pinned (.plain (OpenSpec.ofChange gridTellsSpec)) gridTellsCard

/-- THE TIED CARD OF 'tallylaw4.GridWide'. -/
def gridWideCard : Claim7 := { stood := { row := gridWideRow, standIns := [], harness := (true, "ecf60605a098cc165b5a75b51367e7e007aa19af639552d27524ee537bceeba7"), looks := true }, kinds := [], alts := [], laidByText := true, laidKinds := [.data, .data, .data, .sentinel, .sentinel], laidTests := true, laidLooks := .later }
def GridWideCardSaid : Prop := Claim7.holds Tryz.pinned (.plain (OpenSpec.ofChange gridWideSpec)) gridWideCard

/-- THE TIED CARD OF 'tallylaw4.SpreadBack'. -/
def spreadBackCard : Claim7 := { stood := { row := spreadBackRow, standIns := [], harness := (true, "ecf60605a098cc165b5a75b51367e7e007aa19af639552d27524ee537bceeba7"), looks := true }, kinds := [], alts := [], laidByText := true, laidKinds := [.data, .data, .data, .sentinel, .sentinel], laidTests := true, laidLooks := .later }
def SpreadBackCardSaid : Prop := Claim7.holds Tryz.pinned (.plain (OpenSpec.ofChange spreadBackSpec)) spreadBackCard

/-- THE TIED CARD OF 'tallylaw3.SpreadTells'. -/
def spreadTellsCard : Claim7 := { stood := { row := spreadTellsRow, standIns := [], harness := (true, "ecf60605a098cc165b5a75b51367e7e007aa19af639552d27524ee537bceeba7"), looks := true }, kinds := [], alts := [], laidByText := true, laidKinds := [.data, .data, .data, .handle, .sentinel, .sentinel], laidTests := true, laidLooks := .later }
def SpreadTellsCardSaid : Prop := Claim7.holds Tryz.pinned (.plain (OpenSpec.ofChange spreadTellsSpec)) spreadTellsCard

/-- THE TIED CARD OF 'tallylaw3.SpreadSums'. -/
def spreadSumsCard : Claim7 := { stood := { row := spreadSumsRow, standIns := [], harness := (true, "ecf60605a098cc165b5a75b51367e7e007aa19af639552d27524ee537bceeba7"), looks := true }, kinds := [], alts := [], laidByText := true, laidKinds := [.data, .data, .data, .sentinel, .sentinel], laidTests := true, laidLooks := .later }
def SpreadSumsCardSaid : Prop := Claim7.holds Tryz.pinned (.plain (OpenSpec.ofChange spreadSumsSpec)) spreadSumsCard

/-- THE SECOND FORM's CARD OF 'tallylaw3.GridTurns'. -/
def gridTurnsUptoCard : Claim7 := { stood := { row := gridTurnsUptoRow, standIns := [], harness := (true, "ecf60605a098cc165b5a75b51367e7e007aa19af639552d27524ee537bceeba7"), looks := true }, kinds := [], alts := [], laidByText := true, laidKinds := [.data, .data, .data, .sentinel, .sentinel], laidTests := true, laidLooks := .later }
def GridTurnsUptoCardSaid : Prop := Claim7.holds Tryz.pinned (.plain (OpenSpec.upto gridTurnsSpec)) gridTurnsUptoCard

/-- THE SECOND FORM's CARD OF 'tallylaw3.GridTells'. -/
def gridTellsUptoCard : Claim7 := { stood := { row := gridTellsUptoRow, standIns := [], harness := (true, "ecf60605a098cc165b5a75b51367e7e007aa19af639552d27524ee537bceeba7"), looks := true }, kinds := [], alts := [], laidByText := true, laidKinds := [.data, .data, .data, .handle, .sentinel, .sentinel], laidTests := true, laidLooks := .later }
def GridTellsUptoCardSaid : Prop := Claim7.holds Tryz.pinned (.plain (OpenSpec.upto gridTellsSpec)) gridTellsUptoCard

/-- THE SECOND FORM's CARD OF 'tallylaw4.GridWide'. -/
def gridWideUptoCard : Claim7 := { stood := { row := gridWideUptoRow, standIns := [], harness := (true, "ecf60605a098cc165b5a75b51367e7e007aa19af639552d27524ee537bceeba7"), looks := true }, kinds := [], alts := [], laidByText := true, laidKinds := [.data, .data, .data, .sentinel, .sentinel], laidTests := true, laidLooks := .later }
def GridWideUptoCardSaid : Prop := Claim7.holds Tryz.pinned (.plain (OpenSpec.upto gridWideSpec)) gridWideUptoCard

/-- THE SECOND FORM's CARD OF 'tallylaw4.SpreadBack'. -/
def spreadBackUptoCard : Claim7 := { stood := { row := spreadBackUptoRow, standIns := [], harness := (true, "ecf60605a098cc165b5a75b51367e7e007aa19af639552d27524ee537bceeba7"), looks := true }, kinds := [], alts := [], laidByText := true, laidKinds := [.data, .data, .data, .sentinel, .sentinel], laidTests := true, laidLooks := .later }
def SpreadBackUptoCardSaid : Prop := Claim7.holds Tryz.pinned (.plain (OpenSpec.upto spreadBackSpec)) spreadBackUptoCard

/-- THE SECOND FORM's CARD OF 'tallylaw3.SpreadTells'. -/
def spreadTellsUptoCard : Claim7 := { stood := { row := spreadTellsUptoRow, standIns := [], harness := (true, "ecf60605a098cc165b5a75b51367e7e007aa19af639552d27524ee537bceeba7"), looks := true }, kinds := [], alts := [], laidByText := true, laidKinds := [.data, .data, .data, .handle, .sentinel, .sentinel], laidTests := true, laidLooks := .later }
def SpreadTellsUptoCardSaid : Prop := Claim7.holds Tryz.pinned (.plain (OpenSpec.upto spreadTellsSpec)) spreadTellsUptoCard

/-- THE SECOND FORM's CARD OF 'tallylaw3.SpreadSums'. -/
def spreadSumsUptoCard : Claim7 := { stood := { row := spreadSumsUptoRow, standIns := [], harness := (true, "ecf60605a098cc165b5a75b51367e7e007aa19af639552d27524ee537bceeba7"), looks := true }, kinds := [], alts := [], laidByText := true, laidKinds := [.data, .data, .data, .sentinel, .sentinel], laidTests := true, laidLooks := .later }
def SpreadSumsUptoCardSaid : Prop := Claim7.holds Tryz.pinned (.plain (OpenSpec.upto spreadSumsSpec)) spreadSumsUptoCard
end Rows
end Go.Proofs.YtkaifdgeigdbhaaGreatDoor
