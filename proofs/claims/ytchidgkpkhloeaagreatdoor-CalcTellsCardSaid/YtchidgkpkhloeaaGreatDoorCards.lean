/-
  DERIVED. GIVEN WITH THE SEED: THE CARDS: each row of YtchidgkpkhloeaaGreatDoorRows.lean that lists a variable, with what it lists TIED to the program's text (the seventh form; the later family's looks); each row that meets fmt, with fmt's text TOLD by the authors' own Lean function (tested against real Go, not proved from fmt's source: count such statements apart). THE CARD IS WHAT COUNTS. Prove the row's statement (the work); the ties are given (YtchidgkpkhloeaaGreatDoorTie.lean); close each card by the builder's one call (the guide's Derived/Test/ToyasCard.lean, 'card_holds'). Laid BY PROGRAM, IN A SANDBOX (cutbox-door.mjs). By AI agents, Wed Nov 11 2026. No macro, syntax, notation, axiom, sorry.
-/
import Derived.Test.YtchidgkpkhloeaaGreatDoorRows
import GoSem.ClaimSeven
namespace Go.Proofs.YtchidgkpkhloeaaGreatDoor
namespace Rows

/-- THE TIED CARD OF 'tallylaw4.RulesRing'. -/
def rulesRingCard : Claim7 := { stood := { row := rulesRingRow, standIns := [], harness := (true, "7d712a52d43d333cd0f00354ba755fa048528a6e7ffe336c18c1be3a2b783cca"), looks := true }, kinds := [], alts := [], laidByText := true, laidKinds := [.data, .data, .data, .handle, .sentinel, .sentinel], laidTests := true, laidLooks := .later }
def RulesRingCardSaid : Prop := Claim7.holds Tryz.pinned (.plain (OpenSpec.ofChange rulesRingSpec)) rulesRingCard

/-- THE TIED CARD OF 'tallylaw4.NeedCorner'. -/
def needCornerCard : Claim7 := { stood := { row := needCornerRow, standIns := [], harness := (true, "7d712a52d43d333cd0f00354ba755fa048528a6e7ffe336c18c1be3a2b783cca"), looks := true }, kinds := [], alts := [], laidByText := true, laidKinds := [.data, .data, .data, .sentinel, .sentinel], laidTests := true, laidLooks := .later }
def NeedCornerCardSaid : Prop := Claim7.holds Tryz.pinned (.plain (OpenSpec.ofChange needCornerSpec)) needCornerCard

/-- THE TIED CARD OF 'tallylaw2.RulesTell'. -/
def rulesTellCard : Claim7 := { stood := { row := rulesTellRow, standIns := [], harness := (true, "7d712a52d43d333cd0f00354ba755fa048528a6e7ffe336c18c1be3a2b783cca"), looks := true }, kinds := [], alts := [], laidByText := true, laidKinds := [.data, .data, .data, .handle, .sentinel, .sentinel], laidTests := true, laidLooks := .later }
def RulesTellCardSaid : Prop := Claim7.holds Tryz.pinned (.plain (OpenSpec.ofChange rulesTellSpec)) rulesTellCard

/-- THE TIED CARD OF 'tallylaw2.NeedTells'. -/
def needTellsCard : Claim7 := { stood := { row := needTellsRow, standIns := [], harness := (true, "7d712a52d43d333cd0f00354ba755fa048528a6e7ffe336c18c1be3a2b783cca"), looks := true }, kinds := [], alts := [], laidByText := true, laidKinds := [.data, .data, .data, .handle, .sentinel, .sentinel], laidTests := true, laidLooks := .later }
def NeedTellsCardSaid : Prop := Claim7.holds Tryz.pinned (.plain (OpenSpec.ofChange needTellsSpec)) needTellsCard

/-- THE TIED CARD OF 'tallylaw4.SolveFirst'. -/
def solveFirstCard : Claim7 := { stood := { row := solveFirstRow, standIns := [], harness := (true, "7d712a52d43d333cd0f00354ba755fa048528a6e7ffe336c18c1be3a2b783cca"), looks := true }, kinds := [], alts := [], laidByText := true, laidKinds := [.data, .data, .data, .sentinel, .sentinel], laidTests := true, laidLooks := .later }
def SolveFirstCardSaid : Prop := Claim7.holds Tryz.pinned (.plain (OpenSpec.ofChange solveFirstSpec)) solveFirstCard

/-- THE TIED CARD OF 'tallylaw4.CalcEmpty'. -/
def calcEmptyCard : Claim7 := { stood := { row := calcEmptyRow, standIns := [], harness := (true, "7d712a52d43d333cd0f00354ba755fa048528a6e7ffe336c18c1be3a2b783cca"), looks := true }, kinds := [], alts := [], laidByText := true, laidKinds := [.data, .data, .data, .sentinel, .sentinel], laidTests := true, laidLooks := .later }
def CalcEmptyCardSaid : Prop := Claim7.holds Tryz.pinned (.plain (OpenSpec.ofChange calcEmptySpec)) calcEmptyCard

/-- THE TIED CARD OF 'tallylaw2.SolveRolls'. -/
def solveRollsCard : Claim7 := { stood := { row := solveRollsRow, standIns := [], harness := (true, "7d712a52d43d333cd0f00354ba755fa048528a6e7ffe336c18c1be3a2b783cca"), looks := true }, kinds := [], alts := [], laidByText := true, laidKinds := [.data, .data, .data, .sentinel, .sentinel], laidTests := true, laidLooks := .later }
def SolveRollsCardSaid : Prop := Claim7.holds Tryz.pinned (.plain (OpenSpec.ofChange solveRollsSpec)) solveRollsCard

/-- THE TIED CARD OF 'tallylaw2.CalcEach'. -/
def calcEachCard : Claim7 := { stood := { row := calcEachRow, standIns := [], harness := (true, "7d712a52d43d333cd0f00354ba755fa048528a6e7ffe336c18c1be3a2b783cca"), looks := true }, kinds := [], alts := [], laidByText := true, laidKinds := [.data, .data, .data, .sentinel, .sentinel], laidTests := true, laidLooks := .later }
def CalcEachCardSaid : Prop := Claim7.holds Tryz.pinned (.plain (OpenSpec.ofChange calcEachSpec)) calcEachCard

/-- THE TIED CARD OF 'tallylaw2.SolveTells'. -/
def solveTellsCard : Claim7 := { stood := { row := solveTellsRow, standIns := [], harness := (true, "7d712a52d43d333cd0f00354ba755fa048528a6e7ffe336c18c1be3a2b783cca"), looks := true }, kinds := [], alts := [], laidByText := true, laidKinds := [.data, .data, .data, .handle, .sentinel, .sentinel], laidTests := true, laidLooks := .later }
def SolveTellsCardSaid : Prop := Claim7.holds Tryz.pinned (.plain (OpenSpec.ofChange solveTellsSpec)) solveTellsCard

/-- THE TIED CARD OF 'tallylaw2.CalcTells'. -/
def calcTellsCard : Claim7 := { stood := { row := calcTellsRow, standIns := [], harness := (true, "7d712a52d43d333cd0f00354ba755fa048528a6e7ffe336c18c1be3a2b783cca"), looks := true }, kinds := [], alts := [], laidByText := true, laidKinds := [.data, .data, .data, .handle, .sentinel, .sentinel], laidTests := true, laidLooks := .later }
def CalcTellsCardSaid : Prop := Claim7.holds Tryz.pinned (.plain (OpenSpec.ofChange calcTellsSpec)) calcTellsCard

/-- THE TIED CARD OF 'tallylaw2.NeedHolds'. -/
def needHoldsCard : Claim7 := { stood := { row := needHoldsRow, standIns := [], harness := (true, "7d712a52d43d333cd0f00354ba755fa048528a6e7ffe336c18c1be3a2b783cca"), looks := true }, kinds := [], alts := [], laidByText := true, laidKinds := [.data, .data, .data, .sentinel, .sentinel], laidTests := true, laidLooks := .later }
def NeedHoldsCardSaid : Prop := Claim7.holds Tryz.pinned (.plain (OpenSpec.ofChange needHoldsSpec)) needHoldsCard

/-- THE SECOND FORM's CARD OF 'tallylaw4.RulesRing'. -/
def rulesRingUptoCard : Claim7 := { stood := { row := rulesRingUptoRow, standIns := [], harness := (true, "7d712a52d43d333cd0f00354ba755fa048528a6e7ffe336c18c1be3a2b783cca"), looks := true }, kinds := [], alts := [], laidByText := true, laidKinds := [.data, .data, .data, .handle, .sentinel, .sentinel], laidTests := true, laidLooks := .later }
def RulesRingUptoCardSaid : Prop := Claim7.holds Tryz.pinned (.plain (OpenSpec.upto rulesRingSpec)) rulesRingUptoCard

/-- THE SECOND FORM's CARD OF 'tallylaw4.NeedCorner'. -/
def needCornerUptoCard : Claim7 := { stood := { row := needCornerUptoRow, standIns := [], harness := (true, "7d712a52d43d333cd0f00354ba755fa048528a6e7ffe336c18c1be3a2b783cca"), looks := true }, kinds := [], alts := [], laidByText := true, laidKinds := [.data, .data, .data, .sentinel, .sentinel], laidTests := true, laidLooks := .later }
def NeedCornerUptoCardSaid : Prop := Claim7.holds Tryz.pinned (.plain (OpenSpec.upto needCornerSpec)) needCornerUptoCard

/-- THE SECOND FORM's CARD OF 'tallylaw2.RulesTell'. -/
def rulesTellUptoCard : Claim7 := { stood := { row := rulesTellUptoRow, standIns := [], harness := (true, "7d712a52d43d333cd0f00354ba755fa048528a6e7ffe336c18c1be3a2b783cca"), looks := true }, kinds := [], alts := [], laidByText := true, laidKinds := [.data, .data, .data, .handle, .sentinel, .sentinel], laidTests := true, laidLooks := .later }
def RulesTellUptoCardSaid : Prop := Claim7.holds Tryz.pinned (.plain (OpenSpec.upto rulesTellSpec)) rulesTellUptoCard

/-- THE SECOND FORM's CARD OF 'tallylaw2.NeedTells'. -/
def needTellsUptoCard : Claim7 := { stood := { row := needTellsUptoRow, standIns := [], harness := (true, "7d712a52d43d333cd0f00354ba755fa048528a6e7ffe336c18c1be3a2b783cca"), looks := true }, kinds := [], alts := [], laidByText := true, laidKinds := [.data, .data, .data, .handle, .sentinel, .sentinel], laidTests := true, laidLooks := .later }
def NeedTellsUptoCardSaid : Prop := Claim7.holds Tryz.pinned (.plain (OpenSpec.upto needTellsSpec)) needTellsUptoCard

/-- THE SECOND FORM's CARD OF 'tallylaw4.SolveFirst'. -/
def solveFirstUptoCard : Claim7 := { stood := { row := solveFirstUptoRow, standIns := [], harness := (true, "7d712a52d43d333cd0f00354ba755fa048528a6e7ffe336c18c1be3a2b783cca"), looks := true }, kinds := [], alts := [], laidByText := true, laidKinds := [.data, .data, .data, .sentinel, .sentinel], laidTests := true, laidLooks := .later }
def SolveFirstUptoCardSaid : Prop := Claim7.holds Tryz.pinned (.plain (OpenSpec.upto solveFirstSpec)) solveFirstUptoCard

/-- THE SECOND FORM's CARD OF 'tallylaw4.CalcEmpty'. -/
def calcEmptyUptoCard : Claim7 := { stood := { row := calcEmptyUptoRow, standIns := [], harness := (true, "7d712a52d43d333cd0f00354ba755fa048528a6e7ffe336c18c1be3a2b783cca"), looks := true }, kinds := [], alts := [], laidByText := true, laidKinds := [.data, .data, .data, .sentinel, .sentinel], laidTests := true, laidLooks := .later }
def CalcEmptyUptoCardSaid : Prop := Claim7.holds Tryz.pinned (.plain (OpenSpec.upto calcEmptySpec)) calcEmptyUptoCard

/-- THE SECOND FORM's CARD OF 'tallylaw2.SolveRolls'. -/
def solveRollsUptoCard : Claim7 := { stood := { row := solveRollsUptoRow, standIns := [], harness := (true, "7d712a52d43d333cd0f00354ba755fa048528a6e7ffe336c18c1be3a2b783cca"), looks := true }, kinds := [], alts := [], laidByText := true, laidKinds := [.data, .data, .data, .sentinel, .sentinel], laidTests := true, laidLooks := .later }
def SolveRollsUptoCardSaid : Prop := Claim7.holds Tryz.pinned (.plain (OpenSpec.upto solveRollsSpec)) solveRollsUptoCard

/-- THE SECOND FORM's CARD OF 'tallylaw2.CalcEach'. -/
def calcEachUptoCard : Claim7 := { stood := { row := calcEachUptoRow, standIns := [], harness := (true, "7d712a52d43d333cd0f00354ba755fa048528a6e7ffe336c18c1be3a2b783cca"), looks := true }, kinds := [], alts := [], laidByText := true, laidKinds := [.data, .data, .data, .sentinel, .sentinel], laidTests := true, laidLooks := .later }
def CalcEachUptoCardSaid : Prop := Claim7.holds Tryz.pinned (.plain (OpenSpec.upto calcEachSpec)) calcEachUptoCard

/-- THE SECOND FORM's CARD OF 'tallylaw2.SolveTells'. -/
def solveTellsUptoCard : Claim7 := { stood := { row := solveTellsUptoRow, standIns := [], harness := (true, "7d712a52d43d333cd0f00354ba755fa048528a6e7ffe336c18c1be3a2b783cca"), looks := true }, kinds := [], alts := [], laidByText := true, laidKinds := [.data, .data, .data, .handle, .sentinel, .sentinel], laidTests := true, laidLooks := .later }
def SolveTellsUptoCardSaid : Prop := Claim7.holds Tryz.pinned (.plain (OpenSpec.upto solveTellsSpec)) solveTellsUptoCard

/-- THE SECOND FORM's CARD OF 'tallylaw2.CalcTells'. -/
def calcTellsUptoCard : Claim7 := { stood := { row := calcTellsUptoRow, standIns := [], harness := (true, "7d712a52d43d333cd0f00354ba755fa048528a6e7ffe336c18c1be3a2b783cca"), looks := true }, kinds := [], alts := [], laidByText := true, laidKinds := [.data, .data, .data, .handle, .sentinel, .sentinel], laidTests := true, laidLooks := .later }
def CalcTellsUptoCardSaid : Prop := Claim7.holds Tryz.pinned (.plain (OpenSpec.upto calcTellsSpec)) calcTellsUptoCard

/-- THE SECOND FORM's CARD OF 'tallylaw2.NeedHolds'. -/
def needHoldsUptoCard : Claim7 := { stood := { row := needHoldsUptoRow, standIns := [], harness := (true, "7d712a52d43d333cd0f00354ba755fa048528a6e7ffe336c18c1be3a2b783cca"), looks := true }, kinds := [], alts := [], laidByText := true, laidKinds := [.data, .data, .data, .sentinel, .sentinel], laidTests := true, laidLooks := .later }
def NeedHoldsUptoCardSaid : Prop := Claim7.holds Tryz.pinned (.plain (OpenSpec.upto needHoldsSpec)) needHoldsUptoCard
end Rows
end Go.Proofs.YtchidgkpkhloeaaGreatDoor
