/-
  DERIVED. GIVEN WITH THE SEED: THE CARDS: each row of YtkedlclobjhkfaaDoorRows.lean that lists a variable, with what it lists TIED to the program's text (the seventh form; the later family's looks); each row that meets fmt, with fmt's text TOLD by the authors' own Lean function (tested against real Go, not proved from fmt's source: count such statements apart). THE CARD IS WHAT COUNTS. Prove the row's statement (the work); the ties are given (YtkedlclobjhkfaaDoorTie.lean); close each card by the builder's one call (the guide's Derived/Test/ToyasCard.lean, 'card_holds'). Laid BY PROGRAM, IN A SANDBOX (cutbox-door.mjs). By AI agents, Wed Nov 11 2026. No macro, syntax, notation, axiom, sorry.
-/
import Derived.Test.YtkedlclobjhkfaaDoorRows
import GoSem.ClaimSeven
namespace Go.Proofs.YtkedlclobjhkfaaDoor
namespace Rows

/-- THE TIED CARD OF 'tallylaw4.OutlineFull'. -/
def outlineFullCard : Claim7 := { stood := { row := outlineFullRow, standIns := [], harness := (true, "4726858b5c4122827eab76d6bc2162873c958cdc6be02892c6e1ce2713058303"), looks := true }, kinds := [], alts := [], laidByText := true, laidKinds := [.handle], laidTests := true, laidLooks := .later }
def OutlineFullCardSaid : Prop := Claim7.holds Tryd.pinned (.plain (OpenSpec.ofChange outlineFullSpec)) outlineFullCard

/-- THE TIED CARD OF 'tallylaw1.OutlineTells'. -/
def outlineTellsCard : Claim7 := { stood := { row := outlineTellsRow, standIns := [], harness := (true, "4726858b5c4122827eab76d6bc2162873c958cdc6be02892c6e1ce2713058303"), looks := true }, kinds := [], alts := [], laidByText := true, laidKinds := [.handle], laidTests := true, laidLooks := .later }
def OutlineTellsCardSaid : Prop := Claim7.holds Tryd.pinned (.plain (OpenSpec.ofChange outlineTellsSpec)) outlineTellsCard

/-- THE TIED CARD OF 'tallylaw4.PlaceCounts'. -/
def placeCountsCard : Claim7 := { stood := { row := placeCountsRow, standIns := [], harness := (true, "4726858b5c4122827eab76d6bc2162873c958cdc6be02892c6e1ce2713058303"), looks := true }, kinds := [], alts := [], laidByText := true, laidKinds := [.handle], laidTests := true, laidLooks := .later }
def PlaceCountsCardSaid : Prop := Claim7.holds Tryd.pinned (.plain (OpenSpec.ofChange placeCountsSpec)) placeCountsCard

/-- THE TIED CARD OF 'tallylaw4.TreeLine'. -/
def treeLineCard : Claim7 := { stood := { row := treeLineRow, standIns := [], harness := (true, "4726858b5c4122827eab76d6bc2162873c958cdc6be02892c6e1ce2713058303"), looks := true }, kinds := [], alts := [], laidByText := true, laidKinds := [.handle], laidTests := true, laidLooks := .later }
def TreeLineCardSaid : Prop := Claim7.holds Tryd.pinned (.plain (OpenSpec.ofChange treeLineSpec)) treeLineCard

/-- THE TIED CARD OF 'tallylaw1.TreeTells'. -/
def treeTellsCard : Claim7 := { stood := { row := treeTellsRow, standIns := [], harness := (true, "4726858b5c4122827eab76d6bc2162873c958cdc6be02892c6e1ce2713058303"), looks := true }, kinds := [], alts := [], laidByText := true, laidKinds := [.handle], laidTests := true, laidLooks := .later }
def TreeTellsCardSaid : Prop := Claim7.holds Tryd.pinned (.plain (OpenSpec.ofChange treeTellsSpec)) treeTellsCard

/-- THE SECOND FORM's CARD OF 'tallylaw4.OutlineFull'. -/
def outlineFullUptoCard : Claim7 := { stood := { row := outlineFullUptoRow, standIns := [], harness := (true, "4726858b5c4122827eab76d6bc2162873c958cdc6be02892c6e1ce2713058303"), looks := true }, kinds := [], alts := [], laidByText := true, laidKinds := [.handle], laidTests := true, laidLooks := .later }
def OutlineFullUptoCardSaid : Prop := Claim7.holds Tryd.pinned (.plain (OpenSpec.upto outlineFullSpec)) outlineFullUptoCard

/-- THE SECOND FORM's CARD OF 'tallylaw1.OutlineTells'. -/
def outlineTellsUptoCard : Claim7 := { stood := { row := outlineTellsUptoRow, standIns := [], harness := (true, "4726858b5c4122827eab76d6bc2162873c958cdc6be02892c6e1ce2713058303"), looks := true }, kinds := [], alts := [], laidByText := true, laidKinds := [.handle], laidTests := true, laidLooks := .later }
def OutlineTellsUptoCardSaid : Prop := Claim7.holds Tryd.pinned (.plain (OpenSpec.upto outlineTellsSpec)) outlineTellsUptoCard

/-- THE SECOND FORM's CARD OF 'tallylaw4.PlaceCounts'. -/
def placeCountsUptoCard : Claim7 := { stood := { row := placeCountsUptoRow, standIns := [], harness := (true, "4726858b5c4122827eab76d6bc2162873c958cdc6be02892c6e1ce2713058303"), looks := true }, kinds := [], alts := [], laidByText := true, laidKinds := [.handle], laidTests := true, laidLooks := .later }
def PlaceCountsUptoCardSaid : Prop := Claim7.holds Tryd.pinned (.plain (OpenSpec.upto placeCountsSpec)) placeCountsUptoCard

/-- THE SECOND FORM's CARD OF 'tallylaw4.TreeLine'. -/
def treeLineUptoCard : Claim7 := { stood := { row := treeLineUptoRow, standIns := [], harness := (true, "4726858b5c4122827eab76d6bc2162873c958cdc6be02892c6e1ce2713058303"), looks := true }, kinds := [], alts := [], laidByText := true, laidKinds := [.handle], laidTests := true, laidLooks := .later }
def TreeLineUptoCardSaid : Prop := Claim7.holds Tryd.pinned (.plain (OpenSpec.upto treeLineSpec)) treeLineUptoCard

/-- THE SECOND FORM's CARD OF 'tallylaw1.TreeTells'. -/
def treeTellsUptoCard : Claim7 := { stood := { row := treeTellsUptoRow, standIns := [], harness := (true, "4726858b5c4122827eab76d6bc2162873c958cdc6be02892c6e1ce2713058303"), looks := true }, kinds := [], alts := [], laidByText := true, laidKinds := [.handle], laidTests := true, laidLooks := .later }
def TreeTellsUptoCardSaid : Prop := Claim7.holds Tryd.pinned (.plain (OpenSpec.upto treeTellsSpec)) treeTellsUptoCard
end Rows
end Go.Proofs.YtkedlclobjhkfaaDoor
