/-
  No cell of these rows narrows 'for every input' (looked for: loops, veiled, ifaces, maps, wideKeys, modest, calm, conditions, laid).
  DERIVED. THE GIVEN ROWS OF THIS SEAT. 7 by the template 'for every input the law returns true; each argument reads behind the call as it read before'; 0 by the template 'total and deterministic' (their statements: YtkedlclobjhkfaaTotals.lean).
  GIVEN WITH THE SEED: the statements are not yours to turn. If you find one false, say at which input.
  Laid BY PROGRAM, IN A SANDBOX (cutbox-rows.mjs): the forced cells as the released guide's own fill.sh prints them over the translation 56cf8ee9e8cb7f8f… (all of the seat's roots in one cut). By AI agents, Wed Nov 11 2026. No macro, syntax, notation, axiom, sorry.
-/
import Derived.Test.YtkedlclobjhkfaaChecked
import GoSem.Claim
import GoSem.ClaimJoined
import GoSem.ClaimMapViews
import Derived.JoinedTies
import Derived.KernelRfl
namespace Go.Proofs.Ytkedlclobjhkfaa
/- THE CELL 'sum', in the pinned program and in every row, IS THE sha256 OF THE DUMP (.gsa) THAT YtkedlclobjhkfaaProg.lean LOADS. Nothing in Lean hashes anything: it is a label: what it is worth is what the hold of that sum in a sandbox is worth. -/
noncomputable def Try.pinned : Pinned := { name := "ytkedlclobjhkfaa", sum := "56cf8ee9e8cb7f8fa21844137f8e6f3886ebd43250dd458803f51d90a87a4019", checked := Try.checked }
namespace Rows
def none {H : Type} : Left H := { results := [], args := [] }

/-- 'tallylaw1.Names': WHATEVER THE INPUT: true; the input reads as it did. -/
def namesSpec : ChangeSpec := { name := "names", fn := fun _ => fun
  | [] => { results := [.lit (.bool true)], args := [] }
  | _ => none }
def namesRow : OpenClaim := { program := "ytkedlclobjhkfaa", sum := "56cf8ee9e8cb7f8fa21844137f8e6f3886ebd43250dd458803f51d90a87a4019", func := "tallyhall/tallylaw1.Names", spec := "names", apart := false }
def NamesSaid : Prop := namesRow.holds Try.pinned (OpenSpec.ofChange namesSpec)

/-- ITS FALSE NEIGHBOUR: 'it returns false'. Refute it at one input. -/
def namesWrong : ChangeSpec := { name := "names", fn := fun _ => fun
  | [] => { results := [.lit (.bool false)], args := [] }
  | _ => none }
def NamesWrongFalsely : Prop := namesRow.holds Try.pinned (OpenSpec.ofChange namesWrong)

/-- 'tallylaw4.CellCounts': WHATEVER THE INPUT: true; the input reads as it did. -/
def cellCountsSpec : ChangeSpec := { name := "cellCounts", fn := fun _ => fun
  | [d] => { results := [.lit (.bool true)], args := [d] }
  | _ => none }
def cellCountsRow : OpenClaim := { program := "ytkedlclobjhkfaa", sum := "56cf8ee9e8cb7f8fa21844137f8e6f3886ebd43250dd458803f51d90a87a4019", func := "tallyhall/tallylaw4.CellCounts", spec := "cellCounts", unfollowed := true, recurses := true, apart := false }
def CellCountsSaid : Prop := cellCountsRow.holds Try.pinned (OpenSpec.ofChange cellCountsSpec)

/-- ITS FALSE NEIGHBOUR: 'it returns false'. Refute it at one input. -/
def cellCountsWrong : ChangeSpec := { name := "cellCounts", fn := fun _ => fun
  | [d] => { results := [.lit (.bool false)], args := [d] }
  | _ => none }
def CellCountsWrongFalsely : Prop := cellCountsRow.holds Try.pinned (OpenSpec.ofChange cellCountsWrong)

/-- 'tallylaw4.CellDivides': WHATEVER THE INPUT: true; the input reads as it did. -/
def cellDividesSpec : ChangeSpec := { name := "cellDivides", fn := fun _ => fun
  | [d1, d2] => { results := [.lit (.bool true)], args := [d1, d2] }
  | _ => none }
def cellDividesRow : OpenClaim := { program := "ytkedlclobjhkfaa", sum := "56cf8ee9e8cb7f8fa21844137f8e6f3886ebd43250dd458803f51d90a87a4019", func := "tallyhall/tallylaw4.CellDivides", spec := "cellDivides", unfollowed := true, recurses := true, apart := false }
def CellDividesSaid : Prop := cellDividesRow.holds Try.pinned (OpenSpec.ofChange cellDividesSpec)

/-- ITS FALSE NEIGHBOUR: 'it returns false'. Refute it at one input. -/
def cellDividesWrong : ChangeSpec := { name := "cellDivides", fn := fun _ => fun
  | [d1, d2] => { results := [.lit (.bool false)], args := [d1, d2] }
  | _ => none }
def CellDividesWrongFalsely : Prop := cellDividesRow.holds Try.pinned (OpenSpec.ofChange cellDividesWrong)

/-- 'tallylaw1.OutlineFinds': WHATEVER THE INPUT: true; the input reads as it did. -/
def outlineFindsSpec : ChangeSpec := { name := "outlineFinds", fn := fun _ => fun
  | [d] => { results := [.lit (.bool true)], args := [d] }
  | _ => none }
def outlineFindsRow : OpenClaim := { program := "ytkedlclobjhkfaa", sum := "56cf8ee9e8cb7f8fa21844137f8e6f3886ebd43250dd458803f51d90a87a4019", func := "tallyhall/tallylaw1.OutlineFinds", spec := "outlineFinds", unfollowed := true, recurses := true, apart := false }
def OutlineFindsSaid : Prop := outlineFindsRow.holds Try.pinned (OpenSpec.ofChange outlineFindsSpec)

/-- ITS FALSE NEIGHBOUR: 'it returns false'. Refute it at one input. -/
def outlineFindsWrong : ChangeSpec := { name := "outlineFinds", fn := fun _ => fun
  | [d] => { results := [.lit (.bool false)], args := [d] }
  | _ => none }
def OutlineFindsWrongFalsely : Prop := outlineFindsRow.holds Try.pinned (OpenSpec.ofChange outlineFindsWrong)

/-- 'tallylaw1.TreeHolds': WHATEVER THE INPUT: true; the input reads as it did. -/
def treeHoldsSpec : ChangeSpec := { name := "treeHolds", fn := fun _ => fun
  | [d1, d2] => { results := [.lit (.bool true)], args := [d1, d2] }
  | _ => none }
def treeHoldsRow : OpenClaim := { program := "ytkedlclobjhkfaa", sum := "56cf8ee9e8cb7f8fa21844137f8e6f3886ebd43250dd458803f51d90a87a4019", func := "tallyhall/tallylaw1.TreeHolds", spec := "treeHolds", unfollowed := true, recurses := true, apart := false }
def TreeHoldsSaid : Prop := treeHoldsRow.holds Try.pinned (OpenSpec.ofChange treeHoldsSpec)

/-- ITS FALSE NEIGHBOUR: 'it returns false'. Refute it at one input. -/
def treeHoldsWrong : ChangeSpec := { name := "treeHolds", fn := fun _ => fun
  | [d1, d2] => { results := [.lit (.bool false)], args := [d1, d2] }
  | _ => none }
def TreeHoldsWrongFalsely : Prop := treeHoldsRow.holds Try.pinned (OpenSpec.ofChange treeHoldsWrong)

/-- 'tallylaw4.FoldOnce': WHATEVER THE INPUT: true; the input reads as it did. -/
def foldOnceSpec : ChangeSpec := { name := "foldOnce", fn := fun _ => fun
  | [d1, d2, d3] => { results := [.lit (.bool true)], args := [d1, d2, d3] }
  | _ => none }
def foldOnceRow : OpenClaim := { program := "ytkedlclobjhkfaa", sum := "56cf8ee9e8cb7f8fa21844137f8e6f3886ebd43250dd458803f51d90a87a4019", func := "tallyhall/tallylaw4.FoldOnce", spec := "foldOnce", unfollowed := true, recurses := true, apart := false }
def FoldOnceSaid : Prop := foldOnceRow.holds Try.pinned (OpenSpec.ofChange foldOnceSpec)

/-- ITS FALSE NEIGHBOUR: 'it returns false'. Refute it at one input. -/
def foldOnceWrong : ChangeSpec := { name := "foldOnce", fn := fun _ => fun
  | [d1, d2, d3] => { results := [.lit (.bool false)], args := [d1, d2, d3] }
  | _ => none }
def FoldOnceWrongFalsely : Prop := foldOnceRow.holds Try.pinned (OpenSpec.ofChange foldOnceWrong)

/-- 'tallylaw1.InputStays': WHATEVER THE INPUT: true; the input reads as it did. -/
def inputStaysSpec : ChangeSpec := { name := "inputStays", fn := fun _ => fun
  | [d1, d2, d3, d4, d5] => { results := [.lit (.bool true)], args := [d1, d2, d3, d4, d5] }
  | _ => none }
def inputStaysRow : OpenClaim := { program := "ytkedlclobjhkfaa", sum := "56cf8ee9e8cb7f8fa21844137f8e6f3886ebd43250dd458803f51d90a87a4019", func := "tallyhall/tallylaw1.InputStays", spec := "inputStays", inPlace := ["slices.overlaps[tallyhall/api.Entry]"], unfollowed := true, recurses := true, apart := false }
def InputStaysSaid : Prop := inputStaysRow.holds Try.pinned (OpenSpec.ofChange inputStaysSpec)

/-- ITS FALSE NEIGHBOUR: 'it returns false'. Refute it at one input. -/
def inputStaysWrong : ChangeSpec := { name := "inputStays", fn := fun _ => fun
  | [d1, d2, d3, d4, d5] => { results := [.lit (.bool false)], args := [d1, d2, d3, d4, d5] }
  | _ => none }
def InputStaysWrongFalsely : Prop := inputStaysRow.holds Try.pinned (OpenSpec.ofChange inputStaysWrong)

/- THE SECOND FORM. 'bulk': how many values and letters a reading holds, each counted each time it is reached (what is shared counts as often as it is met; a slice's spare places count too). A statement '..UptoSaid' is the law's where the arguments, and the package variables that the reading takes, are together of bulk at most 1048576: NARROWER than '..Said'. Prove '..Said' where nothing that the law and all that it calls make is longer than what came in: it says more and counts as full. Else prove '..UptoSaid'. A law counts once. -/
mutual
def uptoBulk {H : Type} : DataW H → Nat
  | .lit (.string bytes) => bytes.length + 1
  | .lit _ => 1
  | .nil => 1
  | .ptr d => uptoBulk d + 1
  | .slice elems spare => uptoBulkAll elems + uptoBulkAll spare + 1
  | .agg parts => uptoBulkAll parts + 1
  | .iface _ d => uptoBulk d + 1
  | .map entries => uptoBulkEntries entries + 1
  | .held _ => 1
def uptoBulkAll {H : Type} : List (DataW H) → Nat
  | [] => 0
  | d :: r => uptoBulk d + uptoBulkAll r
def uptoBulkEntries {H : Type} : List (Lit × DataW H) → Nat
  | [] => 0
  | x :: r => uptoBulkEntry x + uptoBulkEntries r
def uptoBulkEntry {H : Type} : Lit × DataW H → Nat
  | (.string bytes, d) => bytes.length + uptoBulk d + 1
  | (_, d) => uptoBulk d + 1
 end
def uptoSmall : (H : Type) → List (DataW H) → Bool := fun _ ds => decide (uptoBulkAll ds ≤ 1048576)
def OpenSpec.upto (s : _root_.Go.ChangeSpec) : _root_.Go.OpenSpec := { _root_.Go.OpenSpec.ofChange s with cond := some uptoSmall }

/-- 'tallylaw1.Names', WHERE WHAT IT READS IS OF BULK AT MOST 1048576: true; the input reads as it did. -/
def namesUptoRow : OpenClaim := { program := "ytkedlclobjhkfaa", sum := "56cf8ee9e8cb7f8fa21844137f8e6f3886ebd43250dd458803f51d90a87a4019", func := "tallyhall/tallylaw1.Names", spec := "names", apart := false, narrowed := true }
def NamesUptoSaid : Prop := namesUptoRow.holds Try.pinned (OpenSpec.upto namesSpec)

/-- 'tallylaw4.CellCounts', WHERE WHAT IT READS IS OF BULK AT MOST 1048576: true; the input reads as it did. -/
def cellCountsUptoRow : OpenClaim := { program := "ytkedlclobjhkfaa", sum := "56cf8ee9e8cb7f8fa21844137f8e6f3886ebd43250dd458803f51d90a87a4019", func := "tallyhall/tallylaw4.CellCounts", spec := "cellCounts", unfollowed := true, recurses := true, apart := false, narrowed := true }
def CellCountsUptoSaid : Prop := cellCountsUptoRow.holds Try.pinned (OpenSpec.upto cellCountsSpec)

/-- 'tallylaw4.CellDivides', WHERE WHAT IT READS IS OF BULK AT MOST 1048576: true; the input reads as it did. -/
def cellDividesUptoRow : OpenClaim := { program := "ytkedlclobjhkfaa", sum := "56cf8ee9e8cb7f8fa21844137f8e6f3886ebd43250dd458803f51d90a87a4019", func := "tallyhall/tallylaw4.CellDivides", spec := "cellDivides", unfollowed := true, recurses := true, apart := false, narrowed := true }
def CellDividesUptoSaid : Prop := cellDividesUptoRow.holds Try.pinned (OpenSpec.upto cellDividesSpec)

/-- 'tallylaw1.OutlineFinds', WHERE WHAT IT READS IS OF BULK AT MOST 1048576: true; the input reads as it did. -/
def outlineFindsUptoRow : OpenClaim := { program := "ytkedlclobjhkfaa", sum := "56cf8ee9e8cb7f8fa21844137f8e6f3886ebd43250dd458803f51d90a87a4019", func := "tallyhall/tallylaw1.OutlineFinds", spec := "outlineFinds", unfollowed := true, recurses := true, apart := false, narrowed := true }
def OutlineFindsUptoSaid : Prop := outlineFindsUptoRow.holds Try.pinned (OpenSpec.upto outlineFindsSpec)

/-- 'tallylaw1.TreeHolds', WHERE WHAT IT READS IS OF BULK AT MOST 1048576: true; the input reads as it did. -/
def treeHoldsUptoRow : OpenClaim := { program := "ytkedlclobjhkfaa", sum := "56cf8ee9e8cb7f8fa21844137f8e6f3886ebd43250dd458803f51d90a87a4019", func := "tallyhall/tallylaw1.TreeHolds", spec := "treeHolds", unfollowed := true, recurses := true, apart := false, narrowed := true }
def TreeHoldsUptoSaid : Prop := treeHoldsUptoRow.holds Try.pinned (OpenSpec.upto treeHoldsSpec)

/-- 'tallylaw4.FoldOnce', WHERE WHAT IT READS IS OF BULK AT MOST 1048576: true; the input reads as it did. -/
def foldOnceUptoRow : OpenClaim := { program := "ytkedlclobjhkfaa", sum := "56cf8ee9e8cb7f8fa21844137f8e6f3886ebd43250dd458803f51d90a87a4019", func := "tallyhall/tallylaw4.FoldOnce", spec := "foldOnce", unfollowed := true, recurses := true, apart := false, narrowed := true }
def FoldOnceUptoSaid : Prop := foldOnceUptoRow.holds Try.pinned (OpenSpec.upto foldOnceSpec)

/-- 'tallylaw1.InputStays', WHERE WHAT IT READS IS OF BULK AT MOST 1048576: true; the input reads as it did. -/
def inputStaysUptoRow : OpenClaim := { program := "ytkedlclobjhkfaa", sum := "56cf8ee9e8cb7f8fa21844137f8e6f3886ebd43250dd458803f51d90a87a4019", func := "tallyhall/tallylaw1.InputStays", spec := "inputStays", inPlace := ["slices.overlaps[tallyhall/api.Entry]"], unfollowed := true, recurses := true, apart := false, narrowed := true }
def InputStaysUptoSaid : Prop := inputStaysUptoRow.holds Try.pinned (OpenSpec.upto inputStaysSpec)

end Rows
end Go.Proofs.Ytkedlclobjhkfaa
