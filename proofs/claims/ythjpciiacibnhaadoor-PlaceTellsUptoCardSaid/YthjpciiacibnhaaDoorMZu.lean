/-
  A world that meets the condition of the rows of this seat that reach strings.Split; and what their conditions give.
-/
import Derived.Test.YthjpciiacibnhaaDoorRows
import Derived.Test.YthjpciiacibnhaaDoorMSq
import Derived.Test.YthjpciiacibnhaaDoorMYe
import Derived.ChangeSame
import Derived.ChangeVars
import Derived.JoinedOf
import Derived.RowKit
import Derived.RowKitTokens
import Derived.LaidLaws
import Derived.LaidHandle
import Derived.Stop.Joined
namespace Go.Proofs.YthjpciiacibnhaaDoorSep
open Go.ChangeShapes Go.WideShapes Go.RowKit Go.Proofs.YthjpciiacibnhaaDoor
theorem own : ownKnob Tryd.prog.godebug = none := by kernel_rfl
theorem laidOut : laidOutB Tryd.prog = true := by kernel_rfl
theorem et : Tryd.prog.globalNamed "errors.errorType" = some 0 := by kernel_rfl
theorem rt : (Tryd.prog.cutTypes.find? (·.1 == "internal/reflectlite.rtype")).map (·.2) = some 175 := by kernel_rfl
theorem oneRow : ((List.range 264).filter fun t => Tryd.prog.rowNamed t [101, 114, 114, 111, 114]) = [34] := by kernel_rfl
theorem tsize : Tryd.prog.types.size = 264 := by kernel_rfl
theorem handle_of {W : World} (h : handlesMet Tryd.prog [("errors.errorType", Rows.laid_errors_errorType)] W) : W.cell? ⟨0, 0, none⟩ = some Trydtold.handle := by
  obtain ⟨name, u, ty, e1, e2, e3, e4, e5⟩ := h _ (List.mem_singleton.2 rfl)
  have en : name = [101, 114, 114, 111, 114] := (Option.some.inj e1).symm
  subst en
  obtain rfl := Option.some.inj (rt.symm.trans e2)
  have hm : ty ∈ (List.range 264).filter fun t => Tryd.prog.rowNamed t [101, 114, 114, 111, 114] := List.mem_filter.2 ⟨List.mem_range.2 (by rw [← tsize]; exact e3), e4⟩
  rw [oneRow] at hm
  obtain rfl := List.mem_singleton.1 hm
  have hh : typeHandle Tryd.prog 34 = .pointer (some ⟨9, 34, none⟩) := by kernel_rfl
  rw [hh] at e5
  have := World.var?_cell et e5 0
  simpa [Trydtold.handle] using this
theorem handle_of_laid {W : World} (h : laidMetH Tryd.prog Rows.placeTellsUptoRow.laid W) : W.cell? ⟨0, 0, none⟩ = some Trydtold.handle :=
  handle_of (show laidMet Tryd.prog [("unicode/utf8.acceptRanges", Rows.laid_unicode_utf8_acceptRanges), ("unicode/utf8.first", Rows.laid_unicode_utf8_first)] W ∧ handlesMet Tryd.prog [("errors.errorType", Rows.laid_errors_errorType)] W from h).2

/-- The cells that a listed array of numbers stands for. -/
def litList : DataW Unit → List Value
  | .agg ds => ds.map fun | .lit (.int k z) => Value.int k z | _ => .bool false
  | _ => []
def litCells2 : DataW Unit → Array Value
  | .agg ds => (ds.flatMap litList).toArray
  | _ => #[]
def put (cs : Array Value) : Obj → Obj
  | .cells _ t frozen => .cells cs t frozen
  | o => o
/-- A world that meets the condition: the settled one, the tables and the type of errors laid. -/
noncomputable def laidWorld (os : Os) : World :=
  let w0 := World.holding Tryd.prog os ⟨#[], #[], []⟩
  { w0 with heap := ((w0.heap.modify 0 (put #[.iface 175 (.agg #[.pointer (some ⟨9, 34, none⟩)])])).modify 5 (put (litList Rows.laid_unicode_utf8_first).toArray)).modify 6 (put (litCells2 Rows.laid_unicode_utf8_acceptRanges)) }
theorem laid_met (os : Os) (args : Array Value) : laidMet Tryd.prog [("unicode/utf8.acceptRanges", Rows.laid_unicode_utf8_acceptRanges), ("unicode/utf8.first", Rows.laid_unicode_utf8_first)] ((laidWorld os).forCall (fun _ _ => 0) ⟨#[], args, []⟩).memory :=
  laidMet_of_run' 8 (by kernel_rfl) (by kernel_rfl)
theorem metBack (os : Os) (args : Array Value) : laidMetH Tryd.prog Rows.placeBackUptoRow.laid ((laidWorld os).forCall (fun _ _ => 0) ⟨#[], args, []⟩).memory := laid_met os args
theorem metTells (os : Os) (args : Array Value) : laidMetH Tryd.prog Rows.placeTellsUptoRow.laid ((laidWorld os).forCall (fun _ _ => 0) ⟨#[], args, []⟩).memory :=
  laidMetH_of_parts (laid_met os args) (by kernel_rfl)
end Go.Proofs.YthjpciiacibnhaaDoorSep
