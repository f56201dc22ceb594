/-
  From the condition of a row of this seat to what the tables and the errors of strconv hold; and a world that meets the condition.
-/
import Derived.Test.YthjpciiacibnhaaDoorRows
import Derived.Test.YthjpciiacibnhaaDoorMSh
import Derived.ChangeSame
import Derived.ChangeVars
import Derived.JoinedOf
import Derived.RowKit
import Derived.RowKitTokens
import Derived.LaidLaws
import Derived.LaidHandle
import Derived.Stop.LaidErr
import Derived.Stop.Joined
import Derived.Lib.LaidTab
import Derived.SizedLaws
namespace Go.Proofs.YthjpciiacibnhaaDoorStr
open Go.ChangeShapes Go.WideShapes Go.RowKit Go.Proofs.YthjpciiacibnhaaDoor
def laidL : List (String × DataW Unit) := [("math/bits.deBruijn32tab", Rows.laid_math_bits_deBruijn32tab), ("math/bits.deBruijn64tab", Rows.laid_math_bits_deBruijn64tab), ("internal/strconv.uint64pow10", Rows.laid_internal_strconv_uint64pow10), ("strconv.ErrRange", Rows.laid_strconv_ErrRange), ("strconv.ErrSyntax", Rows.laid_strconv_ErrSyntax)]
theorem own : ownKnob Tryd.prog.godebug = none := by kernel_rfl
theorem laidOut : laidOutB Tryd.prog = true := by kernel_rfl
theorem cells233 : Tryd.prog.cellsOf 233 = 1 := by kernel_rfl
theorem cells9 : Tryd.prog.cellsOf 9 = 1 := by kernel_rfl
theorem star : "*" ++ "errors.errorString" = "*errors.errorString" := by decide
theorem row231 (u : TypeId) (h : Tryd.prog.typeName? 3 u = some "*errors.errorString") : u = 231 :=
  typeName_ptr_named (nm := "errors.errorString") (by rw [star]; kernel_rfl) (by kernel_rfl) (by decide) u (by rw [star]; exact h)
theorem ty2 : (Tryd.prog.globals[2]?).map (·.type) = some 34 := by kernel_rfl
theorem ty3 : (Tryd.prog.globals[3]?).map (·.type) = some 34 := by kernel_rfl
theorem ty4 : (Tryd.prog.globals[4]?).map (·.type) = some 218 := by kernel_rfl

/-- What the condition gives. -/
theorem hold_of_laid {W : World} (h : laidMet Tryd.prog laidL W) : TrydStr.hold W := by
  have h3 := h.tail.tail
  have ht : Lib.TabIs Tryd.prog W "internal/strconv.uint64pow10" .u64 Lib.pow10Tab := Lib.tabIs_of_head (g := 4) (t := 218) (e := 204) (n := 20) (k := .u64) (zs := Lib.pow10Tab) TrydStr.g4 ty4 Tryd.underlying218 Tryd.underlying204 (by kernel_rfl) (by kernel_rfl) h3
  obtain ⟨a, _, hr, _⟩ := laid_sentinel (tp := 231) (te := 233) (ts := 9) h3.tail TrydStr.g3 ty3 Tryd.underlying34 row231 Tryd.underlying231 Tryd.underlying233 rfl rfl Tryd.underlying9 cells233 cells9
  obtain ⟨b, _, hs, _⟩ := laid_sentinel (tp := 231) (te := 233) (ts := 9) h3.tail.tail TrydStr.g2 ty2 Tryd.underlying34 row231 Tryd.underlying231 Tryd.underlying233 rfl rfl Tryd.underlying9 cells233 cells9
  exact ⟨ht, ⟨_, _, hs⟩, _, _, hr⟩

def syntaxS : ByteArray := { data := #[105, 110, 118, 97, 108, 105, 100, 32, 115, 121, 110, 116, 97, 120] }
def rangeS : ByteArray := { data := #[118, 97, 108, 117, 101, 32, 111, 117, 116, 32, 111, 102, 32, 114, 97, 110, 103, 101] }
noncomputable def low : Nat := (World.holding Tryd.prog default ⟨#[], #[], []⟩).heap.size
/-- The cells that a listed array of numbers stands for. -/
def litCells : DataW Unit → Array Value
  | .agg ds => (ds.map fun | .lit (.int k z) => Value.int k z | _ => .bool false).toArray
  | _ => #[]
def put (cs : Array Value) : Obj → Obj
  | .cells _ t frozen => .cells cs t frozen
  | o => o
/-- A world that meets the condition: the settled one, the tables and the errors laid. -/
noncomputable def laidWorld (os : Os) : World :=
  let w0 := World.holding Tryd.prog os ⟨#[.cells #[.string rangeS] 233, .cells #[.string syntaxS] 233], #[], []⟩
  { w0 with heap := (((((w0.heap.modify 0 (put #[.iface 175 (.agg #[.pointer (some ⟨9, 34, none⟩)])])).modify 3 (put #[.iface 231 (.pointer (some ⟨low, 0, none⟩))])).modify 2 (put #[.iface 231 (.pointer (some ⟨low + 1, 0, none⟩))])).modify 4 (put (litCells Rows.laid_internal_strconv_uint64pow10))).modify 7 (put (litCells Rows.laid_math_bits_deBruijn32tab))).modify 8 (put (litCells Rows.laid_math_bits_deBruijn64tab)) }
theorem laid_met (os : Os) (args : Array Value) : laidMet Tryd.prog laidL ((laidWorld os).forCall (fun _ _ => 0) ⟨#[], args, []⟩).memory :=
  laidMet_of_run' 8 (by kernel_rfl) (by kernel_rfl)
theorem laidWorld_met (os : Os) (args : Array Value) : laidMetH Tryd.prog laidL ((laidWorld os).forCall (fun _ _ => 0) ⟨#[], args, []⟩).memory := laid_met os args
end Go.Proofs.YthjpciiacibnhaaDoorStr
