/-
  From the condition of a row of this seat to what the table of strconv holds; and a world that meets the condition: the tables and the errors laid.
-/
import Derived.Test.YtcabflannjeigaaGreatDoorRows
import Derived.Test.YtcabflannjeigaaGreatDoorMSi
import Derived.ChangeSame
import Derived.ChangeVars
import Derived.JoinedOf
import Derived.RowKit
import Derived.RowKitTokens
import Derived.LaidLaws
import Derived.LaidHandle
import Derived.Stop.LaidErr
import Derived.Stop.Joined
import Derived.Lib.LaidTab
import Derived.SizedLaws
namespace Go.Proofs.YtcabflannjeigaaGreatDoorStr
open Go.ChangeShapes Go.WideShapes Go.RowKit Go.Proofs.YtcabflannjeigaaGreatDoor
def laidL : List (String × DataW Unit) := [("math/bits.deBruijn32tab", Rows.laid_math_bits_deBruijn32tab), ("math/bits.deBruijn64tab", Rows.laid_math_bits_deBruijn64tab), ("internal/strconv.uint64pow10", Rows.laid_internal_strconv_uint64pow10), ("strconv.ErrRange", Rows.laid_strconv_ErrRange), ("strconv.ErrSyntax", Rows.laid_strconv_ErrSyntax)]
theorem own : ownKnob Tryz.prog.godebug = none := by kernel_rfl
theorem laidOut : laidOutB Tryz.prog = true := by kernel_rfl
theorem ty1 : (Tryz.prog.globals[1]?).map (·.type) = some 214 := by kernel_rfl

/-- What the condition gives. -/
theorem hold_of_laid {W : World} (h : laidMet Tryz.prog laidL W) : TryzStr.hold W := by
  have h3 := h.tail.tail
  exact Lib.tabIs_of_head (g := 1) (t := 214) (e := 164) (n := 20) (k := .u64) (zs := Lib.pow10Tab) TryzStr.g1 ty1 Tryz.underlying214 Tryz.underlying164 (by kernel_rfl) (by kernel_rfl) h3

def syntaxS : ByteArray := { data := #[105, 110, 118, 97, 108, 105, 100, 32, 115, 121, 110, 116, 97, 120] }
def rangeS : ByteArray := { data := #[118, 97, 108, 117, 101, 32, 111, 117, 116, 32, 111, 102, 32, 114, 97, 110, 103, 101] }
noncomputable def low : Nat := (World.holding Tryz.prog default ⟨#[], #[], []⟩).heap.size
/-- The cells that a listed array of numbers stands for. -/
def litCells : DataW Unit → Array Value
  | .agg ds => (ds.map fun | .lit (.int k z) => Value.int k z | _ => .bool false).toArray
  | _ => #[]
def put (cs : Array Value) : Obj → Obj
  | .cells _ t frozen => .cells cs t frozen
  | o => o
/-- A world that meets the condition: the settled one, the tables and the errors laid. -/
noncomputable def laidWorld (os : Os) : World :=
  let w0 := World.holding Tryz.prog os ⟨#[.cells #[.string rangeS] 234, .cells #[.string syntaxS] 234], #[], []⟩
  { w0 with heap := ((((((w0.heap.modify 0 (put #[.iface 171 (.agg #[.pointer (some ⟨7, 31, none⟩)])])).modify 6 (put #[.iface 232 (.pointer (some ⟨low, 0, none⟩))])).modify 5 (put #[.iface 232 (.pointer (some ⟨low + 1, 0, none⟩))])).modify 1 (put (litCells Rows.laid_internal_strconv_uint64pow10))).modify 3 (put (litCells Rows.laid_math_bits_deBruijn32tab))).modify 4 (put (litCells Rows.laid_math_bits_deBruijn64tab))) }
theorem laid_met (os : Os) (args : Array Value) : laidMet Tryz.prog laidL ((laidWorld os).forCall (fun _ _ => 0) ⟨#[], args, []⟩).memory :=
  laidMet_of_run' 8 (by kernel_rfl) (by kernel_rfl)
theorem laidWorld_met (os : Os) (args : Array Value) : laidMetH Tryz.prog laidL ((laidWorld os).forCall (fun _ _ => 0) ⟨#[], args, []⟩).memory := laid_met os args
end Go.Proofs.YtcabflannjeigaaGreatDoorStr
