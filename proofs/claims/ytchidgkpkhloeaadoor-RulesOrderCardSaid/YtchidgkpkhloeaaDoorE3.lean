import Derived.Test.YtchidgkpkhloeaaDoorProg
import Derived.Test.YtchidgkpkhloeaaDoorB2
import Derived.Lib.LaidTab
import Derived.Lib.ItoaNum
import Derived.KernelRfl
import Derived.Test.YtchidgkpkhloeaaDoorRows
import Derived.ChangeSame
import Derived.ChangeVars
import Derived.JoinedOf
import Derived.RowKit
import Derived.RowKitTokens
import Derived.LaidLaws
import Derived.LaidHandle
import Derived.Stop.LaidErr
import Derived.Stop.Joined
import Derived.SizedLaws
section
namespace Go.Proofs.TrydStr
open Go Go.RowKit Ab
set_option linter.unusedVariables false
theorem g1 : Tryd.prog.globalNamed "internal/strconv.uint64pow10" = some 3 := by kernel_rfl
/-- What the table holds. -/
def hold (w : World) : Prop := Lib.TabIs Tryd.prog w "internal/strconv.uint64pow10" .u64 Lib.pow10Tab
theorem var_same {n : String} {g : Nat} (hg : Tryd.prog.globalNamed n = some g) {w w' : World} (h : w'.heap[g]? = w.heap[g]?) : w'.var? Tryd.prog n = w.var? Tryd.prog n := by
  simp only [World.var?, hg, Option.bind_some, h]
theorem holdK (w w' : World) (h : ∀ b ∈ [3], b < w.heap.size ∧ w'.heap[b]? = w.heap[b]?) (hh : hold w) : hold w' := by
  unfold hold Lib.TabIs at *
  rw [var_same g1 (h 3 (by simp)).2]
  exact hh
theorem var_lt {n : String} {g : Nat} (hg : Tryd.prog.globalNamed n = some g) {w : World} {cs : Array Value} (h : w.var? Tryd.prog n = some cs) : g < w.heap.size := by
  rcases Nat.lt_or_ge g w.heap.size with h1 | h1
  · exact h1
  · simp [World.var?, hg, Array.getElem?_eq_none h1] at h
theorem more_lt {w : World} (h : hold w) : ∀ b ∈ [3], b < w.heap.size := by
  intro b hb
  obtain rfl := List.mem_singleton.1 hb
  exact var_lt g1 h
end Go.Proofs.TrydStr
end

section
namespace Go.Proofs.YtchidgkpkhloeaaDoorStr
open Go.ChangeShapes Go.WideShapes Go.RowKit Go.Proofs.YtchidgkpkhloeaaDoor
def laidL : List (String × DataW Unit) := [("math/bits.deBruijn32tab", Rows.laid_math_bits_deBruijn32tab), ("math/bits.deBruijn64tab", Rows.laid_math_bits_deBruijn64tab), ("internal/strconv.uint64pow10", Rows.laid_internal_strconv_uint64pow10), ("strconv.ErrRange", Rows.laid_strconv_ErrRange), ("strconv.ErrSyntax", Rows.laid_strconv_ErrSyntax)]
theorem own : ownKnob Tryd.prog.godebug = none := by kernel_rfl
theorem laidOut : laidOutB Tryd.prog = true := by kernel_rfl
theorem ty1 : (Tryd.prog.globals[3]?).map (·.type) = some 132 := by kernel_rfl

/-- What the condition gives. -/
theorem hold_of_laid {W : World} (h : laidMet Tryd.prog laidL W) : TrydStr.hold W := by
  have h3 := h.tail.tail
  exact Lib.tabIs_of_head (g := 3) (t := 132) (e := 92) (n := 20) (k := .u64) (zs := Lib.pow10Tab) TrydStr.g1 ty1 Tryd.underlying132 Tryd.underlying92 (by kernel_rfl) (by kernel_rfl) h3

def syntaxS : ByteArray := { data := #[105, 110, 118, 97, 108, 105, 100, 32, 115, 121, 110, 116, 97, 120] }
def rangeS : ByteArray := { data := #[118, 97, 108, 117, 101, 32, 111, 117, 116, 32, 111, 102, 32, 114, 97, 110, 103, 101] }
noncomputable def low : Nat := (World.holding Tryd.prog default ⟨#[], #[], []⟩).heap.size
/-- The cells that a listed array of numbers stands for. -/
def litCells : DataW Unit → Array Value
  | .agg ds => (ds.map fun | .lit (.int k z) => Value.int k z | _ => .bool false).toArray
  | _ => #[]
def put (cs : Array Value) : Obj → Obj
  | .cells _ t frozen => .cells cs t frozen
  | o => o
/-- A world that meets the condition: the settled one, the tables and the errors laid. -/
noncomputable def laidWorld (os : Os) : World :=
  let w0 := World.holding Tryd.prog os ⟨#[.cells #[.string rangeS] 124, .cells #[.string syntaxS] 124], #[], []⟩
  { w0 with heap := (((((w0.heap.modify 2 (put #[.iface 122 (.pointer (some ⟨low, 0, none⟩))])).modify 1 (put #[.iface 122 (.pointer (some ⟨low + 1, 0, none⟩))])).modify 3 (put (litCells Rows.laid_internal_strconv_uint64pow10))).modify 4 (put (litCells Rows.laid_math_bits_deBruijn32tab))).modify 5 (put (litCells Rows.laid_math_bits_deBruijn64tab))) }
theorem laid_met (os : Os) (args : Array Value) : laidMet Tryd.prog laidL ((laidWorld os).forCall (fun _ _ => 0) ⟨#[], args, []⟩).memory :=
  laidMet_of_run' 8 (by kernel_rfl) (by kernel_rfl)
theorem laidWorld_met (os : Os) (args : Array Value) : laidMetH Tryd.prog laidL ((laidWorld os).forCall (fun _ _ => 0) ⟨#[], args, []⟩).memory := laid_met os args
end Go.Proofs.YtchidgkpkhloeaaDoorStr
end
