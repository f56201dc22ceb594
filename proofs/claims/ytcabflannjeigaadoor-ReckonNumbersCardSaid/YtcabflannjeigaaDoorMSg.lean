/-
  strconv.Itoa at this seat's program, by the kit's contract (the part that the kit's tool wrote: lay-shelf, lay-plain); and what it comes to for the abstract machine.
-/
import Derived.Test.YtcabflannjeigaaDoorProg
import Derived.Test.YtcabflannjeigaaDoorMSt
import Derived.Shelf.LaysM
import Derived.Shelf.LaysC
import Derived.Shelf.Strconv.Itoa3
import Derived.Lib.LaidTab
import Derived.Below
import Derived.Shelf.Abstract
import Derived.KernelRfl
namespace Go.Proofs
open Go.Shelf
end Go.Proofs

namespace Go.Proofs.TrydStr
open Go Go.RowKit Ab
set_option linter.unusedVariables false
theorem g1 : Tryd.prog.globalNamed "internal/strconv.uint64pow10" = some 1 := by kernel_rfl
/-- What the table holds. -/
def hold (w : World) : Prop := Lib.TabIs Tryd.prog w "internal/strconv.uint64pow10" .u64 Lib.pow10Tab
theorem var_same {n : String} {g : Nat} (hg : Tryd.prog.globalNamed n = some g) {w w' : World} (h : w'.heap[g]? = w.heap[g]?) : w'.var? Tryd.prog n = w.var? Tryd.prog n := by
  simp only [World.var?, hg, Option.bind_some, h]
theorem holdK (w w' : World) (h : ∀ b ∈ [1], b < w.heap.size ∧ w'.heap[b]? = w.heap[b]?) (hh : hold w) : hold w' := by
  unfold hold Lib.TabIs at *
  rw [var_same g1 (h 1 (by simp)).2]
  exact hh
theorem var_lt {n : String} {g : Nat} (hg : Tryd.prog.globalNamed n = some g) {w : World} {cs : Array Value} (h : w.var? Tryd.prog n = some cs) : g < w.heap.size := by
  rcases Nat.lt_or_ge g w.heap.size with h1 | h1
  · exact h1
  · simp [World.var?, hg, Array.getElem?_eq_none h1] at h
theorem more_lt {w : World} (h : hold w) : ∀ b ∈ [1], b < w.heap.size := by
  intro b hb
  obtain rfl := List.mem_singleton.1 hb
  exact var_lt g1 h
end Go.Proofs.TrydStr
