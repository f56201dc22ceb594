/-
  Plain laws: reckon.Value by a formula's tree.
-/
import Derived.Test.YtcabflannjeigaaDoorC8
namespace Ab
open Go
set_option linter.unusedVariables false
set_option linter.unusedSimpArgs false

theorem no_refs {l : List Node} (h : ∀ s, s ∉ refsOf l) : refsOf l = [] := List.eq_nil_iff_forall_not_mem.2 h
theorem valF_nil {l : List Node} (ok : FormOk l) (h : refsOf l = []) : valF l [] [] = 0 := by
  unfold valF
  rw [form_ok.2 ok, h]
  rfl
theorem P293_tree {l : List Node} (ok : FormOk l) {e : Fx} (h : Tr l e (l.length - 1)) (hf : e.Fine) (names : List ByteArray) (cells : List Cell) (hn : names.length ≤ 9223372036854775807) (hc : cells.length ≤ 9223372036854775807) :
    P293 l names cells = some (if valF l names cells = 0 then (e.val names cells, .nil) else (⟨0, 0⟩, errOf (valF l names cells))) := by
  rw [P293_eq l names cells hn hc, val_eq names cells e _ _ h hf (by have := ok.pos; omega) (Nat.le_refl _)]
end Ab
