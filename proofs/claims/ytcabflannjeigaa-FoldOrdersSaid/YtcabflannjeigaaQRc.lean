/-
  Plain laws: the document's cells (Cell, Of, Plus).
-/
import Derived.Test.YtcabflannjeigaaMRc
import Derived.Test.YtcabflannjeigaaQC
namespace Ab
open Go
set_option linter.unusedVariables false
set_option linter.unusedSimpArgs false

theorem P150_eq (n : Int) : P150 n = some (cellOf n) := by
  simp only [P150, S150]
  unfold cellOf within
  by_cases h1 : n < -1000000000000
  · simp [h1] <;> omega
  by_cases h2 : 1000000000000 < n
  · simp [h1, h2] <;> omega
  · rw [if_pos (by simp; omega)]
    simp [h1, h2]
theorem P146_eq (a b : Cell) (s : Int) : P146 a b s = some (cplus a b s) := by
  simp only [P146, S146, P150_eq, bno_s, cplus]
  by_cases h1 : a.k = 2
  · simp [h1]
  by_cases h2 : b.k = 2
  · simp [h1, h2]
  by_cases h3 : a.k = 0 <;> by_cases h4 : b.k = 0 <;> simp [h1, h2, h3, h4]
end Ab
