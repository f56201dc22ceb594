/-
  Plain laws: the document's cells (Cell, Of, Plus).
-/
import Derived.Test.YtcabflannjeigaaDoorMRc
import Derived.Test.YtcabflannjeigaaDoorQC
namespace Ab
open Go
set_option linter.unusedVariables false
set_option linter.unusedSimpArgs false

theorem P144_eq (c : Cell) : P144 c = some (if badC c then 1 else 0) := by
  have hw : within c.n = false ↔ c.n < -1000000000000 ∨ 1000000000000 < c.n := by
    unfold within
    by_cases h1 : -1000000000000 ≤ c.n <;> by_cases h2 : c.n ≤ 1000000000000 <;> simp [h1, h2] <;> omega
  simp only [P144, S144]
  have hb : badC c ↔ c.k < 0 ∨ 2 < c.k ∨ (c.n < -1000000000000 ∨ 1000000000000 < c.n) ∨ ¬ c.k = 1 ∧ ¬ c.n = 0 := by unfold badC; rw [hw]
  have e : (if badC c then (1 : Int) else 0) = if c.k < 0 ∨ 2 < c.k ∨ (c.n < -1000000000000 ∨ 1000000000000 < c.n) ∨ ¬ c.k = 1 ∧ ¬ c.n = 0 then 1 else 0 := by
    by_cases h : badC c
    · rw [if_pos h, if_pos (hb.1 h)]
    · rw [if_neg h, if_neg (fun x => h (hb.2 x))]
  rw [e]
  by_cases h1 : c.k < 0
  · simp [h1]
  by_cases h2 : 2 < c.k
  · simp [h2]
  by_cases h3 : c.n < -1000000000000
  · simp [h1, h2, h3]
  by_cases h4 : 1000000000000 < c.n
  · simp [h1, h2, h3, h4]
  by_cases h5 : c.k = 1
  · simp [h3, h4, h5]
  · by_cases h6 : c.n = 0 <;> simp [h1, h2, h3, h4, h5, h6]
theorem P150_eq (n : Int) : P150 n = some (cellOf n) := by
  simp only [P150, S150]
  unfold cellOf within
  by_cases h1 : n < -1000000000000
  · simp [h1] <;> omega
  by_cases h2 : 1000000000000 < n
  · simp [h1, h2] <;> omega
  · rw [if_pos (by simp; omega)]
    simp [h1, h2]
theorem P146_eq (a b : Cell) (s : Int) : P146 a b s = some (cplus a b s) := by
  simp only [P146, S146, P150_eq, bno_s, cplus]
  by_cases h1 : a.k = 2
  · simp [h1]
  by_cases h2 : b.k = 2
  · simp [h1, h2]
  by_cases h3 : a.k = 0 <;> by_cases h4 : b.k = 0 <;> simp [h1, h2, h3, h4]
end Ab
