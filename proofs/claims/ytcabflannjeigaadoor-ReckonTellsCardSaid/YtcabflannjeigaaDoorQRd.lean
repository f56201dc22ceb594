/-
  Plain laws: the document's products and quotients.
-/
import Derived.Test.YtcabflannjeigaaDoorQC
import Derived.Test.YtcabflannjeigaaDoorMRc
import Derived.Test.YtcabflannjeigaaDoorQRc
namespace Ab
open Go
set_option linter.unusedVariables false
set_option linter.unusedSimpArgs false

theorem P160_eq {n : Int} (h : within n = true) : P160 n = some (if n < 0 then -n else n) := by
  simp only [within, Bool.and_eq_true, decide_eq_true_eq] at h
  simp only [P160, S160]
  rw [br_dec]
  split
  · rw [wiid (by omega) (by omega)]; congr 1; omega
  · rfl
theorem P147_eq {a b : Cell} (ha : within a.n = true) (hb : within b.n = true) : P147 a b = some (ctimes a b) := by
  simp only [P147, S147, P150_eq, P160_eq ha, P160_eq hb, bno_s, ctimes, size_eq ha, size_eq hb]
  by_cases h1 : a.k = 2
  · simp [h1]
  by_cases h2 : b.k = 2
  · simp [h1, h2]
  by_cases h3 : a.k = 0
  · simp [h1, h2, h3]
  by_cases h4 : b.k = 0
  · simp [h1, h2, h3, h4]
  simp only [h1, h2, h3, h4, decide_false, or_self, if_false, br_false, inlO_s, jn_l]
  by_cases h5 : a.n = 0
  · simp [h5]
  · have h6 : (0 : Int) < (if a.n < 0 then -a.n else a.n) := by split <;> omega
    rw [br_dec, if_pos h6, ck_pos (by omega)]
    simp only [inlO_s, jn_l, h5, not_false_eq_true, true_and]
    rw [br_dec]
    exact (apply_ite some _ _ _).symm
theorem tdiv_parts {a b : Int} (ha : within a = true) (hb : within b = true) (h0 : b ≠ 0) :
    (if (decide (a < 0)) = (decide (b < 0)) then wi (Int.tdiv (if a < 0 then -a else a) (if b < 0 then -b else b)) else wi (0 - wi (Int.tdiv (if a < 0 then -a else a) (if b < 0 then -b else b)))) = wi (Int.tdiv a b) := by
  simp only [within, Bool.and_eq_true, decide_eq_true_eq] at ha hb
  have bd : ∀ x y : Int, 0 ≤ x → x ≤ 1000000000000 → 0 < y → 0 ≤ Int.tdiv x y ∧ Int.tdiv x y ≤ 1000000000000 := by
    intro x y h1 h2 h3
    rw [Int.tdiv_eq_ediv_of_nonneg h1]
    exact ⟨Int.ediv_nonneg h1 (by omega), Int.le_trans (Int.ediv_le_self _ h1) h2⟩
  by_cases h1 : a < 0 <;> by_cases h2 : b < 0
  · simp only [h1, h2, if_true]
    rw [Int.neg_tdiv_neg]
  · have k := bd (-a) b (by omega) (by omega) (by omega)
    simp only [h1, h2, if_true, if_false, decide_true, decide_false, Bool.true_eq_false]
    rw [Int.neg_tdiv] at k ⊢
    rw [wiid (n := -(Int.tdiv a b)) (by omega) (by omega)]
    congr 1
    omega
  · have k := bd a (-b) (by omega) (by omega) (by omega)
    simp only [h1, h2, if_true, if_false, decide_true, decide_false, Bool.false_eq_true]
    rw [Int.tdiv_neg] at k ⊢
    rw [wiid (n := -(Int.tdiv a b)) (by omega) (by omega)]
    congr 1
    omega
  · simp only [h1, h2, if_false, if_true]
theorem P148_eq {a b : Cell} (ha : within a.n = true) (hb : within b.n = true) : P148 a b = some (cover a b) := by
  simp only [P148, S148, P150_eq, P160_eq ha, P160_eq hb, bno_s, cover]
  by_cases h1 : a.k = 2
  · simp [h1]
  by_cases h2 : b.k = 2
  · simp [h1, h2]
  by_cases h3 : a.k = 0
  · simp [h1, h2, h3]
  by_cases h4 : b.k = 0
  · simp [h1, h2, h3, h4]
  simp only [h1, h2, h3, h4, decide_false, or_self, if_false, br_false, inlO_s, jn_l]
  by_cases h5 : b.n = 0
  · simp [h5]
  · rw [br_dec, if_neg h5, if_neg h5, ck_pos (by split <;> omega), ← tdiv_parts ha hb h5]
    by_cases h6 : (decide (a.n < 0)) = (decide (b.n < 0))
    · rw [if_pos h6, br_dec, if_neg (by simpa using h6)]; rfl
    · rw [if_neg h6, br_dec, if_pos h6]; rfl
end Ab
