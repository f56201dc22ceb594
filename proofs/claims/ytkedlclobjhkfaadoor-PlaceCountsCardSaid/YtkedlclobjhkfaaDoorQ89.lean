/-
  Plain law: PlaceCounts answers true.
-/
import Derived.Test.YtkedlclobjhkfaaDoorW89
import Derived.Test.YtkedlclobjhkfaaDoorQS
import Derived.Test.YtkedlclobjhkfaaDoorQP
import Derived.Test.YtkedlclobjhkfaaDoorQF
namespace Ab
open Go
set_option linter.unusedVariables false
set_option linter.unusedSimpArgs false

theorem square_ok : ∀ n : Nat, n < 11 → 0 < n → (outErr (squareO n)).2.2 = 0 ∧ sizeW (squareO n) = ((n : Int) + 1) * ((n : Int) + 1) := by decide +kernel
theorem square_digs (n k : Nat) : (digs (squareO n) k).1 = [((k / (n + 1) % (n + 1) : Nat) : Int), ((k % (n + 1) : Nat) : Int)] := by
  simp [squareO, digs, flatD]
theorem p89 (n : Int) (hn : I64 n) (k : Int) (hk : I64 k) : P89 n k = some true := by
  by_cases h1 : n < 1
  · simp [P89, S89, h1]
  by_cases h2 : 10 < n
  · simp [P89, S89, h1, h2]
  obtain ⟨m, rfl⟩ := Int.eq_ofNat_of_zero_le (by omega : 0 ≤ n)
  obtain ⟨e1, e2⟩ := square_ok m (by omega) (by omega)
  have hm : m ≤ 10 := by omega
  have hsq : ((m : Int) + 1) * ((m : Int) + 1) ≤ 121 := by
    have := Int.mul_le_mul (by omega : (m : Int) + 1 ≤ 11) (by omega : (m : Int) + 1 ≤ 11) (by omega) (by omega)
    omega
  have hsq0 : 0 ≤ ((m : Int) + 1) * ((m : Int) + 1) := Int.mul_nonneg (by omega) (by omega)
  have w1 : wi ((m : Int) + 1) = (m : Int) + 1 := wiid (by omega) (by omega)
  have w2 : wi (((m : Int) + 1) * ((m : Int) + 1)) = ((m : Int) + 1) * ((m : Int) + 1) := wiid (by omega) (by omega)
  simp only [P89, S89, h1, h2, decide_false, inlO_s, br_inl, cond_false, jn_l, br_false, P22_eq m (by omega), bno_s, P98_eq, e1, e2, if_true, w1, w2]
  by_cases h3 : k < 0
  · simp [h3]
  by_cases h4 : ((m : Int) + 1) * ((m : Int) + 1) ≤ k
  · simp [h3, h4]
  obtain ⟨k, rfl⟩ := Int.eq_ofNat_of_zero_le (by omega : 0 ≤ k)
  have hlt : k < (m + 1) * (m + 1) := by
    have : ((k : Nat) : Int) < (((m + 1) * (m + 1) : Nat) : Int) := by
      rw [Int.natCast_mul]; simp only [Int.natCast_add, Int.natCast_one]; omega
    omega
  have hq : k / (m + 1) < m + 1 := Nat.div_lt_of_lt_mul hlt
  have hdm : k / (m + 1) % (m + 1) = k / (m + 1) := Nat.mod_eq_of_lt hq
  have em : ((m : Int) + 1) = ((m + 1 : Nat) : Int) := by omega
  have ed : Int.tdiv (k : Int) ((m : Int) + 1) = ((k / (m + 1) : Nat) : Int) := by rw [em]; rfl
  have et : Int.tmod (k : Int) ((m : Int) + 1) = ((k % (m + 1) : Nat) : Int) := by rw [em]; rfl
  have hne : ¬ ((m : Int) + 1) = 0 := by omega
  simp only [h3, h4, false_or, or_self, if_false, decide_false, cond_false, br_false, Int.toNat_natCast, square_digs, hdm, ed, et, nil_isNil, br_true, List.length_cons, List.length_nil, hne, not_false_eq_true, decide_true, ck_true]
  rw [wiid (n := ((k / (m + 1) : Nat) : Int)) (by generalize k / (m + 1) = q at *; omega) (by generalize k / (m + 1) = q at *; omega)]
  simp [lookI]
end Ab
