/-
  Plain law: CellCounts answers true.
-/
import Derived.Test.YtkedlclobjhkfaaW1
import Derived.Test.YtkedlclobjhkfaaQC
import Derived.Test.YtkedlclobjhkfaaLG
namespace Ab
open Go
set_option linter.unusedVariables false

theorem fuel1 : ∀ m : Nat, m < 51 → (lpN (S1_L1 P10 P8 P9 (m : Int)) 60 ((1 : Int), (0 : Int), ((0 : Int), (0 : Int)), ((cellOf 1).k, (cellOf 1).n))).isSome = true := by decide +kernel

theorem p1 (n : Int) (hn : I64 n) : P1 n = some true := by
  by_cases h0 : n < 0
  · simp [P1, S1, h0]
  by_cases h1 : 50 < n
  · simp [P1, S1, h0, h1]
  obtain ⟨m, rfl⟩ := Int.eq_ofNat_of_zero_le (by omega : 0 ≤ n)
  have hm : m < 51 := by omega
  simp only [P1, S1, P8_eq, bno_s]
  rw [lp_fuel (fuel1 m hm)]
  clear h0 h1 hn
  revert hm
  revert m
  decide +kernel

end Ab
