/-
  Plain law: OutlineFull answers true.
-/
import Derived.Test.YtkedlclobjhkfaaDoorW87
import Derived.Test.YtkedlclobjhkfaaDoorQS
import Derived.Test.YtkedlclobjhkfaaDoorQP
import Derived.Test.YtkedlclobjhkfaaDoorQF
namespace Ab
open Go
set_option linter.unusedVariables false
set_option linter.unusedSimpArgs false

def fullO (m : Nat) (k : Nat) : List Dim := (List.range k).map fun i => flatD (lettersB i) m
def powM (m : Nat) : Nat → Int
  | 0 => 1
  | k + 1 => wi (powM m k * ((m : Int) + 1))
def fullChk (m k : Nat) : Bool :=
  decide ((outErr (fullO m k)).2.2 = if 4 < k ∨ 12 < m + 1 ∨ 3000 < powM m k then 4 else 0) && decide (sizeW (fullO m k) = powM m k)
theorem full_all : ((List.range 13).all fun m => (List.range 6).all fun k => (k == 0) || fullChk m k) = true := by decide +kernel
theorem full_facts (m k : Nat) (hm : m < 13) (hk : k < 6) (h0 : 0 < k) : ((outErr (fullO m k)).2.2 = if 4 < k ∨ 12 < m + 1 ∨ 3000 < powM m k then 4 else 0) ∧ sizeW (fullO m k) = powM m k := by
  have := List.all_eq_true.1 (List.all_eq_true.1 full_all m (by simpa using hm)) k (by simpa using hk)
  simp only [Bool.or_eq_true, beq_iff_eq] at this
  have hc : fullChk m k = true := this.resolve_left (by omega)
  simpa only [fullChk, Bool.and_eq_true, decide_eq_true_eq] using hc
theorem p87 (k : Int) (hk : I64 k) (n : Int) (hn : I64 n) : P87 k n = some true := by
  by_cases h1 : k < 1
  · simp [P87, S87, h1]
  by_cases h2 : 5 < k
  · simp [P87, S87, h1, h2]
  by_cases h3 : n < 1
  · simp [P87, S87, h1, h2, h3]
  by_cases h4 : 13 < n
  · simp [P87, S87, h1, h2, h3, h4]
  obtain ⟨k, rfl⟩ := Int.eq_ofNat_of_zero_le (by omega : 0 ≤ k)
  obtain ⟨m, hm⟩ := Int.eq_ofNat_of_zero_le (by omega : 0 ≤ n - 1)
  obtain rfl : n = (m : Int) + 1 := by omega
  obtain ⟨f1, f2⟩ := full_facts m k (by omega) (by omega) (by omega)
  have hlp : lpO (S87_L1 P50 P68 (k : Int) ((m : Int) + 1)) (1, (0, [])) = some (.inl (powM m k, ((k : Int), fullO m k))) := by
    have hs := seq_loop (B := S87_L1 P50 P68 (k : Int) ((m : Int) + 1)) (fun i => (powM m i, ((i : Int), fullO m i))) k (fun i hi => by
      have e : ((i : Nat) : Int) < ((k : Nat) : Int) := by omega
      have hl : (fullO m i).length = i := by simp [fullO]
      have hr : (fullO m i).length + 1 ≤ roomA := by rw [hl]; unfold roomA; omega
      have em : fullO m (i + 1) = fullO m i ++ [flatD (lettersB i) m] := by simp [fullO, List.range_succ]
      have ew : wi ((m : Int) + 1 - 1) = (m : Int) := by rw [wiid (by omega) (by omega)]; omega
      simp only [S87_L1, e, decide_true, br_true, P68_eq i (by omega), bno_s, ew, P50_eq _ m (by omega), List.length_singleton, ck_pos hr, nxO_s, em]
      rw [wiid (n := (i : Int) + 1) (by omega) (by omega)]
      rfl)
    exact hs.trans (lpO_dn (by simp [S87_L1]))
  simp only [P87, S87, h1, h2, h3, h4, decide_false, inlO_s, br_inl, br_false, jn_l, cond_false, lp_eq, hlp, P14_eq, P93_eq, bno_s, f1, f2]
  by_cases c1 : 4 < k
  · have : (4 : Int) < (k : Int) := by omega
    simp [c1, this]
  have c1' : ¬ (4 : Int) < (k : Int) := by omega
  by_cases c2 : 12 < m + 1
  · have : (12 : Int) < (m : Int) + 1 := by omega
    simp [c1, c1', c2, this]
  have c2' : ¬ (12 : Int) < (m : Int) + 1 := by omega
  by_cases c3 : 3000 < powM m k
  · simp [c1, c1', c2, c2', c3]
  · simp [c1, c1', c2, c2', c3, errOf]
end Ab
