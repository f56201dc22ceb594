/-
  Plain law: TreeLine answers true.
-/
import Derived.Test.YtkedlclobjhkfaaDoorW90
import Derived.Test.YtkedlclobjhkfaaDoorQS
import Derived.Test.YtkedlclobjhkfaaDoorQT
import Derived.Test.YtkedlclobjhkfaaDoorQF
namespace Ab
open Go
set_option linter.unusedVariables false
set_option linter.unusedSimpArgs false

def lineM (s : Int) (k : Nat) : Member := ⟨lettersB k, (k : Int) - 1, s, ⟨#[]⟩⟩
def lineD (s : Int) (n : Nat) : Dim := ⟨⟨#[97]⟩, 0, (List.range n).map (lineM s)⟩
def powN (s : Int) : Nat → Int
  | 0 => 1
  | k + 1 => powN s k * s
def lineChk (n : Nat) (s : Int) : Bool :=
  decide ((dimErr (lineD s n)).2 = 0) && (decide (depthL (lineD s n).members n = n) &&
    (List.range n).all fun i => decide ((path (lineD s n).members i).length = i + 1) && (decide (leafsOf (lineD s n).members i = [((n - 1 : Nat) : Int)]) && (leafB (lineD s n).members (n - 1) && decide ((wOf (lineD s n).members i (n - 1)).1 = powN s (n - 1 - i)))))
theorem line_all : ((List.range 13).all fun n => (n == 0) || (lineChk n (-1) && (lineChk n 0 && lineChk n 1))) = true := by decide +kernel
theorem line_facts (n : Nat) (h : n < 13) (h0 : 0 < n) (s : Int) (hs : -1 ≤ s ∧ s ≤ 1) : (dimErr (lineD s n)).2 = 0 ∧ depthL (lineD s n).members n = n ∧
    ∀ i : Nat, i < n → (path (lineD s n).members i).length = i + 1 ∧ leafsOf (lineD s n).members i = [((n - 1 : Nat) : Int)] ∧ leafB (lineD s n).members (n - 1) = true ∧ (wOf (lineD s n).members i (n - 1)).1 = powN s (n - 1 - i) := by
  have := List.all_eq_true.1 line_all n (by simpa using h)
  simp only [Bool.or_eq_true, beq_iff_eq, Bool.and_eq_true] at this
  have hc : lineChk n s = true := by
    rcases this with e | ⟨c1, c2, c3⟩
    · omega
    · rcases (by omega : s = -1 ∨ s = 0 ∨ s = 1) with rfl | rfl | rfl
      · exact c1
      · exact c2
      · exact c3
  simp only [lineChk, Bool.and_eq_true, decide_eq_true_eq, List.all_eq_true, List.mem_range] at hc
  exact hc
theorem line_len (s : Int) (n : Nat) : (lineD s n).members.length = n := by simp [lineD]
theorem pow_in (s : Int) (h : -1 ≤ s ∧ s ≤ 1) (k : Nat) : -1 ≤ powN s k ∧ powN s k ≤ 1 := by
  induction k with
  | zero => simp [powN]
  | succ k ih => exact mul_sgn ih h
theorem p90 (n : Int) (hn : I64 n) (i : Int) (hi : I64 i) (s : Int) (hs : I64 s) : P90 n i s = some true := by
  by_cases h1 : n < 1
  · simp [P90, S90, h1]
  by_cases h2 : 12 < n
  · simp [P90, S90, h1, h2]
  by_cases h3 : s < -1
  · simp [P90, S90, h1, h2, h3]
  by_cases h4 : 1 < s
  · simp [P90, S90, h1, h2, h3, h4]
  obtain ⟨m, rfl⟩ := Int.eq_ofNat_of_zero_le (by omega : 0 ≤ n)
  obtain ⟨f1, f2, f3⟩ := line_facts m (by omega) (by omega) s (by omega)
  have hlp : lpO (S90_L1 P68 (m : Int) s) (0, (⟨#[97]⟩, 0, [])) = some (.inl ((m : Int), (⟨#[97]⟩, 0, (lineD s m).members))) := by
    have hs := seq_loop (B := S90_L1 P68 (m : Int) s) (fun i => ((i : Int), ((⟨#[97]⟩ : ByteArray), (0 : Int), (lineD s i).members))) m (fun i hi => by
      have e : ((i : Nat) : Int) < ((m : Nat) : Int) := by omega
      have hr : (lineD s i).members.length + 1 ≤ roomA := by rw [line_len]; unfold roomA; omega
      have em : (lineD s (i + 1)).members = (lineD s i).members ++ [lineM s i] := by
        simp [lineD, List.range_succ]
      simp only [S90_L1, e, decide_true, br_true, P68_eq i (by omega), bno_s, List.length_singleton, ck_pos hr, nxO_s, em]
      rw [wiid (by omega) (by omega), wiid (by omega) (by omega)]
      rfl)
    exact hs.trans (lpO_dn (by simp [S90_L1]))
  have ed : Dim.mk ⟨#[97]⟩ 0 (lineD s m).members = lineD s m := rfl
  have ok := dim_ok.1 f1
  have hnm : wi ((m : Int) - 1) = ((m - 1 : Nat) : Int) := by rw [wiid (by omega) (by omega)]; omega
  simp only [P90, S90, h1, h2, h3, h4, decide_false, inlO_s, br_inl, br_false, jn_l, cond_false, lp_eq, hlp, ed, P19_eq, P17_eq, P16_eq, P99_eq, bno_s, f1, if_true, line_len, f2, hnm]
  by_cases hi1 : i < 0 ∨ (m : Int) ≤ i
  · have t1 : treeErr (lineD s m) [i] = 1 := by
      unfold treeErr badAt; rw [if_pos f1, line_len]
      rcases hi1 with h | h <;> simp [h]
    rcases hi1 with h | h
    · simp [h, t1]
    · by_cases h' : i < 0 <;> simp [h, h', t1]
  · obtain ⟨k, rfl⟩ := Int.eq_ofNat_of_zero_le (by omega : 0 ≤ i)
    have hk : k < m := by omega
    obtain ⟨g1, g2, g3, g4⟩ := f3 k hk
    have n1 : ¬ ((k : Int) < 0) := by omega
    have n2 : ¬ ((m : Int) ≤ (k : Int)) := by omega
    have t1 : treeErr (lineD s m) [(k : Int)] = 0 := treeErr_ok.2 ⟨ok, by simp [line_len]; omega⟩
    have t2 : treeErr (lineD s m) [(k : Int), ((m - 1 : Nat) : Int)] = 0 := treeErr_ok.2 ⟨ok, by simp only [List.mem_cons, List.not_mem_nil, or_false, line_len]; rintro x (rfl | rfl) <;> omega⟩
    have hpow : lpO (S90_L2 (m : Int) s) (1, (k : Int)) = some (.inl (powN s (m - 1 - k), ((m - 1 : Nat) : Int))) := by
      have hs := seq_loop (B := S90_L2 (m : Int) s) (fun j => (powN s j, ((k + j : Nat) : Int))) (m - 1 - k) (fun j hj => by
        have e : (((k + j : Nat)) : Int) < ((m - 1 : Nat) : Int) := by omega
        have hb := pow_in s (by omega) (j + 1)
        simp only [S90_L2, hnm, e, decide_true, br_true, nxO_s]
        have e2 : powN s j * s = powN s (j + 1) := rfl
        rw [e2, wiid (n := powN s (j + 1)) (by omega) (by omega), wiid (by omega) (by omega)]
        rfl)
      have e : k + (m - 1 - k) = m - 1 := by omega
      rw [e] at hs
      exact hs.trans (lpO_dn (by simp [S90_L2, hnm]))
    have w1 : wi ((k : Int) + 1) = ((k + 1 : Nat) : Int) := by rw [wiid (by omega) (by omega)]; rfl
    simp only [n1, n2, decide_false, cond_false, br_false, t1, t2, if_true, g1, g2, g4, Int.toNat_natCast, g3, hpow, jn_l, w1, nil_isNil, br_true, decide_true]
    simp [lookI]
end Ab
