/-
  Plain law: FormulaLong answers true.
-/
import Derived.Test.YtcabflannjeigaaGreatDoorW236
import Derived.Test.YtcabflannjeigaaGreatDoorC9
import Derived.Test.YtcabflannjeigaaGreatDoorQS
import Derived.Test.YtcabflannjeigaaGreatDoorLG
namespace Ab
open Go
set_option linter.unusedVariables false
set_option linter.unusedSimpArgs false

/-- So many names in a row, with a sign between. -/
def comb (o : Int) : Nat → Fx
  | 0 => .ref ⟨#[97, 98]⟩
  | k + 1 => .bin o (comb o k) (.ref ⟨#[97, 98]⟩)
theorem comb_sz (o : Int) : ∀ k, (comb o k).sz = 2 * k + 1
  | 0 => rfl
  | k + 1 => by simp only [comb, Fx.sz, comb_sz o k]; omega
theorem comb_fine {o : Int} (h : 3 ≤ o ∧ o ≤ 6) : ∀ k, (comb o k).Fine
  | 0 => by show nameBad _ = false; decide
  | k + 1 => ⟨h.1, h.2, comb_fine h k, by show nameBad _ = false; decide⟩
theorem comb_refs (o : Int) (s : ByteArray) : ∀ k, s ∈ (comb o k).refs ↔ s = ⟨#[97, 98]⟩
  | 0 => by simp [comb, Fx.refs]
  | k + 1 => by simp [comb, Fx.refs, comb_refs o s k]
theorem comb_text (o : Int) : ∀ k, (comb o (k + 1)).text = (comb o k).text ++ sgB o ++ ⟨#[97, 98]⟩ := fun k => by
  have e1 : lpar o (comb o k).op = false := by
    cases k with
    | zero => rfl
    | succ k =>
      show (decide (3 ≤ o) && (tight o && !tight o)) = false
      cases tight o <;> simp
  show parB (lpar o (comb o k).op) (comb o k).text ++ sgB o ++ parB (rpar o 2) ⟨#[97, 98]⟩ = _
  rw [e1]
  rfl
theorem comb_size (o : Int) : ∀ k, (comb o k).text.size = 3 * k + 2
  | 0 => rfl
  | k + 1 => by
    rw [comb_text, ByteArray.size_append, ByteArray.size_append, comb_size o k, sgB_size]
    show 3 * k + 2 + 1 + 2 = _
    omega
theorem refs_one : refsOf [⟨2, 0, ⟨#[97, 98]⟩, 0, 0⟩] = [⟨#[97, 98]⟩] := by decide +kernel

theorem p236 (n : Int) (hn : I64 n) (op : Int) (ho : I64 op) : P236 n op = some true := by
  simp only [P236, S236]
  by_cases h : 1 ≤ n ∧ n ≤ 20 ∧ 0 ≤ op ∧ op ≤ 3
  rotate_left
  · have q : ∀ k : Bool → Option Bool, jn (σ := Bool) (α := Bool) (br (decide (n < (1 : Int)))
      (inlO (some true))
      (br (decide ((20 : Int) < n))
      (inlO (some true))
      (br (decide (op < (0 : Int)))
      (inlO (some true))
      (inlO (some (decide ((3 : Int) < op))))))) k = k true := by
      intro k
      simp only [br_dec]
      repeat' split
      all_goals first | rfl | (rw [decide_eq_true (by omega)]; rfl)
    rw [q, br_true]
  obtain ⟨n1, n2, o1, o2⟩ := h
  have q : ∀ k : Bool → Option Bool, jn (σ := Bool) (α := Bool) (br (decide (n < (1 : Int)))
      (inlO (some true))
      (br (decide ((20 : Int) < n))
      (inlO (some true))
      (br (decide (op < (0 : Int)))
      (inlO (some true))
      (inlO (some (decide ((3 : Int) < op))))))) k = k false := by
    intro k
    rw [br_dec, if_neg (by omega), br_dec, if_neg (by omega), br_dec, if_neg (by omega), decide_eq_false (by omega)]
    rfl
  rw [q, br_false]
  obtain ⟨m, rfl⟩ : ∃ m : Nat, n = ((m + 1 : Nat) : Int) := ⟨(n - 1).toNat, by omega⟩
  have ho3 : 3 ≤ op + 3 ∧ op + 3 ≤ 6 := by omega
  have hs := seq_loop (B := S236_L1 ((m + 1 : Nat) : Int) op) (fun i => ((comb (op + 3) i).text, ((i + 1 : Nat) : Int))) m (fun i hi => by
    have e1 : wi (op + 1) = op + 1 := wiid (by omega) (by omega)
    have e2 : wi (((i + 1 : Nat) : Int) + 1) = ((i + 1 + 1 : Nat) : Int) := by rw [wiid (by omega) (by omega)]; omega
    have e3 := sgB_cut ho3
    rw [show op + 3 - 3 = op by omega, show op + 3 - 2 = op + 1 by omega] at e3
    have e4 := comb_size (op + 3) i
    simp only [S236_L1]
    rw [br_dec, if_pos (by omega), e1, ck_pos ⟨by omega, by omega, by show op + 1 ≤ ((4 : Nat) : Int); omega⟩, e3, ck_pos (by rw [sgB_size, e4]; omega), ck_pos (by rw [ByteArray.size_append, sgB_size, e4]; show 3 * i + 2 + 1 + 2 ≤ 9223372036854775807; omega), e2, comb_text]
    rfl)
  rw [lp_eq, show lpO (S236_L1 ((m + 1 : Nat) : Int) op) ((⟨#[97, 98]⟩ : ByteArray), (1 : Int)) = _ from hs, lpO_dn (y := ((comb (op + 3) m).text, ((m + 1 : Nat) : Int))) (by simp only [S236_L1]; rw [br_dec, if_neg (by omega)]; rfl)]
  simp only [jn_l]
  have hf := comb_fine ho3 m
  have hz := comb_sz (op + 3) m
  have ht := comb_size (op + 3) m
  have w1 : wi (wi ((2 : Int) * ((m + 1 : Nat) : Int)) - 1) = ((2 * m + 1 : Nat) : Int) := by
    rw [wiid (n := 2 * ((m + 1 : Nat) : Int)) (by omega) (by omega), wiid (by omega) (by omega)]
    omega
  rw [w1]
  by_cases hm : 30 < 2 * m + 1
  · have e1 : P248 (comb (op + 3) m).text = some ([], 0, .no 4) := by
      unfold P248
      rw [if_neg (by omega), read_back hf (by omega) (by omega)]
      simp only
      rw [if_neg (by omega), P241_eq]
      have hl := po_len (comb (op + 3) m) 0
      have : formE ((comb (op + 3) m).po 0) = 4 := by
        unfold formE
        rw [if_neg (by omega), if_pos (by omega)]
      rw [this]
      rfl
    rw [e1, bno_s, br_dec, if_pos (by omega)]
    have := P92_errOf 4
    rw [show errOf 4 = Err.no 4 from rfl] at this
    rw [this]
    rfl
  · have okx := po_ok hf (by omega)
    have htx := po_tr (comb (op + 3) m)
    have hl := po_len (comb (op + 3) m) 0
    have er : refsOf ((comb (op + 3) m).po 0) = [⟨#[97, 98]⟩] := by
      rw [← refs_one]
      exact refsOf_ext fun s => by rw [refs_mem okx htx hf, comb_refs, refs_one]; simp
    rw [P248_back hf (by omega) (by omega), bno_s, br_dec, if_neg (by omega), P244_ok okx htx hf, bno_s, P245_eq, form_ok.2 okx, if_pos rfl, er, bno_s]
    simp only [show Err.isNil .nil = true from rfl, br_true, decide_true]
    rw [br_dec, if_pos (by omega)]
    rfl
end Ab
