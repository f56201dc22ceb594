/-
  Plain law: CellTells answers true.
-/
import Derived.Test.YthjpciiacibnhaaDoorW121
import Derived.Test.YthjpciiacibnhaaDoorQDg
import Derived.Test.YthjpciiacibnhaaDoorQS
namespace Ab
open Go
set_option linter.unusedVariables false
set_option linter.unusedSimpArgs false

theorem P144_eq (c : Cell) : P144 c = some (if badC c then 1 else 0) := by
  have hw : within c.n = false ↔ c.n < -1000000000000 ∨ 1000000000000 < c.n := by
    unfold within
    by_cases h1 : -1000000000000 ≤ c.n <;> by_cases h2 : c.n ≤ 1000000000000 <;> simp [h1, h2] <;> omega
  simp only [P144, S144]
  have hb : badC c ↔ c.k < 0 ∨ 2 < c.k ∨ (c.n < -1000000000000 ∨ 1000000000000 < c.n) ∨ ¬ c.k = 1 ∧ ¬ c.n = 0 := by unfold badC; rw [hw]
  have e : (if badC c then (1 : Int) else 0) = if c.k < 0 ∨ 2 < c.k ∨ (c.n < -1000000000000 ∨ 1000000000000 < c.n) ∨ ¬ c.k = 1 ∧ ¬ c.n = 0 then 1 else 0 := by
    by_cases h : badC c
    · rw [if_pos h, if_pos (hb.1 h)]
    · rw [if_neg h, if_neg (fun x => h (hb.2 x))]
  rw [e]
  by_cases h1 : c.k < 0
  · simp [h1]
  by_cases h2 : 2 < c.k
  · simp [h2]
  by_cases h3 : c.n < -1000000000000
  · simp [h1, h2, h3]
  by_cases h4 : 1000000000000 < c.n
  · simp [h1, h2, h3, h4]
  by_cases h5 : c.k = 1
  · simp [h3, h4, h5]
  · by_cases h6 : c.n = 0 <;> simp [h1, h2, h3, h4, h5, h6]
theorem P150_eq (n : Int) : P150 n = some (cellOf n) := by
  simp only [P150, S150]
  unfold cellOf within
  by_cases h1 : n < -1000000000000
  · simp [h1] <;> omega
  by_cases h2 : 1000000000000 < n
  · simp [h1, h2] <;> omega
  · rw [if_pos (by simp; omega)]
    simp [h1, h2]
theorem P146_eq (a b : Cell) (s : Int) : P146 a b s = some (cplus a b s) := by
  simp only [P146, S146, P150_eq, bno_s, cplus]
  by_cases h1 : a.k = 2
  · simp [h1]
  by_cases h2 : b.k = 2
  · simp [h1, h2]
  by_cases h3 : a.k = 0 <;> by_cases h4 : b.k = 0 <;> simp [h1, h2, h3, h4]
theorem P160_eq {n : Int} (h : within n = true) : P160 n = some (if n < 0 then -n else n) := by
  simp only [within, Bool.and_eq_true, decide_eq_true_eq] at h
  simp only [P160, S160]
  rw [br_dec]
  split
  · rw [wiid (by omega) (by omega)]; congr 1; omega
  · rfl
theorem P147_eq {a b : Cell} (ha : within a.n = true) (hb : within b.n = true) : P147 a b = some (ctimes a b) := by
  simp only [P147, S147, P150_eq, P160_eq ha, P160_eq hb, bno_s, ctimes, size_eq ha, size_eq hb]
  by_cases h1 : a.k = 2
  · simp [h1]
  by_cases h2 : b.k = 2
  · simp [h1, h2]
  by_cases h3 : a.k = 0
  · simp [h1, h2, h3]
  by_cases h4 : b.k = 0
  · simp [h1, h2, h3, h4]
  simp only [h1, h2, h3, h4, decide_false, or_self, if_false, br_false, inlO_s, jn_l]
  by_cases h5 : a.n = 0
  · simp [h5]
  · have h6 : (0 : Int) < (if a.n < 0 then -a.n else a.n) := by split <;> omega
    rw [br_dec, if_pos h6, ck_pos (by omega)]
    simp only [inlO_s, jn_l, h5, not_false_eq_true, true_and]
    rw [br_dec]
    exact (apply_ite some _ _ _).symm
theorem tdiv_parts {a b : Int} (ha : within a = true) (hb : within b = true) (h0 : b ≠ 0) :
    (if (decide (a < 0)) = (decide (b < 0)) then wi (Int.tdiv (if a < 0 then -a else a) (if b < 0 then -b else b)) else wi (0 - wi (Int.tdiv (if a < 0 then -a else a) (if b < 0 then -b else b)))) = wi (Int.tdiv a b) := by
  simp only [within, Bool.and_eq_true, decide_eq_true_eq] at ha hb
  have bd : ∀ x y : Int, 0 ≤ x → x ≤ 1000000000000 → 0 < y → 0 ≤ Int.tdiv x y ∧ Int.tdiv x y ≤ 1000000000000 := by
    intro x y h1 h2 h3
    rw [Int.tdiv_eq_ediv_of_nonneg h1]
    exact ⟨Int.ediv_nonneg h1 (by omega), Int.le_trans (Int.ediv_le_self _ h1) h2⟩
  by_cases h1 : a < 0 <;> by_cases h2 : b < 0
  · simp only [h1, h2, if_true]
    rw [Int.neg_tdiv_neg]
  · have k := bd (-a) b (by omega) (by omega) (by omega)
    simp only [h1, h2, if_true, if_false, decide_true, decide_false, Bool.true_eq_false]
    rw [Int.neg_tdiv] at k ⊢
    rw [wiid (n := -(Int.tdiv a b)) (by omega) (by omega)]
    congr 1
    omega
  · have k := bd a (-b) (by omega) (by omega) (by omega)
    simp only [h1, h2, if_true, if_false, decide_true, decide_false, Bool.false_eq_true]
    rw [Int.tdiv_neg] at k ⊢
    rw [wiid (n := -(Int.tdiv a b)) (by omega) (by omega)]
    congr 1
    omega
  · simp only [h1, h2, if_false, if_true]
theorem P148_eq {a b : Cell} (ha : within a.n = true) (hb : within b.n = true) : P148 a b = some (cover a b) := by
  simp only [P148, S148, P150_eq, P160_eq ha, P160_eq hb, bno_s, cover]
  by_cases h1 : a.k = 2
  · simp [h1]
  by_cases h2 : b.k = 2
  · simp [h1, h2]
  by_cases h3 : a.k = 0
  · simp [h1, h2, h3]
  by_cases h4 : b.k = 0
  · simp [h1, h2, h3, h4]
  simp only [h1, h2, h3, h4, decide_false, or_self, if_false, br_false, inlO_s, jn_l]
  by_cases h5 : b.n = 0
  · simp [h5]
  · rw [br_dec, if_neg h5, if_neg h5, ck_pos (by split <;> omega), ← tdiv_parts ha hb h5]
    by_cases h6 : (decide (a.n < 0)) = (decide (b.n < 0))
    · rw [if_pos h6, br_dec, if_neg (by simpa using h6)]; rfl
    · rw [if_neg h6, br_dec, if_pos h6]; rfl
def showL (c : Cell) : ByteArray := if c.k = 0 then ⟨#[45]⟩ else if c.k = 2 then ⟨#[35]⟩ else itoaB c.n
theorem P145_eq {c : Cell} (h : within c.n = true) : P145 c = some (showL c) := by
  simp only [P145, S145, P159_eq h, bno_s, showL]
  rw [br_dec]
  split
  · rfl
  · rw [br_dec]
    split <;> rfl
theorem P149_eq (s : ByteArray) : ∃ c k, P149 s = some (c, k) ∧ parseC s = (c, errOf k) := by
  simp only [P149, S149, P161_eq, bno_s]
  unfold parseC
  by_cases h1 : s = ⟨#[45]⟩
  · exact ⟨_, _, by rw [br_dec, if_pos h1], by rw [if_pos h1]; rfl⟩
  by_cases h2 : s = ⟨#[35]⟩
  · exact ⟨_, _, by rw [br_dec, if_neg h1, br_dec, if_pos h2], by rw [if_neg h1, if_pos h2]; rfl⟩
  rw [br_dec, if_neg h1, br_dec, if_neg h2, if_neg h1, if_neg h2]
  rcases rint_or s with h | ⟨n, h⟩
  · rw [h]
    refine ⟨⟨0, 0⟩, 2, rfl, ?_⟩
    rw [if_neg]
    · rfl
    · intro hi
      have := int_rint (s := s) (n := (intL s 15).1) (by rw [← hi])
      rw [h] at this
      simp at this
  · have hi := rint_int h
    rw [h, hi]
    simp only [Bool.not_true, br_false, if_true]
    by_cases hw : within n = true
    · have hw' := hw
      simp only [within, Bool.and_eq_true, decide_eq_true_eq] at hw'
      refine ⟨⟨1, n⟩, 0, ?_, ?_⟩
      · rw [br_dec, if_neg (by omega)]
        simp only [inlO_s, jn_l]
        rw [br_dec, if_neg (by omega)]
      · rw [if_pos hw]; rfl
    · have hw' := hw
      simp only [within, Bool.and_eq_true, decide_eq_true_eq] at hw'
      refine ⟨⟨0, 0⟩, 1, ?_, ?_⟩
      · by_cases h5 : n < -1000000000000
        · rw [br_dec, if_pos h5]; rfl
        · rw [br_dec, if_neg h5]
          simp only [inlO_s, jn_l]
          rw [br_dec, if_pos (by omega)]
      · rw [if_neg hw]; rfl
theorem P92_if (p : Prop) [Decidable p] : P92 (if p then .no 1 else .nil) (if p then 1 else 0) = some true := by by_cases h : p <;> simp [h]
theorem p121 (a b : Cell) (n : Int) (s : ByteArray) (hs : s.size ≤ 281474976710656) : P121 a b n s = some true := by
  obtain ⟨c, k, h149, hp⟩ := P149_eq s
  have p92 : ∀ c : Cell, (P92 (cboth a b c).2 (if badC a then 1 else if badC b then 1 else 0)) = some true := by
    intro c
    unfold cboth
    by_cases h1 : badC a <;> by_cases h2 : badC b <;> simp [h1, h2]
  simp only [P121, S121, P144_eq, P52_eq, bno_s, P92_if, P9_eq, P10_eq, P11_eq, P12_eq, P146_eq, P138_eq hs, h149, hp, P92_errOf, P8_eq, P150_eq, decide_true, br_true]
  by_cases ha : badC a
  · have e139 : ∃ e, P139 a = some (⟨#[]⟩, .no 1) := ⟨0, by
      cases hw : within a.n with
      | true => rw [P139_eq a hw, if_pos ha]
      | false => exact P139_bad a hw⟩
    obtain ⟨_, e139⟩ := e139
    simp [ha, e139, cboth]
  · have hwa : within a.n = true := by simp only [badC, not_or] at ha; simpa using ha.2.2.1
    have e139 := P139_eq a hwa
    rw [if_neg ha] at e139
    have e139' : P139 a = some (showL a, .nil) := by
      rw [e139]
      unfold showL
      split
      · rfl
      · split <;> rfl
    by_cases hb : badC b
    · simp [ha, hb, e139', P145_eq hwa, cboth]
    · have hwb : within b.n = true := by simp only [badC, not_or] at hb; simpa using hb.2.2.1
      simp [ha, hb, e139', P145_eq hwa, cboth, P147_eq hwa hwb, P148_eq hwa hwb]
end Ab
