/-
  Plain laws: what the functions of package cell come to.
-/
import Derived.Test.YtchidgkpkhloeaaGreatDoorMC
import Derived.Test.YtchidgkpkhloeaaGreatDoorTP
namespace Ab
open Go
set_option linter.unusedVariables false
def within (n : Int) : Bool := decide (-1000000000000 ≤ n) && decide (n ≤ 1000000000000)
def cellOf (n : Int) : Cell := if within n then ⟨1, n⟩ else ⟨2, 0⟩
def cplus (a b : Cell) (s : Int) : Cell := if a.k = 2 ∨ b.k = 2 then ⟨2, 0⟩ else if a.k = 0 ∧ b.k = 0 then ⟨0, 0⟩ else cellOf (wi (a.n + wi (s * b.n)))
def badC (c : Cell) : Prop := c.k < 0 ∨ 2 < c.k ∨ within c.n = false ∨ (¬ c.k = 1 ∧ ¬ c.n = 0)
instance (c : Cell) : Decidable (badC c) := by unfold badC; infer_instance
def ctimes (a b : Cell) : Cell := if a.k = 2 ∨ b.k = 2 then ⟨2, 0⟩ else if a.k = 0 ∨ b.k = 0 then ⟨0, 0⟩ else if ¬ a.n = 0 ∧ wi (Int.tdiv 1000000000000 (maxT a.n (wi (-a.n)))) < maxT b.n (wi (-b.n)) then ⟨2, 0⟩ else cellOf (wi (a.n * b.n))
def cover (a b : Cell) : Cell := if a.k = 2 ∨ b.k = 2 then ⟨2, 0⟩ else if a.k = 0 ∨ b.k = 0 then ⟨0, 0⟩ else if b.n = 0 then ⟨2, 0⟩ else cellOf (wi (Int.tdiv a.n b.n))
@[simp] theorem P30_eq (n : Int) : P30 n = some (within n) := by
  simp [P30, S30, within]
@[simp] theorem P8_eq (n : Int) : P8 n = some (cellOf n) := by
  simp [P8, S8, cellOf]
  cases within n <;> rfl
@[simp] theorem P33_eq (a b : Cell) (s : Int) : P33 a b s = some (cplus a b s) := by
  simp [P33, S33, cplus, br_eq]
  repeat' split
  all_goals first | rfl | (simp_all; done)
@[simp] theorem P52_eq (c : Cell) : P52 c = some (if badC c then .no 1 else .nil) := by
  by_cases h1 : c.k < 0
  · simp [P52, S52, badC, h1]
  by_cases h2 : 2 < c.k
  · simp [P52, S52, badC, h2]
  by_cases h3 : within c.n = true
  · by_cases h4 : c.k = 1
    · simp [P52, S52, badC, h3, h4]
    · have e : br (decide (¬ c.n = 0)) (some (Err.no 1)) (some Err.nil) = some (if ¬ c.n = 0 then Err.no 1 else Err.nil) := by rw [br_dec]; split <;> rfl
      simp [P52, S52, badC, h1, h2, h3, h4]
      by_cases h5 : c.n = 0
      · simp [h5]
      · simp [h5]
  · simp [P52, S52, badC, h1, h2, h3]
@[simp] theorem P62_eq (n : Int) : P62 n = some (maxT n (wi (-n))) := by simp [P62, S62]
theorem size_eq {n : Int} (h : within n = true) : maxT n (wi (-n)) = if n < 0 then -n else n := by
  simp only [within, Bool.and_eq_true, decide_eq_true_eq] at h
  rw [wiid (by omega) (by omega)]
  unfold maxT
  split <;> split <;> omega
theorem P34_eq {a : Cell} (b : Cell) (ha : within a.n = true) : P34 a b = some (ctimes a b) := by
  by_cases h : a.n = 0
  · simp [P34, S34, ctimes, br_eq, h]
    repeat' split
    all_goals first | rfl | (simp_all; done)
  · have h' : ¬ maxT a.n (wi (-a.n)) = 0 := by rw [size_eq ha]; split <;> omega
    simp [P34, S34, ctimes, br_eq, h, h']
    repeat' split
    all_goals first | rfl | (simp_all; done)
@[simp] theorem P35_eq (a b : Cell) : P35 a b = some (cover a b) := by
  by_cases h : b.n = 0
  · simp [P35, S35, cover, br_eq, h]
    repeat' split
    all_goals first | rfl | (simp_all; done)
  · simp [P35, S35, cover, br_eq, h]
    repeat' split
    all_goals first | rfl | (simp_all; done)
def cboth (a b c : Cell) : Cell × Err := if badC a ∨ badC b then (⟨0, 0⟩, .no 1) else (c, .nil)
@[simp] theorem P9_eq (a b : Cell) : P9 a b = some (cboth a b (cplus a b 1)) := by
  by_cases h1 : badC a <;> by_cases h2 : badC b <;> simp [P9, S9, P31_32, S31_32, P32, S32, cboth, h1, h2]
@[simp] theorem P12_eq (a b : Cell) : P12 a b = some (cboth a b (cplus a b (-1))) := by
  by_cases h1 : badC a <;> by_cases h2 : badC b <;> simp [P12, S12, P31_36, S31_36, P36, S36, cboth, h1, h2]
@[simp] theorem P10_eq (a b : Cell) : P10 a b = some (cboth a b (ctimes a b)) := by
  by_cases h1 : badC a <;> by_cases h2 : badC b <;> simp [P10, S10, P31_34, S31_34, cboth, h1, h2]
  rw [P34_eq b (by simp only [badC, not_or] at h1; simpa using h1.2.2.1)]
  rfl
@[simp] theorem P11_eq (a b : Cell) : P11 a b = some (cboth a b (cover a b)) := by
  by_cases h1 : badC a <;> by_cases h2 : badC b <;> simp [P11, S11, P31_35, S31_35, cboth, h1, h2]
end Ab
