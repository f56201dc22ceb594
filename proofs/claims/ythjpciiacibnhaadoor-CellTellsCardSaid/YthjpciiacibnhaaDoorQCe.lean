/-
  Plain laws: a number as text, a text as a number; cells as text.
-/
import Derived.Test.YthjpciiacibnhaaDoorMCe
import Derived.Test.YthjpciiacibnhaaDoorQC
import Derived.Lib.AtoiAllCases
namespace Ab
open Go
set_option linter.unusedVariables false
set_option linter.unusedSimpArgs false

theorem dig_nat {d : Nat} (h : d < 10) : (UInt8.ofNat (48 + d)).toNat = 48 + d := by
  rw [UInt8.toNat_ofNat']
  omega
theorem dec_digit : ∀ (u : Nat), ∀ c ∈ Lib.decDigits u, 48 ≤ c.toNat ∧ c.toNat ≤ 57 := by
  intro u
  induction u using Nat.strongRecOn with
  | _ u ih =>
    intro c hc
    rw [Lib.decDigits] at hc
    split at hc
    · rename_i h
      rw [List.mem_singleton] at hc
      subst hc
      rw [dig_nat h]
      omega
    · rename_i h
      rcases List.mem_append.1 hc with hc | hc
      · exact ih (u / 10) (by omega) c hc
      · rw [List.mem_singleton] at hc
        subst hc
        rw [dig_nat (by omega)]
        omega
theorem dec_ne (u : Nat) : Lib.decDigits u ≠ [] := by
  rw [Lib.decDigits]
  split <;> simp
theorem dec_len : ∀ (k u : Nat), u < 10 ^ (k + 1) → (Lib.decDigits u).length ≤ k + 1 := by
  intro k
  induction k with
  | zero =>
    intro u h
    rw [Lib.decDigits, dif_pos (by omega)]
    simp
  | succ k ih =>
    intro u h
    rw [Lib.decDigits]
    split
    · simp
    · have := ih (u / 10) (by rw [Nat.pow_succ] at h; omega)
      simp only [List.length_append, List.length_singleton]
      omega
theorem parse_dec (u : Nat) : u < 1000000000000000000 → ∀ r : List UInt8, Lib.parseUint10 0 (Lib.decDigits u ++ r) = Lib.parseUint10 u r := by
  induction u using Nat.strongRecOn with
  | _ u ih =>
    intro hu r
    rw [Lib.decDigits]
    split
    · rename_i h
      simp only [List.singleton_append, Lib.parseUint10, dig_nat h]
      rw [if_pos (by omega), if_neg (by omega), if_neg (by omega)]
      congr 1
      omega
    · rename_i h
      rw [List.append_assoc, ih (u / 10) (by omega) (by omega)]
      have hd : u % 10 < 10 := by omega
      simp only [List.singleton_append, Lib.parseUint10, dig_nat hd]
      rw [if_pos (by omega), if_neg (by omega), if_neg (by omega)]
      congr 1
      omega
theorem mag_dec {u : Nat} (hu : u < 1000000000000000000) : Lib.parseMag (Lib.decDigits u) = .ok u := by
  unfold Lib.parseMag
  rw [if_neg (dec_ne u)]
  have := parse_dec u hu []
  rw [List.append_nil] at this
  rw [this]
  rfl
/-- What is written of a number is read as that. -/
theorem atoi_itoa {n : Int} (h : -1000000000000000000 < n ∧ n < 1000000000000000000) : Lib.atoiAll (Lib.itoa n) = .ok n := by
  unfold Lib.itoa
  split
  · rename_i hn
    have hm := mag_dec (u := n.natAbs) (by omega)
    simp only [Lib.atoiAll]
    have e : ((45 : UInt8).toNat = 43 ∨ (45 : UInt8).toNat = 45) := .inr rfl
    rw [if_pos e, hm]
    have e2 : (45 : UInt8).toNat = 45 := rfl
    simp only [e2, not_true, false_and, if_false, true_and, if_true]
    rw [if_neg (by omega)]
    congr 1
    omega
  · rename_i hn
    have hm := mag_dec (u := n.toNat) (by omega)
    cases hd : Lib.decDigits n.toNat with
    | nil => exact absurd hd (dec_ne _)
    | cons c r =>
      have hc := dec_digit n.toNat c (by rw [hd]; exact List.mem_cons_self)
      rw [hd] at hm
      have e1 : ¬ (c.toNat = 43 ∨ c.toNat = 45) := by omega
      have e2 : ¬ c.toNat = 45 := by omega
      simp only [Lib.atoiAll]
      rw [if_neg e1, hm]
      simp only [e2, not_false_eq_true, true_and, false_and, if_false]
      rw [if_neg (by omega)]
      congr 1
      omega
def itoaB (n : Int) : ByteArray := ⟨(Lib.itoa n).toArray⟩
theorem itoaB_list (n : Int) : (itoaB n).data.toList = Lib.itoa n := by simp [itoaB]
theorem itoaB_size (n : Int) : (itoaB n).size = (Lib.itoa n).length := by simp [itoaB, ByteArray.size]
theorem itoa_len {n : Int} (h : within n = true) : (Lib.itoa n).length ≤ (if n < 0 then 14 else 13) ∧ 1 ≤ (Lib.itoa n).length := by
  simp only [within, Bool.and_eq_true, decide_eq_true_eq] at h
  unfold Lib.itoa
  split
  · have := dec_len 12 n.natAbs (by omega)
    simp only [List.length_cons]
    omega
  · have := dec_len 12 n.toNat (by omega)
    have h2 : 1 ≤ (Lib.decDigits n.toNat).length := by
      cases hd : Lib.decDigits n.toNat with
      | nil => exact absurd hd (dec_ne _)
      | cons c r => simp
    omega
theorem itoaB_dash (n : Int) : itoaB n ≠ ⟨#[45]⟩ ∧ itoaB n ≠ ⟨#[35]⟩ := by
  have key : ∀ c : UInt8, (c.toNat = 45 ∨ c.toNat = 35) → itoaB n ≠ ⟨#[c]⟩ := by
    intro c hc e
    have e2 : Lib.itoa n = [c] := by
      rw [← itoaB_list, e]
    unfold Lib.itoa at e2
    split at e2
    · have := dec_ne n.natAbs
      simp at e2
      exact this e2.2
    · have := dec_digit n.toNat c (by rw [e2]; exact List.mem_singleton.2 rfl)
      omega
  exact ⟨key 45 (.inl rfl), key 35 (.inr rfl)⟩
theorem P157_eq {n : Int} (h : -9223372036854775808 ≤ n ∧ n ≤ 9223372036854775807) : P157 n = some (itoaB n) := by
  unfold P157; rw [ck_pos h]; rfl
theorem P139_eq (c : Cell) (h : within c.n = true) : P139 c = some (if badC c then (⟨#[]⟩, .no 1) else if c.k = 0 then (⟨#[45]⟩, .nil) else if c.k = 2 then (⟨#[35]⟩, .nil) else (itoaB c.n, .nil)) := by
  have hb : -9223372036854775808 ≤ c.n ∧ c.n ≤ 9223372036854775807 := by
    simp only [within, Bool.and_eq_true, decide_eq_true_eq] at h; omega
  simp only [P139, S139, P52_eq, bno_s, P157_eq hb]
  by_cases h1 : badC c
  · simp [h1]
  · by_cases h2 : c.k = 0
    · simp [h1, h2]
    · by_cases h3 : c.k = 2 <;> simp [h1, h2, h3]
theorem P139_bad (c : Cell) (h : within c.n = false) : P139 c = some (⟨#[]⟩, .no 1) := by
  have hb : badC c := .inr (.inr (.inl h))
  simp [P139, S139, hb]
/-- A text as a number: of at most so many digits, as it would be written. -/
def intL (s : ByteArray) (most : Int) : Int × Bool :=
  ((atoiV s).1, match Lib.atoiAll s.data.toList with | .ok v => decide ((if v < 0 then ((s.size : Nat) : Int) - 1 else ((s.size : Nat) : Int)) ≤ most) && decide (itoaB v = s) | _ => false)
theorem P156_eq {s : ByteArray} (h : s.size ≤ 281474976710656) (most : Int) : P156 s most = some (intL s most) := by
  have h167 : P167 s = some (atoiV s) := by unfold P167; rw [ck_pos h]
  simp only [P156, S156, h167, bno_s]
  rw [wiid (n := ((s.size : Nat) : Int) - 1) (by omega) (by omega)]
  unfold intL
  cases hv : Lib.atoiAll s.data.toList with
  | ok v =>
    have e : atoiV s = (v, .nil) := by unfold atoiV; rw [hv]
    have hb := Lib.atoiAll_bounds hv
    simp only [e, P157_eq hb, nil_isNil, br_true, bno_s]
    by_cases h1 : v < 0
    · by_cases h2 : ((s.size : Nat) : Int) - 1 ≤ most <;> simp [h1, h2]
    · by_cases h2 : ((s.size : Nat) : Int) ≤ most <;> simp [h1, h2]
  | range =>
    have e : atoiV s = (Lib.atoiSat s.data.toList, .oth 4) := by unfold atoiV; rw [hv]
    by_cases h1 : Lib.atoiSat s.data.toList < 0 <;> simp [e, h1, Err.isNil]
  | _ =>
    have e : atoiV s = (0, .oth 4) := by unfold atoiV; rw [hv]
    simp [e, Err.isNil]
def parseC (s : ByteArray) : Cell × Err :=
  if s = ⟨#[45]⟩ then (⟨0, 0⟩, .nil) else if s = ⟨#[35]⟩ then (⟨2, 0⟩, .nil) else if (intL s 15).2 = true then (if within (intL s 15).1 = true then (⟨1, (intL s 15).1⟩, .nil) else (⟨0, 0⟩, .no 1)) else (⟨0, 0⟩, .no 2)
theorem P138_eq {s : ByteArray} (h : s.size ≤ 281474976710656) : P138 s = some (parseC s) := by
  simp only [P138, S138, P156_eq h, bno_s, P30_eq, P8_eq]
  unfold parseC
  by_cases h1 : s = ⟨#[45]⟩
  · simp [h1]
  · by_cases h2 : s = ⟨#[35]⟩
    · simp [h1, h2]
    · cases h3 : (intL s 15).2 with
      | false => simp [h1, h2]
      | true =>
        cases h4 : within (intL s 15).1 with
        | false => simp [h1, h2]
        | true => simp [h1, h2, cellOf, h4]
theorem int_self {n : Int} (h : within n = true) : intL (itoaB n) 15 = (n, true) := by
  have hw := h
  simp only [within, Bool.and_eq_true, decide_eq_true_eq] at h
  have ha := atoi_itoa (n := n) (by omega)
  have hl := (itoa_len hw).1
  have e : atoiV (itoaB n) = (n, .nil) := by unfold atoiV; rw [itoaB_list, ha]
  unfold intL
  rw [e, itoaB_list, ha]
  simp only [decide_true, Bool.and_true]
  congr 1
  rw [itoaB_size]
  simp only [decide_eq_true_eq]
  split
  · rename_i hn; rw [if_pos hn] at hl; omega
  · rename_i hn; rw [if_neg hn] at hl; omega
theorem parse_itoa {n : Int} (h : within n = true) : parseC (itoaB n) = (⟨1, n⟩, .nil) := by
  unfold parseC
  rw [if_neg (itoaB_dash n).1, if_neg (itoaB_dash n).2, int_self h]
  simp [h]
/-- What is read is written as it was. -/
theorem parse_print {s : ByteArray} (h : (parseC s).2 = .nil) : P139 (parseC s).1 = some (s, .nil) := by
  unfold parseC at h ⊢
  by_cases h1 : s = ⟨#[45]⟩
  · subst h1
    rw [if_pos rfl, P139_eq _ (by decide)]
    simp [badC, within]
  · rw [if_neg h1] at h ⊢
    by_cases h2 : s = ⟨#[35]⟩
    · subst h2
      rw [if_pos rfl, P139_eq _ (by decide)]
      simp [badC, within]
    · rw [if_neg h2] at h ⊢
      cases h3 : (intL s 15).2 with
      | false => simp [h3] at h
      | true =>
        cases h4 : within (intL s 15).1 with
        | false => simp [h3, h4] at h
        | true =>
          have hs : itoaB (intL s 15).1 = s := by
            unfold intL at h3 ⊢
            cases hv : Lib.atoiAll s.data.toList with
            | ok v =>
              rw [hv] at h3
              simp only [Bool.and_eq_true, decide_eq_true_eq] at h3
              have e : atoiV s = (v, .nil) := by unfold atoiV; rw [hv]
              simp only [e]
              exact h3.2
            | range => rw [hv] at h3; cases h3
            | _ => rw [hv] at h3; cases h3
          simp only [if_true, h4]
          rw [P139_eq _ h4]
          simp [badC, h4, hs]
end Ab
