/-
  Plain laws: the document's numerals (Digits) beside strconv's.
-/
import Derived.Test.YtcabflannjeigaaGreatDoorMRc
import Derived.Test.YtcabflannjeigaaGreatDoorC8
import Derived.Lib.Atoi
namespace Ab
open Go
set_option linter.unusedVariables false
set_option linter.unusedSimpArgs false

theorem dec_lit : ∀ i : Fin 10, ByteArray.extract ⟨#[48, 49, 50, 51, 52, 53, 54, 55, 56, 57]⟩ i.val (i.val + 1) = ⟨#[UInt8.ofNat (48 + i.val)]⟩ := by decide +kernel
theorem dec_lit' {d : Nat} (h : d < 10) : ByteArray.extract ⟨#[48, 49, 50, 51, 52, 53, 54, 55, 56, 57]⟩ d (d + 1) = ⟨#[UInt8.ofNat (48 + d)]⟩ := dec_lit ⟨d, h⟩
def decB (u : Nat) : ByteArray := ⟨(Lib.decDigits u).toArray⟩
theorem decB_app (l r : List UInt8) : (⟨l.toArray⟩ : ByteArray) ++ (⟨r.toArray⟩ : ByteArray) = ⟨(l ++ r).toArray⟩ := by
  apply ByteArray.ext
  simp [ByteArray.data_append]
theorem decB_size (u : Nat) : (decB u).size = (Lib.decDigits u).length := by simp [decB, ByteArray.size]
theorem litsize : ByteArray.size ⟨#[48, 49, 50, 51, 52, 53, 54, 55, 56, 57]⟩ = 10 := by decide +kernel
theorem P159n_eq : ∀ (k u : Nat), u < 10 ^ (k + 1) → k ≤ 18 → P159n (k + 1) (u : Int) = some (decB u) := by
  intro k
  induction k with
  | zero =>
    intro u hu _
    have h10 : u < 10 := by simpa using hu
    have e1 : wi ((u : Int) + 1) = ((u + 1 : Nat) : Int) := by rw [wiid (by omega) (by omega)]; omega
    simp only [P159n, S159]
    rw [br_dec, if_neg (by omega), br_dec, if_pos (by omega), e1, ck_pos (by rw [litsize]; omega)]
    simp only [Int.toNat_natCast]
    rw [dec_lit' h10]
    simp [decB, Lib.decDigits_one h10]
  | succ k ih =>
    intro u hu hk
    by_cases h10 : u < 10
    · have e1 : wi ((u : Int) + 1) = ((u + 1 : Nat) : Int) := by rw [wiid (by omega) (by omega)]; omega
      simp only [P159n, S159]
      rw [br_dec, if_neg (by omega), br_dec, if_pos (by omega), e1, ck_pos (by rw [litsize]; omega)]
      simp only [Int.toNat_natCast]
      rw [dec_lit' h10]
      simp [decB, Lib.decDigits_one h10]
    · have hu' : u < 10 ^ 19 := Nat.lt_of_lt_of_le hu (Nat.pow_le_pow_right (by omega) (by omega))
      have e1 : Int.tdiv (u : Int) 10 = ((u / 10 : Nat) : Int) := by rw [Int.tdiv_eq_ediv_of_nonneg (by omega)]; omega
      have e2 : Int.tmod (u : Int) 10 = ((u % 10 : Nat) : Int) := by rw [Int.tmod_eq_emod_of_nonneg (by omega)]; omega
      have e3 : wi (((u / 10 : Nat) : Int)) = ((u / 10 : Nat) : Int) := wiid (by omega) (by omega)
      have e4 : wi (((u % 10 : Nat) : Int) + 1) = ((u % 10 + 1 : Nat) : Int) := by rw [wiid (by omega) (by omega)]; omega
      have hd : u / 10 < 10 ^ (k + 1) := by rw [Nat.pow_succ] at hu; omega
      have i1 := ih (u / 10) hd (by omega)
      have hlen := dec_len k (u / 10) hd
      have hm : u % 10 < 10 := by omega
      rw [P159n]
      simp only [S159]
      rw [br_dec, if_neg (by omega), br_dec, if_neg (by omega), ck_pos (by omega), ck_pos (by omega), e1, e2, e3, e4, i1, bno_s, ck_pos (by rw [litsize]; omega)]
      simp only [Int.toNat_natCast]
      rw [ck_pos (by rw [dec_lit' hm, decB_size]; simp [ByteArray.size]; omega), dec_lit' hm]
      have : Lib.decDigits u = Lib.decDigits (u / 10) ++ [UInt8.ofNat (48 + u % 10)] := by rw [Lib.decDigits, dif_neg h10]
      unfold decB
      rw [this, show (⟨#[UInt8.ofNat (48 + u % 10)]⟩ : ByteArray) = ⟨[UInt8.ofNat (48 + u % 10)].toArray⟩ from rfl, decB_app]
theorem P159_nat {u : Nat} (h : u < 10 ^ 18) : P159n 29 (u : Int) = some (decB u) := by
  -- a depth beyond what is needed changes nothing
  have mono : ∀ (k : Nat) (x : Int) (y : ByteArray), P159n k x = some y → P159n (k + 1) x = some y := by
    intro k
    induction k with
    | zero => intro x y hy; cases hy
    | succ k ih =>
      intro x y hy
      rw [P159n] at hy ⊢
      simp only [S159] at hy ⊢
      rw [br_dec] at hy ⊢
      split
      · rename_i c
        rw [if_pos c] at hy
        cases hq : P159n k (wi (0 - x)) with
        | none => rw [hq] at hy; cases hy
        | some z => rw [hq] at hy; rw [ih _ _ hq]; exact hy
      · rename_i c
        rw [if_neg c] at hy
        rw [br_dec] at hy ⊢
        split
        · rename_i c2
          rw [if_pos c2] at hy; exact hy
        · rename_i c2
          rw [if_neg c2, ck_pos (by omega), ck_pos (by omega)] at hy
          rw [ck_pos (by omega), ck_pos (by omega)]
          cases hq : P159n k (wi (Int.tdiv x 10)) with
          | none => rw [hq] at hy; cases hy
          | some z => rw [hq] at hy; rw [ih _ _ hq]; exact hy
  have mono2 : ∀ (j k : Nat) (x : Int) (y : ByteArray), P159n k x = some y → P159n (k + j) x = some y := by
    intro j
    induction j with
    | zero => intro k x y h; exact h
    | succ j ih => intro k x y h; exact mono _ _ _ (ih k x y h)
  exact mono2 11 18 _ _ (P159n_eq 17 u h (by omega))
theorem P159_eq {n : Int} (h : within n = true) : P159 n = some (itoaB n) := by
  simp only [within, Bool.and_eq_true, decide_eq_true_eq] at h
  unfold P159
  rw [show P159n 30 n = S159 (P159n 29) n from rfl]
  by_cases hn : n < 0
  · have e : wi (0 - n) = ((n.natAbs : Nat) : Int) := by rw [wiid (by omega) (by omega)]; omega
    have hb : n.natAbs < 10 ^ 18 := by omega
    have hl := dec_len 17 n.natAbs hb
    simp only [S159]
    rw [br_dec, if_pos hn, e, P159_nat hb, bno_s, ck_pos (by rw [decB_size]; simp [ByteArray.size]; omega)]
    unfold itoaB decB Lib.itoa
    rw [if_pos hn, show (⟨#[45]⟩ : ByteArray) = ⟨[45].toArray⟩ from rfl, decB_app]
    rfl
  · obtain ⟨u, rfl⟩ : ∃ u : Nat, n = (u : Int) := ⟨n.toNat, by omega⟩
    have hb : u < 10 ^ 18 := by omega
    have h30 : P159n 30 (u : Int) = some (decB u) := by
      have := P159_nat hb
      have e : P159n 30 (u : Int) = S159 (P159n 29) (u : Int) := rfl
      rw [e]
      simp only [S159]
      rw [br_dec, if_neg (by omega), br_dec]
      have e29 : P159n 29 (u : Int) = S159 (P159n 28) (u : Int) := rfl
      rw [e29] at this
      simp only [S159] at this
      rw [br_dec, if_neg (by omega), br_dec] at this
      split
      · rename_i c; rw [if_pos c] at this; exact this
      · rename_i c
        have e1 : Int.tdiv (u : Int) 10 = ((u / 10 : Nat) : Int) := by rw [Int.tdiv_eq_ediv_of_nonneg (by omega)]; omega
        have e3 : wi (((u / 10 : Nat) : Int)) = ((u / 10 : Nat) : Int) := wiid (by omega) (by omega)
        have e2 : Int.tmod (u : Int) 10 = ((u % 10 : Nat) : Int) := by rw [Int.tmod_eq_emod_of_nonneg (by omega)]; omega
        have e4 : wi (((u % 10 : Nat) : Int) + 1) = ((u % 10 + 1 : Nat) : Int) := by rw [wiid (by omega) (by omega)]; omega
        have hl := dec_len 17 (u / 10) (by omega)
        have h10 : ¬ u < 10 := by omega
        rw [ck_pos (by omega), ck_pos (by omega), e1, e2, e3, e4, P159_nat (by omega), bno_s, ck_pos (by rw [litsize]; omega)]
        simp only [Int.toNat_natCast]
        have hm : u % 10 < 10 := by omega
        rw [ck_pos (by rw [dec_lit' hm, decB_size]; simp [ByteArray.size]; omega), dec_lit' hm]
        have : Lib.decDigits u = Lib.decDigits (u / 10) ++ [UInt8.ofNat (48 + u % 10)] := by rw [Lib.decDigits, dif_neg h10]
        unfold decB
        rw [this, show (⟨#[UInt8.ofNat (48 + u % 10)]⟩ : ByteArray) = ⟨[UInt8.ofNat (48 + u % 10)].toArray⟩ from rfl, decB_app]
    rw [show S159 (P159n 29) (u : Int) = P159n 30 (u : Int) from rfl, h30]
    unfold itoaB decB Lib.itoa
    rw [if_neg hn]
    rfl
end Ab
