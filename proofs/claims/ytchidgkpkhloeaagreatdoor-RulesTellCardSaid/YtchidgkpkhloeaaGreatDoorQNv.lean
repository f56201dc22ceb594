/-
  Plain laws: a number that is read digit by digit is the one that strconv reads.
-/
import Derived.Test.YtchidgkpkhloeaaGreatDoorF2
namespace Ab
open Go
set_option linter.unusedVariables false
set_option linter.unusedSimpArgs false
def nvN (s : ByteArray) (a : Nat) : Nat → Nat
  | 0 => 0
  | k + 1 => nvN s a k * 10 + (pk s (a + k) - 48)
theorem nvN_lt {s : ByteArray} {a : Nat} : ∀ (k : Nat), (∀ j, j < k → dgB (pk s (a + j)) = true) → nvN s a k < 10 ^ k
  | 0, _ => by show 0 < 1; decide
  | k + 1, h => by
    have h1 := nvN_lt k fun j hj => h j (by omega)
    have h2 := h k (by omega)
    simp only [dgB, Bool.and_eq_true, decide_eq_true_eq] at h2
    simp only [nvN, Nat.pow_succ]
    omega
theorem uint_app : ∀ (ds : List UInt8) (acc k : Nat) (c : UInt8), (∀ c ∈ ds, 48 ≤ c.toNat ∧ c.toNat ≤ 57) → 48 ≤ c.toNat ∧ c.toNat ≤ 57 → acc < 10 ^ k → k + ds.length + 1 ≤ 15 → ∀ u, Lib.parseUint10 acc ds = .ok u → Lib.parseUint10 acc (ds ++ [c]) = .ok (u * 10 + (c.toNat - 48))
  | [], acc, k, c, _, hc, ha, hl, u, h => by
    have hp : (10 : Nat) ^ k ≤ 10 ^ 15 := Nat.pow_le_pow_right (by decide) (by simp at hl; omega)
    have hq : (10 : Nat) ^ 15 = 1000000000000000 := by decide
    simp only [Lib.parseUint10] at h
    injection h with h
    subst h
    simp only [List.nil_append, Lib.parseUint10]
    rw [if_pos hc, if_neg (by omega), if_neg (by omega)]
  | d :: r, acc, k, c, hd, hc, ha, hl, u, h => by
    obtain ⟨d1, d2⟩ := hd d (by simp)
    simp only [List.length_cons] at hl
    have hp : (10 : Nat) ^ k ≤ 10 ^ 15 := Nat.pow_le_pow_right (by decide) (by omega)
    have hs : (10 : Nat) ^ (k + 1) = 10 ^ k * 10 := Nat.pow_succ ..
    have hq : (10 : Nat) ^ 15 = 1000000000000000 := by decide
    simp only [List.cons_append, Lib.parseUint10] at h ⊢
    rw [if_pos ⟨d1, d2⟩, if_neg (by omega), if_neg (by omega)] at h ⊢
    exact uint_app r _ (k + 1) c (fun c hc => hd c (List.mem_cons_of_mem _ hc)) hc (by omega) (by omega) u h
theorem nv_uint {s : ByteArray} {a : Nat} : ∀ (k : Nat), k ≤ 14 → (∀ j, j < k → dgB (pk s (a + j)) = true) → Lib.parseUint10 0 (s.extract a (a + k)).data.toList = .ok (nvN s a k)
  | 0, _, _ => by
    rw [ext_list]
    simp [Lib.parseUint10, nvN]
  | k + 1, hk, h => by
    have ih := nv_uint k (by omega) fun j hj => h j (by omega)
    have hg := h k (by omega)
    have hlt := dg_lt hg
    obtain ⟨p1, p2⟩ := pk_at hlt
    have e : (s.extract a (a + (k + 1))).data.toList = (s.extract a (a + k)).data.toList ++ [s.data[a + k]'hlt] := by
      rw [ext_list, ext_list, show a + (k + 1) - a = k + 1 by omega, show a + k - a = k by omega, List.take_add_one, List.getElem?_drop, Array.getElem?_toList, p1]
      rfl
    have hdig : ∀ c ∈ (s.extract a (a + k)).data.toList, 48 ≤ c.toNat ∧ c.toNat ≤ 57 := fun c hc => by
      rw [ext_list, show a + k - a = k by omega] at hc
      obtain ⟨j, hj, rfl⟩ := List.getElem_of_mem hc
      have hj' : j < k := by
        rw [List.length_take] at hj
        omega
      have hd := h j (by omega)
      have hjl := dg_lt hd
      rw [(pk_at hjl).2] at hd
      simp only [List.getElem_take, List.getElem_drop, Array.getElem_toList]
      simpa [dgB] using hd
    have hc : 48 ≤ (s.data[a + k]'hlt).toNat ∧ (s.data[a + k]'hlt).toNat ≤ 57 := by
      rw [p2] at hg
      simpa [dgB] using hg
    have hlen : (s.extract a (a + k)).data.toList.length ≤ k := by
      rw [ext_list, List.length_take]
      omega
    rw [e, uint_app _ 0 0 _ hdig hc (by decide) (by omega) _ ih]
    simp only [nvN, p2]
theorem nv_atoi {s : ByteArray} {a k : Nat} (h0 : 0 < k) (hk : k ≤ 14) (h : ∀ j, j < k → dgB (pk s (a + j)) = true) : (atoiV (s.extract a (a + k))).1 = (nvN s a k : Int) := by
  have hu := nv_uint k hk h
  have hlt := nvN_lt k h
  have hd0 := h 0 h0
  rw [Nat.add_zero] at hd0
  have hl := dg_lt hd0
  obtain ⟨p1, p2⟩ := pk_at hl
  have e3 : (10 : Nat) ^ k ≤ 10 ^ 15 := Nat.pow_le_pow_right (by decide) (by omega)
  have e4 : (10 : Nat) ^ 15 = 1000000000000000 := by decide
  have e : ∃ r, (s.extract a (a + k)).data.toList = s.data[a]'hl :: r := by
    obtain ⟨m, rfl⟩ : ∃ m, k = m + 1 := ⟨k - 1, by omega⟩
    rw [ext_list, show a + (m + 1) - a = m + 1 by omega]
    rw [List.drop_eq_getElem_cons (by show a < s.size; exact hl), List.take_succ_cons]
    exact ⟨_, rfl⟩
  obtain ⟨r, hr⟩ := e
  rw [hr] at hu
  have hc : 48 ≤ (s.data[a]'hl).toNat ∧ (s.data[a]'hl).toNat ≤ 57 := by
    rw [p2] at hd0
    simpa [dgB] using hd0
  unfold atoiV
  have : Lib.atoiAll (s.extract a (a + k)).data.toList = .ok (nvN s a k : Int) := by
    rw [hr]
    simp only [Lib.atoiAll, Lib.parseMag]
    rw [if_neg (show ¬ ((s.data[a]'hl).toNat = 43 ∨ (s.data[a]'hl).toNat = 45) by omega), if_neg (by simp), hu]
    simp only
    rw [if_neg (by omega), if_neg (by omega), if_neg (by omega)]
  rw [this]
end Ab
