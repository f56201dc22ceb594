/-
  Plain law: rules as the document says them.
-/
import Derived.Test.YtchidgkpkhloeaaGreatDoorW306
import Derived.Test.YtchidgkpkhloeaaGreatDoorF4
import Derived.Test.YtchidgkpkhloeaaGreatDoorQS
namespace Ab
open Go
set_option linter.unusedVariables false
set_option linter.unusedSimpArgs false
theorem P323_all (d : Dim) (i : Int) : P323 d i = some (if (rulesE d).2 = 0 then (if i < 0 ∨ (d.members.length : Int) ≤ i then ([], .no 1) else (needN d i.toNat, .nil)) else ([], errOf (rulesE d).2)) := by
  by_cases h : (rulesE d).2 = 0
  · rw [if_pos h]
    by_cases c : i < 0 ∨ (d.members.length : Int) ≤ i
    · rw [if_pos c]
      simp only [P323, S323, P340_eq, bno_s, errOf_nil]
      rw [if_pos h, decide_eq_true h, br_dec]
      simp only [Bool.not_true, br_false]
      by_cases c1 : i < 0
      · rw [if_pos c1]; rfl
      · rw [if_neg c1, allN_len, decide_eq_true (by omega)]; rfl
    · rw [if_neg c]
      obtain ⟨k, rfl⟩ : ∃ k : Nat, i = k := ⟨i.toNat, by omega⟩
      rw [P323_eq h (by omega), Int.toNat_natCast]
  · rw [if_neg h]
    simp only [P323, S323, P340_eq, bno_s, errOf_nil]
    rw [decide_eq_false h]
    rfl
theorem P306_true (o : List Dim) (d : Dim) (i : Int) : P306 o d i = some true := by
  simp only [P306, S306, P319_eq, P320_eq, P321_eq, P315_eq, P316_eq, P323_all, bno_s, P92_errOf, decide_true]
  by_cases h : (rulesE d).2 = 0
  · obtain ⟨hl, hr, ha⟩ := rules_zero h
    have hcl : (castL (behindL (allN d))).length ≤ 12 := by
      unfold castL
      rw [List.length_map, (behindL_ok hr ha).2, allN_len]
      exact hl
    have hnl := needN_len hl i.toNat
    rw [if_pos h, if_pos h, if_pos h, decide_eq_true h, P322_eq hr (by rw [allN_len]; omega) (fun i => Nat.le_trans (allN_w hl i) (by omega)) ha]
    simp only [bno_s, br_true, inlO_s, jn_l, P104_eq (castL (behindL (allN d))) _ (by omega), decide_true, h]
    by_cases c : i < 0 ∨ (d.members.length : Int) ≤ i
    · have e : (br (decide (i < 0)) (some (Sum.inl true : Sum Bool Bool)) (some (.inl (decide ((((allN d).length : Nat) : Int) ≤ i))))) = some (.inl true) := by
        rw [br_dec]
        by_cases c1 : i < 0
        · rw [if_pos c1]
        · rw [if_neg c1, allN_len, decide_eq_true (by omega)]
      rw [e, if_pos c]
      simp only [jn_l, br_true, bno_s, P92_no, decide_true, P104_eq [] _ (by simp)]
    · have e : (br (decide (i < 0)) (some (Sum.inl true : Sum Bool Bool)) (some (.inl (decide ((((allN d).length : Nat) : Int) ≤ i))))) = some (.inl false) := by
        rw [br_dec, if_neg (fun h => c (.inl h)), allN_len, decide_eq_false (fun h => c (.inr h))]
      obtain ⟨k, rfl⟩ : ∃ k : Nat, i = k := ⟨i.toNat, by omega⟩
      rw [e, if_neg c, lookI_nat, allN_get (by omega)]
      simp only [Int.toNat_natCast] at hnl ⊢
      simp only [jn_l, br_false, br_true, bno_s, inlO_s, P92_nil, decide_true, P104_eq (needN d k) _ (by omega)]
  · rw [if_neg h, if_neg h, if_neg h, decide_eq_false h]
    simp only [br_false, inlO_s, jn_l, P92_errOf, decide_true, P104_eq [] _ (show ([] : List Int).length ≤ 9223372036854775807 by simp), bno_s, br_true]
end Ab
