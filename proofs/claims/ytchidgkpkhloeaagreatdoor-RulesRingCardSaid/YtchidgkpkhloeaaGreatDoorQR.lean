/-
  Plain laws: what the functions of package tallyref1 come to (names, dims, outlines, trees).
-/
import Derived.Test.YtchidgkpkhloeaaGreatDoorC3
import Derived.Test.YtchidgkpkhloeaaGreatDoorQT
namespace Ab
open Go
set_option linter.unusedVariables false
set_option linter.unusedSimpArgs false
theorem P97_eq (s : ByteArray) : P97 s = some (if nameBad s = true then 2 else 0) := by
  by_cases h1 : s = ⟨#[]⟩
  · subst h1; simp [P97, S97, nameBad]
  by_cases h2 : 8 < s.size
  · have : (8 : Int) < ((s.size : Nat) : Int) := by omega
    simp [P97, S97, nameBad, h1, h2, this]
  have h3 : ¬ (8 : Int) < ((s.size : Nat) : Int) := by omega
  have hsz : s.data.toList.length = s.size := rfl
  simp only [P97, S97, h1, h3, decide_false, br_false, inlO_s, jn_l]
  rw [any_loop (fun c : UInt8 => decide (c.toNat < 97) || decide (122 < c.toNat)) s.data.toList 2 0 (fun i y hy => ?_) (by rw [hsz]; simp [S97_L1])]
  · simp [nameBad, h1, h2]
  · have hi := (List.getElem?_eq_some_iff.1 hy).1
    have e : ((i : Nat) : Int) < ((s.size : Nat) : Int) := by omega
    simp only [S97_L1, e, decide_true, br_true, lookI_nat, hy, bno_s]
    rw [wiid (by omega) (by omega)]
    have e1 : ((y.toNat : Nat) : Int) < 97 ↔ y.toNat < 97 := by omega
    have e2 : 122 < ((y.toNat : Nat) : Int) ↔ 122 < y.toNat := by omega
    by_cases c1 : y.toNat < 97 <;> by_cases c2 : 122 < y.toNat <;> simp [e1, e2, c1, c2]
end Ab
