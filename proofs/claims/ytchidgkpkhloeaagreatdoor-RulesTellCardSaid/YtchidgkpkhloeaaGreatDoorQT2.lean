/-
  Plain laws: what the functions of package tallyref1 come to, of trees.
-/
import Derived.Test.YtchidgkpkhloeaaGreatDoorQR
namespace Ab
open Go
set_option linter.unusedVariables false
set_option linter.unusedSimpArgs false
theorem P100_eq {d : Dim} (hl : d.members.length ≤ 1000) (i : Int) : P100 d i = some (partsOf d.members i) := by
  simp only [P100, S100, lp_eq]
  rw [idxs_loop (isPart d.members i) d.members.length (fun k acc hk ha => ?_) (fun acc => by simp [S100_L1])]
  · rfl
  · have e : ((k : Nat) : Int) < ((d.members.length : Nat) : Int) := by omega
    have hr : acc.length + 1 ≤ roomA := by unfold roomA; omega
    simp only [S100_L1, e, decide_true, br_true, lookI_nat, List.getElem?_eq_getElem hk, bno_s, isPart, List.length_singleton, ck_pos hr, inlO_s, nxO_s]
    rw [wiid (by omega) (by omega)]
    by_cases h : (d.members[k]).parent = i <;> simp [h]
end Ab
