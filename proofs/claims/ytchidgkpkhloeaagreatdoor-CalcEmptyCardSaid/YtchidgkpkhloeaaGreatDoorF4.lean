import Derived.Test.YtchidgkpkhloeaaGreatDoorMRr
import Derived.Test.YtchidgkpkhloeaaGreatDoorE2
import Derived.Test.YtchidgkpkhloeaaGreatDoorQT2
section
namespace Ab
open Go
set_option linter.unusedVariables false
set_option linter.unusedSimpArgs false
section
variable {n : List (List Int)}
structure Bel (n : List (List Int)) (i : Nat) (A : List Int) : Prop where
  up : A.Pairwise (· < ·)
  rng : ∀ x ∈ A, 0 ≤ x ∧ x < n.length
  re : ∀ x ∈ A, Reach n i x.toNat
  one : ∀ x ∈ n.getD i [], x ∈ A
end
section
variable {d : Dim}
end
end Ab
end
section
namespace Ab
open Go
set_option linter.unusedVariables false
set_option linter.unusedSimpArgs false
section
variable {n : List (List Int)} (hr : Rng n) (hn : n.length ≤ 100000) (hw : ∀ i, (n.getD i []).length ≤ 100000)
include hr hn hw
end
noncomputable def ruleF (o : List Dim) (i : Nat) : Option (Int × Int × Int) := match o[i]? with
  | some d => if ¬ (rulesE d).2 = 0 then some ((i : Int), (rulesE d).1, (rulesE d).2) else none
  | none => none
noncomputable def allE (o : List Dim) : Int × Int × Int := if ¬ (outErr o).2.2 = 0 then outErr o else match (List.range o.length).findSome? (ruleF o) with
  | some r => r
  | none => (-1, -1, 0)
theorem ruleF_ne {o : List Dim} {i : Nat} {r : Int × Int × Int} (h : ruleF o i = some r) : ¬ r.2.2 = 0 := by
  unfold ruleF at h
  split at h
  · split at h
    · rename_i c
      cases h
      exact c
    · cases h
  · cases h
theorem P320_eq (o : List Dim) : P320 o = some ((allE o).1, (allE o).2.1, errOf (allE o).2.2) := by
  simp only [P320, S320, P14_eq, bno_s, errOf_nil]
  unfold allE
  by_cases h0 : (outErr o).2.2 = 0
  · obtain ok := out_ok.1 h0
    have hl := ok.len
    rw [decide_eq_true h0, Bool.not_true, br_false, if_neg (fun h => h h0)]
    have L := range_loop (B := S320_L1 P315 o) o.length (fun i => (ruleF o i).map fun r => (r.1, r.2.1, errOf r.2.2)) (fun i hi => by
      have hx := List.getElem?_eq_getElem hi
      simp only [S320_L1]
      rw [br_dec, if_pos (by omega)]
      simp only [lookI_nat, hx, bno_s, P315_eq, errOf_nil]
      unfold ruleF
      rw [hx, wiid (by omega) (by omega)]
      simp only
      by_cases c : (rulesE o[i]).2 = 0
      · rw [decide_eq_true c, if_neg (fun h => h c)]
        rfl
      · rw [decide_eq_false c, if_pos c]
        rfl) (by
      simp only [S320_L1]
      rw [br_dec, if_neg (by omega)]
      rfl)
    rw [lp_eq, L, findSome_map]
    cases (List.range o.length).findSome? (ruleF o) <;> rfl
  · rw [decide_eq_false h0, Bool.not_false, br_true, if_pos h0]
theorem P352_eq (o : List Dim) : P352 o = some (errOf (allE o).2.2) := by simp only [P352, S352, P320_eq, bno_s]
end Ab
end
