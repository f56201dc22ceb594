/-
  Plain law: of a cube without formulas in which nothing is written all cells are empty.
-/
import Derived.Test.YtchidgkpkhloeaaGreatDoorW309
import Derived.Test.YtchidgkpkhloeaaGreatDoorH8
namespace Ab
open Go
set_option linter.unusedVariables false
set_option linter.unusedSimpArgs false
theorem sq9_out : ∀ n, n < 10 → 0 < n → (outErr (squareO n)).2.2 = 0 := by decide +kernel
theorem sq9_size : ∀ n, n < 10 → sizeN (squareO n) = (n + 1) * (n + 1) := by decide +kernel
theorem sq9_form : ∀ n, n < 10 → (squareO n).all (fun d => d.members.all fun m => decide (m.formula = ⟨#[]⟩)) = true := by decide +kernel
theorem sq9_plain {n : Nat} (h : n < 10) : noForm (squareO n) := fun d hd m hm => by
  have := List.all_eq_true.1 (sq9_form n h) d hd
  exact of_decide_eq_true (List.all_eq_true.1 this m hm)
theorem ents_none {o : List Dim} (h : OutOk o) : EntsOk o [] := ⟨h, by simp, by simp, by simp, by simp⟩
theorem gd_none : Lst Entry.gd [] := ⟨by simp, by simp⟩
theorem sq9_right {n : Nat} (h : n < 10) (h0 : 0 < n) : RightC (squareO n) [] :=
  have ok := out_ok.1 (sq9_out n h h0)
  ⟨cube_plain ok (sq9_plain h), ents_none ok, gd_none⟩
theorem all_zero {o : List Dim} (h : noForm o) (i : Nat) (hi : i < sizeN o) : (allC o [])[i]? = some ⟨0, 0⟩ := by
  unfold allC
  rw [List.getElem?_map, List.getElem?_range hi]
  simp only [Option.map_some, sol_zero h]
theorem fault_zero {o : List Dim} (h : noForm o) : ∀ n, n ≤ sizeN o → faultL o [] n = []
  | 0, _ => rfl
  | n + 1, hn => by
    rw [faultL_succ, List.getD_eq_getElem?_getD, all_zero h n (by omega), fault_zero h n (by omega)]
    rfl
theorem p309 (n : Int) : P309 n = some true := by
  simp only [P309, S309, br_dec]
  by_cases c1 : n < 1
  · rw [if_pos c1]; rfl
  rw [if_neg c1]
  by_cases c2 : 9 < n
  · simp only [inlO_s, jn_l, decide_eq_true c2, br_true]
  simp only [inlO_s, jn_l, decide_eq_false c2, br_false]
  obtain ⟨m, rfl⟩ : ∃ m : Nat, n = m := ⟨n.toNat, by omega⟩
  have hm : m < 10 := by omega
  have ok := sq9_right hm (by omega)
  have hp := sq9_plain hm
  have hs := sq9_size m hm
  have hc := (cube_ok gd_none).2 ok
  have hsz : ((sizeN (squareO m) : Nat) : Int) = ((m : Int) + 1) * ((m : Int) + 1) := by rw [hs]; push_cast; rfl
  have hle : sizeN (squareO m) ≤ 20736 := (ok.cube.out.sizeN).2
  have e1 : wi ((m : Int) + 1) = (m : Int) + 1 := wiid (by omega) (by omega)
  have e2 : wi (((m : Int) + 1) * ((m : Int) + 1)) = ((sizeN (squareO m) : Nat) : Int) := by rw [← hsz]; exact wiid (by omega) (by omega)
  simp only [P22_eq m (by omega), bno_s, P332_eq gd_none, P333_eq gd_none, if_pos hc, nil_isNil, Bool.not_true, br_false, inlO_s, jn_l, allC_len, e1, e2, not_true, decide_false]
  have hl := seq_loop (B := S309_L1 (allC (squareO m) [], .nil)) (fun i => (i : Int)) (sizeN (squareO m)) (fun i hi => by
    have e4 : wi ((i : Int) + 1) = ((i + 1 : Nat) : Int) := by rw [wiid (by omega) (by omega)]; omega
    simp only [S309_L1]
    rw [br_dec, if_pos (by rw [allC_len]; omega)]
    simp only [lookI_nat, all_zero hp i hi, bno_s, not_true, decide_false, br_false, nxO_s, e4])
  rw [lp_eq, show (0 : Int) = ((0 : Nat) : Int) from rfl, hl, lpO_dn (y := ((sizeN (squareO m) : Nat) : Int)) (by simp only [S309_L1]; rw [br_dec, if_neg (by rw [allC_len]; omega)]; rfl)]
  simp only [jn_l, fault_zero hp _ (Nat.le_refl _), List.length_nil, br_true, inlO_s]
  rfl
end Ab
