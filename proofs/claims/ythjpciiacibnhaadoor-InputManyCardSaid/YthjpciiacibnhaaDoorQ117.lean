/-
  Plain law: InputMany answers true.
-/
import Derived.Test.YthjpciiacibnhaaDoorW117
import Derived.Test.YthjpciiacibnhaaDoorQAl
import Derived.Test.YthjpciiacibnhaaDoorQF
namespace Ab
open Go
set_option linter.unusedVariables false
set_option linter.unusedSimpArgs false

def edN (i : Nat) : Edit := ⟨[((1 + i / 9 % 9 : Nat) : Int), ((1 + i % 9 : Nat) : Int)], (i : Int), false⟩
def xsN (n : Nat) : List Edit := (List.range n).map edN
set_option maxRecDepth 100000 in
theorem fact117 : (List.range 61).all (fun n => decide ((allL (squareO 9) [] (xsN n)).2.2 = 0) && decide ((allL (squareO 9) [] (xsN n)).2.1 = 0) && decide ((allL (squareO 9) [] (xsN n)).1.length = n) && decide (entsE (squareO 9) (allL (squareO 9) [] (xsN n)).1 = 0)) = true := by decide +kernel
theorem xs_gd {n : Nat} (h : n ≤ 80) : Lst Edit.gd (xsN n) := by
  refine ⟨by simp [xsN]; omega, fun e he => ?_⟩
  obtain ⟨i, hi, rfl⟩ := List.mem_map.1 he
  have hi : i < n := by simpa using hi
  refine ⟨⟨by simp [edN], fun x hx => ?_⟩, by simp only [edN, I64]; omega⟩
  simp only [edN, List.mem_cons, List.not_mem_nil, or_false] at hx
  rcases hx with rfl | rfl <;> simp only [I64] <;> omega
theorem p117 (n : Int) (hn : I64 n) : P117 n = some true := by
  simp only [P117, S117]
  by_cases h0 : n < 0
  · simp [h0]
  by_cases h1 : 80 < n
  · simp [h0, h1]
  obtain ⟨m, rfl⟩ : ∃ m : Nat, n = m := ⟨n.toNat, by omega⟩
  have hm : m ≤ 80 := by omega
  have e22 : P22 9 = some (squareO 9) := P22_eq 9 (by omega)
  simp only [h0, h1, decide_false, br_false, inlO_s, jn_l, e22, bno_s, lp_eq]
  have hs := seq_loop (B := S117_L1 (m : Int)) (fun i => (xsN i, (i : Int))) m (fun i hi => by
    have e : ((i : Nat) : Int) < ((m : Nat) : Int) := by omega
    have h9 : ¬ (9 : Int) = 0 := by omega
    have hl : (xsN i).length + 1 ≤ roomA := by simp [xsN]; unfold roomA; omega
    have et : xsN (i + 1) = xsN i ++ [edN i] := by simp [xsN, List.range_succ]
    have e1 : wi (1 + Int.tmod (wi (Int.tdiv (i : Int) 9)) 9) = ((1 + i / 9 % 9 : Nat) : Int) := by
      rw [show Int.tdiv (i : Int) 9 = ((i / 9 : Nat) : Int) from rfl, wiid (n := ((i / 9 : Nat) : Int)) (by omega) (by omega), show Int.tmod ((i / 9 : Nat) : Int) 9 = ((i / 9 % 9 : Nat) : Int) from rfl, wiid (by omega) (by omega)]
      omega
    have e2 : wi (1 + Int.tmod (i : Int) 9) = ((1 + i % 9 : Nat) : Int) := by
      rw [show Int.tmod (i : Int) 9 = ((i % 9 : Nat) : Int) from rfl, wiid (by omega) (by omega)]
      omega
    simp only [S117_L1, e, decide_true, br_true, ck_pos h9, List.length_singleton, ck_pos hl, e1, e2, nxO_s, et]
    rw [wiid (by omega) (by omega)]
    rfl)
  have hs : lpO (S117_L1 (m : Int)) ([], 0) = some (.inl (xsN m, (m : Int))) := hs.trans (lpO_dn (by simp [S117_L1]))
  have hnil : Lst Entry.gd ([] : List Entry) := ⟨by simp, by simp⟩
  simp only [hs, jn_l, P112_eq hnil (xs_gd hm), bno_s]
  by_cases h2 : 60 < m
  · have e : (60 : Int) < ((m : Nat) : Int) := by omega
    have : allL (squareO 9) [] (xsN m) = ([], 0, 4) := by unfold allL; rw [if_pos (by simpa [xsN] using h2)]
    simp [e, this]
  · have e : ¬ (60 : Int) < ((m : Nat) : Int) := by omega
    have hf := List.all_eq_true.1 fact117 m (List.mem_range.2 (by omega))
    simp only [Bool.and_eq_true, decide_eq_true_eq] at hf
    obtain ⟨⟨⟨k1, k2⟩, k3⟩, k4⟩ := hf
    simp only [e, decide_false, br_false, errOf_nil, k1, decide_true, br_true, k2, k3, P27_eq _ _ all_gd, k4, bno_s, inlO_s, jn_l]
end Ab
