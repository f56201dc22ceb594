/-
  Plain law: FoldTells answers true.
-/
import Derived.Test.YtcabflannjeigaaGreatDoorW234
import Derived.Test.YtcabflannjeigaaGreatDoorC6
import Derived.Test.YtcabflannjeigaaGreatDoorQS
namespace Ab
open Go
set_option linter.unusedVariables false
set_option linter.unusedSimpArgs false

theorem loop234a {o : List Dim} (ok : OutOk o) (order : List Int) (hx : ∀ x ∈ order, 0 ≤ x ∧ x < ((o.length : Nat) : Int)) (hl : order.length ≤ 9223372036854775806) (cs : List Cell) (hc : cs.length = sizeN o) :
    lpO (S234_L1 P239 o order ((0 : Int), cs)) (cs, (0 : Int)) = some (.inl (foldO o cs order, ((order.length : Nat) : Int))) := by
  have hs := seq_loop (B := S234_L1 P239 o order ((0 : Int), cs)) (fun i => (foldO o cs (order.take i), (i : Int))) order.length (fun i hi => by
    have hg := List.getElem?_eq_getElem hi
    obtain ⟨h0, h1⟩ := hx _ (List.getElem_mem hi)
    have hlen := fold_ok ok (order.take i) cs (fun x h => hx x (List.mem_of_mem_take h)) hc
    obtain ⟨_, e2, _⟩ := P54_ok ok hlen h0 h1
    have ef : foldO o cs (order.take (i + 1)) = onceC o (foldO o cs (order.take i)) order[i] := fold_take _ _ _ hg
    simp only [S234_L1]
    rw [br_dec, if_pos (by omega)]
    simp only [decide_true, inlO_s, jn_l, br_true, lookI_nat, hg, bno_s, e2]
    rw [wiid (by omega) (by omega), ef]
    rfl)
  have e0 : (cs, (0 : Int)) = (foldO o cs (order.take 0), ((0 : Nat) : Int)) := rfl
  rw [e0, hs, lpO_dn (y := (foldO o cs (order.take order.length), ((order.length : Nat) : Int))) (by simp only [S234_L1]; rw [br_dec, if_neg (by omega)]; rfl), List.take_length]
theorem loop234b (o : List Dim) (order : List Int) {e : Int} (he : e ≠ 0) (cs : List Cell) : lpO (S234_L1 P239 o order (e, cs)) (cs, (0 : Int)) = some (.inl (cs, (0 : Int))) := by
  refine lpO_dn ?_
  simp only [S234_L1]
  by_cases c : (0 : Int) < ((order.length : Nat) : Int)
  · rw [br_dec, if_pos c]; simp [he]
  · rw [br_dec, if_neg c]; rfl
theorem loop234c (cells : List Cell) (hl : cells.length ≤ 9223372036854775806) : ∀ (r : List Cell) (k : Nat), cells.drop k = r → k + r.length = cells.length →
    ∃ j, lpO (S234_L2 P144 cells) ((0 : Int), (k : Int)) = some (.inl (if r.any (fun c => decide (badC c)) = true then 1 else 0, j)) := by
  intro r
  induction r with
  | nil =>
    intro k hd hk
    have hk' : k = cells.length := by simpa using hk
    subst hk'
    refine ⟨((cells.length : Nat) : Int), (lpO_dn (y := ((0 : Int), ((cells.length : Nat) : Int))) ?_).trans rfl⟩
    simp only [S234_L2]
    rw [br_dec, if_neg (by omega)]
    rfl
  | cons c r ih =>
    intro k hd hk
    simp only [List.length_cons] at hk
    have hc : cells[k]? = some c := by rw [← List.head?_drop, hd]; rfl
    have hd' : cells.drop (k + 1) = r := by rw [← List.drop_drop, hd]; rfl
    have e4 : wi ((k : Int) + 1) = ((k + 1 : Nat) : Int) := by rw [wiid (by omega) (by omega)]; omega
    have step : S234_L2 P144 cells ((0 : Int), (k : Int)) = some (.nx ((if badC c then 1 else 0), ((k + 1 : Nat) : Int))) := by
      simp only [S234_L2]
      rw [br_dec, if_pos (by omega)]
      simp only [decide_true, inlO_s, jn_l, br_true, lookI_nat, hc, bno_s, P144_eq, e4]
      rfl
    by_cases hb : badC c
    · rw [if_pos hb] at step
      refine ⟨((k + 1 : Nat) : Int), (lpO_nx step).trans ((lpO_dn (y := ((1 : Int), ((k + 1 : Nat) : Int))) ?_).trans ?_)⟩
      · simp only [S234_L2]
        by_cases cc : ((k + 1 : Nat) : Int) < ((cells.length : Nat) : Int)
        · rw [br_dec, if_pos cc]; rfl
        · rw [br_dec, if_neg cc]; rfl
      · simp [hb]
    · rw [if_neg hb] at step
      obtain ⟨j, hj⟩ := ih (k + 1) hd' (by omega)
      refine ⟨j, (lpO_nx step).trans (hj.trans ?_)⟩
      simp [hb]
theorem loop234d (cells : List Cell) (hl : cells.length ≤ 9223372036854775806) (e : Int) : ∃ j, lpO (S234_L2 P144 cells) (e, (0 : Int)) = some (.inl (if e = 0 then (if cells.any (fun c => decide (badC c)) = true then 1 else 0) else e, j)) := by
  by_cases he : e = 0
  · subst he
    obtain ⟨j, hj⟩ := loop234c cells hl cells 0 rfl (by omega)
    exact ⟨j, by rw [if_pos rfl]; exact hj⟩
  · refine ⟨0, (lpO_dn (y := (e, (0 : Int))) ?_).trans (by rw [if_neg he])⟩
    simp only [S234_L2]
    by_cases c : (0 : Int) < ((cells.length : Nat) : Int)
    · rw [br_dec, if_pos c]; simp [he]
    · rw [br_dec, if_neg c]; rfl
theorem p234 (o : List Dim) (ho : Lst Dim.gd o) (l : List Entry) (hl : Lst Entry.gd l) (cells : List Cell) (hc : cells.length ≤ 9223372036854775806) (dim : Int) (order : List Int) (hb : order.length * 8 ≤ 140737488351232) : P234 o l cells dim order = some true := by
  have hol := ho.1
  have h209 := P209_eq o hol l hl order hb
  have h238 := P238_eq o order (by omega)
  have h21 := P21_eq o l hol hl
  have h23 := P23_eq o cells dim hol (by omega)
  -- the first part: what is written; folded in an order
  have x3 : ∀ k : List Cell → Option Bool, jn (σ := (List Cell)) (α := Bool) (br (decide (entsE o l = 0)) (bno (P237 o l) fun y2 => inlO (some y2)) (inlO (some ([] : List Cell)))) k = k (if entsE o l = 0 then writeC o l else []) := by
    intro k
    by_cases h0 : entsE o l = 0
    · simp [h0, P237_eq (ents_ok.1 h0) hl]
    · simp [h0]
  have x10 : ∀ k : (Int × List Cell) → Option Bool, (jn (σ := Bool) (α := Bool) (br (decide (entsE o l = 0)) (bno (P238 o order) fun y7 => inlO (some y7)) (inlO (some false))) fun x8 =>
      jn (σ := Bool) (α := Bool) (br (decide (entsE o l = 0)) (inlO (some (!x8))) (inlO (some false))) fun x9 =>
      jn (σ := (Int × (List Cell))) (α := Bool) (br x9 (inlO (some ((3 : Int), ([] : List Cell)))) (inlO (some (entsE o l, (if entsE o l = 0 then writeC o l else []))))) k)
      = k (if entsE o l = 0 then (if eachB o order = true then (0, writeC o l) else (3, [])) else (entsE o l, [])) := by
    intro k
    rw [h238]
    by_cases h0 : entsE o l = 0
    · cases he : eachB o order <;> simp [h0]
    · simp [h0]
  have lpA : ∃ j, lpO (S234_L1 P239 o order (if entsE o l = 0 then (if eachB o order = true then (0, writeC o l) else (3, [])) else (entsE o l, []))) ((if entsE o l = 0 then (if eachB o order = true then ((0 : Int), writeC o l) else (3, [])) else (entsE o l, [])).2, (0 : Int))
      = some (.inl ((if entsE o l = 0 ∧ eachB o order = true then foldO o (writeC o l) order else []), j)) := by
    by_cases h0 : entsE o l = 0
    · cases he : eachB o order with
      | true =>
        have hE : order.length = o.length ∧ Each order := by unfold eachB at he; exact of_decide_eq_true he
        refine ⟨((order.length : Nat) : Int), ?_⟩
        simp only [h0, if_true, and_self]
        exact loop234a (ents_ok.1 h0).out order (fun x hx => by have := hE.2.2 x hx; omega) (by omega) _ (writeC_len o l)
      | false =>
        refine ⟨0, ?_⟩
        simp only [h0, if_true, Bool.false_eq_true, if_false, and_false]
        exact loop234b o order (by decide) _
    · refine ⟨0, ?_⟩
      simp only [h0, if_false, false_and]
      exact loop234b o order h0 _
  -- the second part: folded once
  have x29 : ∀ k : Int → Option Bool, (jn (σ := Bool) (α := Bool) (br (decide ((outErr o).2.2 = 0)) (bno (P106 o) fun y20 => inlO (some (decide (¬ ((List.length cells : Nat) : Int) = y20)))) (inlO (some false))) fun x21 =>
      jn (σ := Int) (α := Bool) (br x21 (inlO (some (3 : Int))) (inlO (some (outErr o).2.2))) fun x22 =>
      lp (S234_L2 P144 cells) (x22, (0 : Int)) fun x27 =>
      jn (σ := Bool) (α := Bool) (br (decide (x27.1 = (0 : Int))) (br (decide (dim < (0 : Int))) (inlO (some true)) (inlO (some (decide (((List.length o : Nat) : Int) ≤ dim))))) (inlO (some false))) fun x28 =>
      jn (σ := Int) (α := Bool) (br x28 (inlO (some (1 : Int))) (inlO (some x27.1))) k) = k (onceE o cells dim) := by
    intro k
    unfold onceE
    by_cases h0 : (outErr o).2.2 = 0
    · by_cases h1 : ((cells.length : Nat) : Int) = sizeW o
      · obtain ⟨j, hj⟩ := loop234d cells hc 0
        rw [if_pos rfl] at hj
        by_cases h2 : cells.any (fun c => decide (badC c)) = true
        · rw [if_pos h2] at hj
          simp [h0, P106_eq o hol, h1, lp_eq, hj, h2]
        · rw [if_neg h2] at hj
          by_cases h3 : dim < 0
          · simp [h0, P106_eq o hol, h1, lp_eq, hj, h2, h3]
          · by_cases h4 : ((o.length : Nat) : Int) ≤ dim <;> simp [h0, P106_eq o hol, h1, lp_eq, hj, h2, h3, h4]
      · obtain ⟨j, hj⟩ := loop234d cells hc 3
        rw [if_neg (by decide)] at hj
        simp [h0, P106_eq o hol, h1, lp_eq, hj]
    · obtain ⟨j, hj⟩ := loop234d cells hc (outErr o).2.2
      rw [if_neg h0] at hj
      simp [h0, lp_eq, hj]
  have x31 : ∀ k : List Cell → Option Bool, jn (σ := (List Cell)) (α := Bool) (br (decide (onceE o cells dim = (0 : Int))) (bno (P239 o cells dim) fun y30 => inlO (some y30)) (inlO (some ([] : List Cell)))) k = k (if onceE o cells dim = 0 then onceC o cells dim else []) := by
    intro k
    by_cases h0 : onceE o cells dim = 0
    · have h1 := h0
      unfold onceE at h1
      split at h1
      · rename_i c; exact absurd h1 c
      · rename_i c1
        split at h1
        · simp at h1
        · rename_i c2
          split at h1
          · simp at h1
          · split at h1
            · simp at h1
            · rename_i c4
              have ok := out_ok.1 (by simpa using c1)
              have hz := ok.sizeN.1
              obtain ⟨_, e2, _⟩ := P54_ok ok (cs := cells) (by omega) (x := dim) (by omega) (by omega)
              simp [h0, e2]
    · simp [h0]
  have same : ∀ a : List Cell, a.length ≤ 9223372036854775807 → P24 a a = some true := fun a h => by rw [P24_eq a a h, decide_eq_true rfl]
  have e5 : P92 (if entsE o l = 0 then (writeC o l, Err.nil) else ([], errOf (entsE o l))).2 (entsE o l) = some true := by
    by_cases h0 : entsE o l = 0 <;> simp [h0]
  have zs : entsE o l = 0 → (writeC o l).length ≤ 20736 ∧ (eachB o order = true → (foldO o (writeC o l) order).length ≤ 20736) := fun h0 => by
    have ok := (ents_ok.1 h0).out
    have hz := ok.sizeN.2
    have hw := writeC_len o l
    refine ⟨by omega, fun he => ?_⟩
    have hE : order.length = o.length ∧ Each order := by unfold eachB at he; exact of_decide_eq_true he
    have := fold_ok ok order (writeC o l) (fun x hx => by have := hE.2.2 x hx; omega) hw
    omega
  have e6 : P24 (if entsE o l = 0 then (writeC o l, Err.nil) else ([], errOf (entsE o l))).1 (if entsE o l = 0 then writeC o l else []) = some true := by
    by_cases h0 : entsE o l = 0
    · simp only [h0, if_true]; exact same _ (by have := (zs h0).1; omega)
    · simp only [h0, if_false]; exact same _ (by simp)
  have e17 : P92 (if entsE o l = 0 then (if eachB o order = true then (foldO o (writeC o l) order, Err.nil) else ([], Err.no 3)) else ([], errOf (entsE o l))).2 (if entsE o l = 0 then (if eachB o order = true then ((0 : Int), writeC o l) else (3, [])) else (entsE o l, [])).1 = some true := by
    by_cases h0 : entsE o l = 0
    · cases he : eachB o order <;> simp [h0]
    · simp [h0]
  have e18 : P24 (if entsE o l = 0 then (if eachB o order = true then (foldO o (writeC o l) order, Err.nil) else ([], Err.no 3)) else ([], errOf (entsE o l))).1 (if entsE o l = 0 ∧ eachB o order = true then foldO o (writeC o l) order else []) = some true := by
    by_cases h0 : entsE o l = 0
    · cases he : eachB o order with
      | true => simp only [h0, if_true, and_self]; exact same _ (by have := (zs h0).2 he; omega)
      | false => simp only [h0, if_true, Bool.false_eq_true, if_false, and_false]; exact same _ (by simp)
    · simp only [h0, if_false, false_and]; exact same _ (by simp)
  have e33 : P92 (if onceE o cells dim = 0 then (onceC o cells dim, Err.nil) else ([], errOf (onceE o cells dim))).2 (onceE o cells dim) = some true := by
    by_cases h0 : onceE o cells dim = 0 <;> simp [h0]
  have e34 : P24 (if onceE o cells dim = 0 then (onceC o cells dim, Err.nil) else ([], errOf (onceE o cells dim))).1 (if onceE o cells dim = 0 then onceC o cells dim else []) = some true := by
    by_cases h0 : onceE o cells dim = 0
    · simp only [h0, if_true]
      refine same _ ?_
      unfold onceC
      split
      · rename_i d hd
        by_cases ho : (outErr o).2.2 = 0
        · rw [foldC_len (out_ok.1 ho) hd]; omega
        · exfalso
          unfold onceE at h0
          rw [if_pos ho] at h0
          exact ho h0
      · simp
    · simp only [h0, if_false]; exact same _ (by simp)
  obtain ⟨j, hj⟩ := lpA
  simp only [P234, S234, P122_eq o l hl, bno_s, x3, h21, P125_eq, e5, e6]
  rw [x10]
  simp only [lp_eq (S234_L1 P239 o order _), hj, jn_l, h209, bno_s, e17, e18]
  rw [x29]
  rw [x31]
  simp only [h23, bno_s, e33, e34, br_true, inlO_s, jn_l]
end Ab
