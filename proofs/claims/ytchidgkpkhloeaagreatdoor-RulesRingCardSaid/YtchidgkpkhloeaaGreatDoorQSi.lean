/-
  Plain laws: numbers that are sorted, each once; put in their place.
-/
import Derived.Test.YtchidgkpkhloeaaGreatDoorMSn
namespace Ab
open Go
set_option linter.unusedVariables false
set_option linter.unusedSimpArgs false
theorem le_cases {x y : Int} : x ≤ y ↔ x < y ∨ x = y := by omega
theorem strictI_ext : ∀ {as bs : List Int}, as.Pairwise (· < ·) → bs.Pairwise (· < ·) → (∀ x, x ∈ as ↔ x ∈ bs) → as = bs
  | [], [], _, _, _ => rfl
  | [], b :: bs, _, _, h => absurd ((h b).2 (by simp)) (by simp)
  | a :: as, [], _, _, h => absurd ((h a).1 (by simp)) (by simp)
  | a :: as, b :: bs, ha, hb, h => by
    obtain ⟨ha1, ha2⟩ := List.pairwise_cons.1 ha
    obtain ⟨hb1, hb2⟩ := List.pairwise_cons.1 hb
    have e : a = b := by
      rcases List.mem_cons.1 ((h a).1 (by simp)) with e | hm
      · exact e
      · rcases List.mem_cons.1 ((h b).2 (by simp)) with e | hm2
        · exact e.symm
        · exact absurd (Int.lt_trans (hb1 a hm) (ha1 b hm2)) (Int.lt_irrefl b)
    subst e
    congr 1
    refine strictI_ext ha2 hb2 fun x => ?_
    have hx := h x
    simp only [List.mem_cons] at hx
    refine ⟨fun hm => ?_, fun hm => ?_⟩
    · rcases hx.1 (.inr hm) with rfl | hm2
      · exact absurd (ha1 x hm) (Int.lt_irrefl x)
      · exact hm2
    · rcases hx.2 (.inr hm) with rfl | hm2
      · exact absurd (hb1 x hm) (Int.lt_irrefl x)
      · exact hm2
theorem compI_strict (zs : List Int) (hz : zs.Pairwise (· ≤ ·)) : ∀ m, m ≤ zs.length → (Lib.compactUpTo zs.toArray m).Pairwise (· < ·) ∧ (∀ x, x ∈ Lib.compactUpTo zs.toArray m ↔ x ∈ zs.take m) ∧ ∀ k y, m = k + 1 → zs[k]? = some y → ∀ x ∈ Lib.compactUpTo zs.toArray m, x ≤ y := by
  intro m
  induction m with
  | zero => intro _; exact ⟨by simp [Lib.compactUpTo], by simp [Lib.compactUpTo], fun k y e => by omega⟩
  | succ m ih =>
    intro hm
    obtain ⟨i1, i2, i3⟩ := ih (by omega)
    have hg : zs[m]? = some zs[m] := List.getElem?_eq_getElem (by omega)
    have e1 : zs.toArray[m]! = zs[m] := by simp [getElem!_pos, show m < zs.length by omega]
    have ht : zs.take (m + 1) = zs.take m ++ [zs[m]] := by rw [List.take_add_one, hg]; rfl
    rw [Lib.compactUpTo_succ, e1]
    by_cases hk : Lib.keeps zs.toArray m = true
    · rw [if_pos hk]
      have hlt : ∀ x ∈ Lib.compactUpTo zs.toArray m, x < zs[m] := by
        intro x hx
        cases m with
        | zero => simp [Lib.compactUpTo] at hx
        | succ k =>
          have h1 := i3 k zs[k] rfl (List.getElem?_eq_getElem (by omega)) x hx
          have h2 : zs[k] ≤ zs[k + 1] := (List.pairwise_iff_getElem.1 hz) k (k + 1) (by omega) (by omega) (by omega)
          have e2 : zs.toArray[k]! = zs[k] := by simp [getElem!_pos, show k < zs.length by omega]
          have h3 : zs[k + 1] ≠ zs[k] := by
            unfold Lib.keeps at hk
            have := of_decide_eq_true hk
            rcases this with h | h
            · omega
            · rw [Nat.add_sub_cancel, e2, e1] at h
              exact h
          rcases le_cases.1 h2 with h2 | h2
          · rcases le_cases.1 h1 with h1 | rfl
            · exact Int.lt_trans h1 h2
            · exact h2
          · exact absurd h2.symm h3
      refine ⟨List.pairwise_append.2 ⟨i1, by simp, fun x hx y hy => ?_⟩, fun x => ?_, fun k y e hy x hx => ?_⟩
      · obtain rfl := List.mem_singleton.1 hy
        exact hlt x hx
      · rw [ht, List.mem_append, List.mem_append, i2]
      · obtain rfl : k = m := by omega
        rw [hg] at hy
        cases hy
        rcases List.mem_append.1 hx with hx | hx
        · exact le_cases.2 (.inl (hlt x hx))
        · obtain rfl := List.mem_singleton.1 hx
          exact Int.le_refl _
    · rw [if_neg hk, List.append_nil]
      cases m with
      | zero => exact absurd (Lib.keeps_lt_one _ 0 (by omega)) hk
      | succ k =>
        have e2 : zs.toArray[k]! = zs[k] := by simp [getElem!_pos, show k < zs.length by omega]
        have h3 : zs[k + 1] = zs[k] := by
          unfold Lib.keeps at hk
          have h := hk
          rw [decide_eq_true_eq] at h
          have h := not_or.1 h
          have := Decidable.not_not.1 h.2
          rw [Nat.add_sub_cancel, e2, e1] at this
          exact this
        refine ⟨i1, fun x => ?_, fun k' y e hy x hx => ?_⟩
        · rw [ht, List.mem_append, i2, List.mem_singleton]
          refine ⟨.inl, fun h => ?_⟩
          rcases h with h | rfl
          · exact h
          · rw [h3]
            exact List.mem_take_iff_getElem.2 ⟨k, by omega, rfl⟩
        · obtain rfl : k' = k + 1 := by omega
          rw [hg] at hy
          cases hy
          rw [h3]
          exact i3 k zs[k] rfl (List.getElem?_eq_getElem (by omega)) x hx
theorem sortI_rises (l : List Int) : (l.mergeSort fun x y => decide (x ≤ y)).Pairwise (· ≤ ·) := by
  have h := List.pairwise_mergeSort (le := fun (x y : Int) => decide (x ≤ y)) (fun a b c h1 h2 => by simp only [decide_eq_true_eq] at *; exact Int.le_trans h1 h2) (fun a b => by simp only [Bool.or_eq_true, decide_eq_true_eq]; exact Int.le_total a b) l
  exact h.imp fun h => by simpa using h
def setI (l : List Int) : List Int := compI (sortI l)
theorem setI_ok (l : List Int) : (setI l).Pairwise (· < ·) ∧ ∀ x, x ∈ setI l ↔ x ∈ l := by
  obtain ⟨h1, h2, _⟩ := compI_strict _ (sortI_rises l) _ (Nat.le_refl _)
  unfold setI compI Lib.compact
  refine ⟨h1, fun x => ?_⟩
  rw [show (sortI l).length = (l.mergeSort fun x y => decide (x ≤ y)).length from rfl]
  show x ∈ Lib.compactUpTo (l.mergeSort fun x y => decide (x ≤ y)).toArray (l.mergeSort fun x y => decide (x ≤ y)).length ↔ _
  rw [h2, List.take_length]
  exact (List.mergeSort_perm _ _).mem_iff
end Ab
