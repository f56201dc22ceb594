/-
  Plain law: RollTells answers true.
-/
import Derived.Test.YthjpciiacibnhaaDoorW115
import Derived.Test.YthjpciiacibnhaaDoorQRp
namespace Ab
open Go
set_option linter.unusedVariables false
set_option linter.unusedSimpArgs false

theorem p115 (o : List Dim) (ho : Lst Dim.gd o) (l : List Entry) (hl : Lst Entry.gd l) (p : List Int) (hp : Lst I64 p) (q : List Int) (hq : Lst I64 q) : P115 o l p q = some true := by
  have hp1 := hp.1
  have hq1 := hq.1
  simp only [P115, S115, P122_eq o l hl, bno_s, P123_eq o p hp1, P123_eq o q hq1, P125_eq, P110_eq hl hp1, P127_eq o p hp1, P111_eq o p q hp1 hq1]
  have first : ∀ k : (Int × Int) → Option Bool, jn (σ := Int × Int) (α := Bool) (br (decide ((if entsE o l = 0 then fitsE o p else entsE o l) = 0)) (bno (P124 o l p) fun y4 => inlO (some (y4.k, y4.n))) (inlO (some (0, 0)))) k = k (if entsE o l = 0 ∧ fitsE o p = 0 then rollV o l p else (0, 0)) := by
    intro k
    by_cases h1 : entsE o l = 0
    · by_cases h2 : fitsE o p = 0
      · simp [h1, h2, P124_eq hl (ents_ok.1 h1) (fits_ok.1 h2)]
      · simp [h1, h2]
    · simp [h1]
  have e3 : ∀ k : Int → Option Bool, jn (σ := Int) (α := Bool) (br (decide (entsE o l = 0)) (inlO (some (fitsE o p))) (inlO (some (entsE o l)))) k = k (if entsE o l = 0 then fitsE o p else entsE o l) := by
    intro k; by_cases h1 : entsE o l = 0 <;> simp [h1]
  have e10 : ∀ k : Int → Option Bool, jn (σ := Int) (α := Bool) (br (decide ((outErr o).2.2 = 0)) (inlO (some (fitsE o p))) (inlO (some (outErr o).2.2))) k = k (placeE o p) := by
    intro k; unfold placeE; by_cases h1 : (outErr o).2.2 = 0 <;> simp [h1]
  have e12 : ∀ k : List (List Int) → Option Bool, jn (σ := List (List Int)) (α := Bool) (br (decide (placeE o p = 0)) (bno (P126 o p) fun y11 => inlO (some y11)) (inlO (some []))) k = k (if placeE o p = 0 then leafPl o p else []) := by
    intro k
    by_cases h1 : placeE o p = 0
    · obtain ⟨ok, hf⟩ := place_ok.1 h1
      simp [h1, P126_eq ok hf, leafs_same ok hf]
    · simp [h1]
  simp only [e3, first, e10, e12]
  have b1 : ∀ y : List (List Int), P128 (if placeE o p = 0 then (leafPl o p, Err.nil) else ([], errOf (placeE o p))).1 y = some (decide ((if placeE o p = 0 then (leafPl o p, Err.nil) else ([], errOf (placeE o p))).1 = y)) := by
    intro y
    by_cases h1 : placeE o p = 0
    · obtain ⟨ok, hf⟩ := place_ok.1 h1
      have hz : (p.zip o).length = p.length := by rw [List.length_zip, ← hf.len, Nat.min_self]
      obtain ⟨c1, c2⟩ := fold_prop ok hf p.length (Nat.le_refl _)
      rw [← hz, List.take_length, hz] at c1 c2
      have hpw := pow_le (by have := hf.len; have := ok.len; omega : p.length ≤ 4)
      rw [if_pos h1]
      exact P128_eq _ _ (Nat.le_trans c1 (by omega)) fun x hx => by rw [c2 x hx]; exact hp1
    · rw [if_neg h1]; exact P128_eq _ _ (by simp) (by simp)
  simp only [b1, bno_s]
  have e17 : ∀ k : Int → Option Bool, jn (σ := Int) (α := Bool) (br (decide (placeE o p = 0)) (inlO (some (fitsE o q))) (inlO (some (placeE o p)))) k = k (if placeE o p = 0 then placeE o q else placeE o p) := by
    intro k
    by_cases h1 : placeE o p = 0
    · have h2 : (outErr o).2.2 = 0 := out_ok.2 (place_ok.1 h1).1
      simp [h1, placeE, h2]
    · simp [h1]
  simp only [e17]
  have fin : ∀ (k : (Int × Int) → Option Bool), jn (σ := Int × Int) (α := Bool) (br (decide ((if placeE o p = 0 then placeE o q else placeE o p) = 0))
      (bno (P129 o p q) fun y18 => bno (P130 o q) fun y19 => jn (σ := Bool) (α := (Sum (Int × Int) Bool)) (br y18.2 (inlO (some y19)) (inlO (some false))) fun x20 =>
        jn (σ := Int × Int) (α := (Sum (Int × Int) Bool)) (br x20 (inlO (some ((if placeE o p = 0 then placeE o q else placeE o p), y18.1))) (inlO (some ((3 : Int), (0 : Int))))) fun x21 => inlO (some (x21.1, x21.2)))
      (inlO (some ((if placeE o p = 0 then placeE o q else placeE o p), (0 : Int))))) k =
      k (if placeE o p = 0 then (if placeE o q = 0 then (if ((pwL (zip3 o p q)).isSome && leafP o q) = true then (0, (pwR (zip3 o p q)).1) else (3, 0)) else (placeE o q, 0)) else (placeE o p, 0)) := by
    intro k
    by_cases h1 : placeE o p = 0
    · by_cases h2 : placeE o q = 0
      · obtain ⟨ok, hf⟩ := place_ok.1 h1
        obtain ⟨_, hg⟩ := place_ok.1 h2
        have hdm : ∀ d ∈ o, d.members.length ≤ 1000 := fun d hd => by have := (ok.dims d hd).len; omega
        simp only [h1, h2, if_true, decide_true, br_true, P129_eq ok hf hg, bno_s, P130_eq hg hq1 hdm, pwR]
        cases pwL (zip3 o p q) with
        | none => simp
        | some w => cases leafP o q <;> simp
      · simp [h1, h2]
    · simp [h1]
  simp only [fin]
  by_cases h1 : entsE o l = 0
  · have hout : (outErr o).2.2 = 0 := out_ok.2 (ents_ok.1 h1).out
    have hpl : placeE o p = fitsE o p := by unfold placeE; rw [if_pos hout]
    by_cases h2 : fitsE o p = 0
    · by_cases h3 : placeE o q = 0
      · cases hw : ((pwL (zip3 o p q)).isSome && leafP o q) <;> simp [h1, h2, h3, hpl, hw]
      · simp [h1, h2, h3, hpl]
    · simp [h1, h2, hpl]
  · by_cases h2 : placeE o p = 0
    · by_cases h3 : placeE o q = 0
      · cases hw : ((pwL (zip3 o p q)).isSome && leafP o q) <;> simp [h1, h2, h3, hw]
      · simp [h1, h2, h3]
    · simp [h1, h2]
end Ab
