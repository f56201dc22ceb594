/-
  Plain laws: what the functions of package tallyref1 come to, of trees.
-/
import Derived.Test.YthjpciiacibnhaaDoorQR
namespace Ab
open Go
set_option linter.unusedVariables false
set_option linter.unusedSimpArgs false

theorem P100_eq {d : Dim} (hl : d.members.length ≤ 1000) (i : Int) : P100 d i = some (partsOf d.members i) := by
  simp only [P100, S100, lp_eq]
  rw [idxs_loop (isPart d.members i) d.members.length (fun k acc hk ha => ?_) (fun acc => by simp [S100_L1])]
  · rfl
  · have e : ((k : Nat) : Int) < ((d.members.length : Nat) : Int) := by omega
    have hr : acc.length + 1 ≤ roomA := by unfold roomA; omega
    simp only [S100_L1, e, decide_true, br_true, lookI_nat, List.getElem?_eq_getElem hk, bno_s, isPart, List.length_singleton, ck_pos hr, inlO_s, nxO_s]
    rw [wiid (by omega) (by omega)]
    by_cases h : (d.members[k]).parent = i <;> simp [h]
theorem P102_eq {d : Dim} (hl : d.members.length ≤ 1000) {k : Nat} (hk : k < d.members.length) : P102 d k = some (leafB d.members k) := by
  have e : decide (((List.length (partsOf d.members k) : Nat) : Int) = 0) = decide (partsOf d.members k = []) := by
    congr 1; rw [← List.length_eq_zero_iff]; exact propext ⟨fun h => by omega, fun h => by omega⟩
  simp only [P102, S102, lookI_nat, List.getElem?_eq_getElem hk, bno_s, P100_eq hl, leafB, e]
  by_cases h : (d.members[k]).formula = ⟨#[]⟩ <;> simp [h]
theorem w2_loop {d : Dim} (h : Rooted d.members) {i : Int} (hi : 0 ≤ i) : ∀ (n k : Nat), k ≤ n → k < d.members.length → ∀ w : Int, -1 ≤ w → w ≤ 1 →
    jn (lpO (S103_L1 d i) ((k : Int), w)) (fun x => some (x.2, true)) = some (match wl d.members i (path d.members k) with | some v => (w * v, true) | none => (0, false)) := by
  have neg : ∀ (p w : Int), p < 0 → jn (lpO (S103_L1 d i) (p, w)) (fun x => some (x.2, true)) = some (0, false) := by
    intro p w hp
    have : ¬ p = i := by omega
    rw [lpO_fin (a := (0, false)) (by simp [S103_L1, this, hp])]
    rfl
  intro n
  induction n with
  | zero =>
    intro k hk hl w h1 h2
    have hm := List.getElem?_eq_getElem hl
    have hu := h.up _ _ hm
    rw [path_eq h hm, path_neg (by omega)]
    simp only [wl]
    by_cases hki : (k : Int) = i
    · rw [if_pos hki, lpO_dn (y := ((k : Int), w)) (by simp [S103_L1, hki])]
      simp
    · rw [if_neg hki]
      have hkn : ¬ ((k : Int) < 0) := by omega
      have hs := h.sign _ _ hm
      have hb := mul_sgn ⟨h1, h2⟩ hs
      rw [lpO_nx (y := ((d.members[k]).parent, w * (d.members[k]).sign))]
      · rw [neg _ _ (by omega)]; rfl
      · simp only [S103_L1, hki, hkn, not_false_eq_true, decide_true, decide_false, br_true, br_false, lookI_nat, hm, bno_s, nxO_s]
        rw [wiid (by omega) (by omega)]
  | succ n ih =>
    intro k hk hl w h1 h2
    have hm := List.getElem?_eq_getElem hl
    have hu := h.up _ _ hm
    rw [path_eq h hm]
    simp only [wl]
    by_cases hki : (k : Int) = i
    · rw [if_pos hki, lpO_dn (y := ((k : Int), w)) (by simp [S103_L1, hki])]
      simp
    · rw [if_neg hki]
      have hkn : ¬ ((k : Int) < 0) := by omega
      have hs := h.sign _ _ hm
      have hb := mul_sgn ⟨h1, h2⟩ hs
      have hsg : sgn d.members k = (d.members[k]).sign := by unfold sgn; rw [Int.toNat_natCast, hm]
      rw [lpO_nx (y := ((d.members[k]).parent, w * (d.members[k]).sign))]
      · by_cases hp : (d.members[k]).parent < 0
        · rw [neg _ _ hp, path_neg hp]; rfl
        · obtain ⟨j, hj⟩ := Int.eq_ofNat_of_zero_le (by omega : 0 ≤ (d.members[k]).parent)
          rw [hj] at hu ⊢
          rw [ih j (by omega) (by omega) _ hb.1 hb.2, hsg]
          cases wl d.members i (path d.members j) with
          | none => rfl
          | some v => simp [Int.mul_assoc]
      · simp only [S103_L1, hki, hkn, not_false_eq_true, decide_true, decide_false, br_true, br_false, lookI_nat, hm, bno_s, nxO_s]
        rw [wiid (by omega) (by omega)]
theorem P103_eq {d : Dim} (h : Rooted d.members) {i : Int} (hi : 0 ≤ i) {k : Nat} (hk : k < d.members.length) : P103 d i k = some (wOf d.members i k) := by
  simp only [P103, S103, lp_eq]
  rw [w2_loop h hi k k (Nat.le_refl _) hk 1 (by omega) (by omega)]
  simp only [Int.one_mul]
  rfl
theorem P101_eq {d : Dim} (h : Rooted d.members) (hl : d.members.length ≤ 1000) {i : Int} (hi : 0 ≤ i) : P101 d i = some (leafsOf d.members i) := by
  simp only [P101, S101, lp_eq]
  rw [idxs_loop (fun k => (wl d.members i (path d.members k)).isSome && leafB d.members k) d.members.length (fun k acc hk ha => ?_) (fun acc => by simp [S101_L1])]
  · rfl
  · have e : ((k : Nat) : Int) < ((d.members.length : Nat) : Int) := by omega
    have hr : acc.length + 1 ≤ roomA := by unfold roomA; omega
    simp only [S101_L1, e, decide_true, br_true, P103_eq h hi hk, bno_s, wOf_snd, P102_eq hl hk, List.length_singleton, ck_pos hr, inlO_s, nxO_s]
    rw [wiid (by omega) (by omega)]
    cases (wl d.members i (path d.members k)).isSome <;> cases leafB d.members k <;> simp
end Ab
