/-
  Plain law: CellAdds answers true.
-/
import Derived.Test.YthjpciiacibnhaaDoorW119
import Derived.Test.YthjpciiacibnhaaDoorQCe
namespace Ab
open Go
set_option linter.unusedVariables false
set_option linter.unusedSimpArgs false

theorem print_parse (a : Cell) : ∃ t e, P139 a = some (t, e) ∧ (e = .nil → ¬ badC a ∧ t.size ≤ 281474976710656 ∧ parseC t = (a, .nil)) ∧ (e = .nil ∨ e = .no 1) := by
  cases hw : within a.n with
  | false => exact ⟨_, _, P139_bad a hw, fun h => by (cases h), .inr rfl⟩
  | true =>
    rw [P139_eq a hw]
    by_cases hb : badC a
    · rw [if_pos hb]; exact ⟨_, _, rfl, fun h => by (cases h), .inr rfl⟩
    · rw [if_neg hb]
      obtain ⟨k, n⟩ := a
      simp only [badC, not_or] at hb
      simp only at hw hb ⊢
      have hn : ¬ k = 1 → n = 0 := fun hk => Classical.byContradiction fun h => hb.2.2.2 ⟨hk, h⟩
      by_cases h0 : k = 0
      · subst h0
        obtain rfl := hn (by omega)
        rw [if_pos rfl]
        refine ⟨_, _, rfl, fun _ => ⟨by simp [badC, within], by simp [ByteArray.size], by decide⟩, .inl rfl⟩
      · by_cases h2 : k = 2
        · subst h2
          obtain rfl := hn (by omega)
          rw [if_neg (by omega), if_pos rfl]
          refine ⟨_, _, rfl, fun _ => ⟨by simp [badC, within], by simp [ByteArray.size], by decide⟩, .inl rfl⟩
        · obtain rfl : k = 1 := by omega
          rw [if_neg (by omega), if_neg (by omega)]
          have hl := (itoa_len hw).1
          refine ⟨_, _, rfl, fun _ => ⟨by simp [badC, hw], ?_, parse_itoa hw⟩, .inl rfl⟩
          rw [itoaB_size]
          split at hl <;> omega
theorem cell_eta (c : Cell) : (⟨c.k, c.n⟩ : Cell) = c := rfl
theorem eq_cell (a b : Cell) : (decide (a.k = b.k) && (decide (a.n = b.n) && true)) = decide (a = b) := by
  obtain ⟨k, n⟩ := a
  obtain ⟨j, m⟩ := b
  by_cases h1 : k = j
  · by_cases h2 : n = m <;> simp [h1, h2]
  · simp [h1]
theorem wi_within {n : Int} (h : within n = true) : wi n = n := by
  simp only [within, Bool.and_eq_true, decide_eq_true_eq] at h
  exact wiid (by omega) (by omega)
theorem plus_comm (a b : Cell) (ha : ¬ badC a) (hb : ¬ badC b) : cplus a b 1 = cplus b a 1 := by
  have h1 : within a.n = true := by simp only [badC, not_or] at ha; simpa using ha.2.2.1
  have h2 : within b.n = true := by simp only [badC, not_or] at hb; simpa using hb.2.2.1
  unfold cplus
  simp only [Int.one_mul, wi_within h1, wi_within h2, Int.add_comm a.n b.n]
  by_cases c1 : a.k = 2 <;> by_cases c2 : b.k = 2 <;> by_cases c3 : a.k = 0 <;> by_cases c4 : b.k = 0 <;> simp [c1, c2, c3, c4]
theorem plus_zero (a : Cell) (ha : ¬ badC a) : cplus a ⟨0, 0⟩ 1 = a := by
  have h1 : within a.n = true := by simp only [badC, not_or] at ha; simpa using ha.2.2.1
  simp only [badC, not_or] at ha
  obtain ⟨k, n⟩ := a
  simp only at h1 ha
  have hn : ¬ k = 1 → n = 0 := fun hk => Classical.byContradiction fun h => ha.2.2.2 ⟨hk, h⟩
  have hw0 : wi 0 = 0 := by decide
  unfold cplus
  by_cases h2 : k = 2
  · have := hn (by omega)
    simp [h2, this]
  · by_cases h0 : k = 0
    · have := hn (by omega)
      simp [h0, this]
    · obtain rfl : k = 1 := by omega
      simp [hw0, wi_within h1, cellOf, h1]
theorem plus_back (a b : Cell) (ha : ¬ badC a) (hb : ¬ badC b) (ka : a.k = 1) (kb : ¬ b.k = 2) (kx : (cplus a b 1).k = 1) : cplus (cplus a b 1) b (-1) = a := by
  have h1 : within a.n = true := by simp only [badC, not_or] at ha; simpa using ha.2.2.1
  have h2 : within b.n = true := by simp only [badC, not_or] at hb; simpa using hb.2.2.1
  have w1 := h1
  have w2 := h2
  simp only [within, Bool.and_eq_true, decide_eq_true_eq] at w1 w2
  obtain ⟨k, n⟩ := a
  simp only at ka h1 w1
  subst ka
  have e1 : cplus ⟨1, n⟩ b 1 = cellOf (n + b.n) := by
    unfold cplus
    simp only [Int.one_mul, wi_within h2]
    rw [if_neg (by omega), if_neg (by omega), wiid (by omega) (by omega)]
  rw [e1] at kx ⊢
  have hw : within (n + b.n) = true := by
    cases hq : within (n + b.n) with
    | true => rfl
    | false => simp [cellOf, hq] at kx
  have e2 : cellOf (n + b.n) = ⟨1, n + b.n⟩ := by simp [cellOf, hw]
  rw [e2]
  unfold cplus
  simp only
  rw [if_neg (by omega), if_neg (by omega), wiid (n := -1 * b.n) (by omega) (by omega), wiid (by omega) (by omega)]
  rw [show n + b.n + -1 * b.n = n by omega]
  simp [cellOf, h1]
theorem times_comm (a b : Cell) (ha : ¬ badC a) (hb : ¬ badC b) : ctimes a b = ctimes b a := by
  have h1 : within a.n = true := by simp only [badC, not_or] at ha; simpa using ha.2.2.1
  have h2 : within b.n = true := by simp only [badC, not_or] at hb; simpa using hb.2.2.1
  have s1 := size_eq h1
  have s2 := size_eq h2
  simp only [within, Bool.and_eq_true, decide_eq_true_eq] at h1 h2
  have big : ∀ x y : Int, 0 < x → 0 ≤ y → ((wi (Int.tdiv 1000000000000 x) < y) ↔ 1000000000000 < x * y) := by
    intro x y hx hy
    have hd : Int.tdiv 1000000000000 x = 1000000000000 / x := Int.tdiv_eq_ediv_of_nonneg (by omega)
    have h3 : 1000000000000 / x ≤ 1000000000000 := Int.ediv_le_self _ (by omega)
    have h4 : 0 ≤ 1000000000000 / x := Int.ediv_nonneg (by omega) (by omega)
    rw [hd, wiid (by omega) (by omega), Int.ediv_lt_iff_lt_mul hx, Int.mul_comm y x]
  have key : ∀ x y : Int, -1000000000000 ≤ x → x ≤ 1000000000000 → -1000000000000 ≤ y → y ≤ 1000000000000 → ((¬ x = 0 ∧ wi (Int.tdiv 1000000000000 (if x < 0 then -x else x)) < (if y < 0 then -y else y)) ↔ 1000000000000 < (if x < 0 then -x else x) * (if y < 0 then -y else y)) := by
    intro x y x1 x2 y1 y2
    by_cases h0 : x = 0
    · subst h0
      simp
    · have hy0 : 0 ≤ (if y < 0 then -y else y) := by split <;> omega
      have hx0 : 0 < (if x < 0 then -x else x) := by split <;> omega
      rw [← big _ _ hx0 hy0]
      simp [h0]
  unfold ctimes
  simp only [s1, s2, key a.n b.n h1.1 h1.2 h2.1 h2.2, key b.n a.n h2.1 h2.2 h1.1 h1.2, Int.mul_comm b.n a.n]
  rw [Int.mul_comm (if b.n < 0 then -b.n else b.n)]
  by_cases c1 : a.k = 2 <;> by_cases c2 : b.k = 2 <;> by_cases c3 : a.k = 0 <;> by_cases c4 : b.k = 0 <;> simp [c1, c2, c3, c4]
theorem p119 (a b : Cell) (s : ByteArray) (hs : s.size ≤ 281474976710656) : P119 a b s = some true := by
  have e2 : cellOf 2 = ⟨1, 2⟩ := by decide
  have e3 : cellOf 3 = ⟨1, 3⟩ := by decide
  have e5 : cellOf 5 = ⟨1, 5⟩ := by decide
  have e23 : cboth ⟨1, 2⟩ ⟨1, 3⟩ (cplus ⟨1, 2⟩ ⟨1, 3⟩ 1) = (⟨1, 5⟩, .nil) := by decide
  simp only [P119, S119, P8_eq, e2, e3, e5, P9_eq, P10_eq, P12_eq, bno_s, e23, nil_isNil, Bool.not_true, br_false, decide_true, Bool.and_self, not_true, decide_false, inlO_s, jn_l, P138_eq hs]
  -- what is read
  have r1 : ∀ k : Unit → Option Bool, jn (σ := Unit) (α := Bool) (br (Err.isNil (parseC s).2) (bno (P139 (parseC s).1) fun y8 => jn (σ := Bool) (α := (Sum Unit Bool)) (br (!(Err.isNil y8.2)) (some (Sum.inl true)) (some (Sum.inl (decide (¬ y8.1 = s))))) fun x9 => br x9 (inrO (some false)) (some (Sum.inl ()))) (some (Sum.inl ()))) k = k () := by
    intro k
    cases hq : (parseC s).2 with
    | nil => simp [parse_print hq]
    | no x => simp [Err.isNil]
    | oth x => simp [Err.isNil]
  rw [r1]
  obtain ⟨t, e, ht, he, he2⟩ := print_parse a
  rw [ht]
  simp only [bno_s]
  have r2 : ∀ k : Unit → Option Bool, jn (σ := Unit) (α := Bool) (br (Err.isNil e) (bno (P138 t) fun y12 => jn (σ := Bool) (α := (Sum Unit Bool)) (br (!(Err.isNil y12.2)) (some (Sum.inl true)) (some (Sum.inl (!(decide (y12.1.k = a.k) && (decide (y12.1.n = a.n) && true)))))) fun x13 => br x13 (inrO (some false)) (some (Sum.inl ()))) (some (Sum.inl ()))) k = k () := by
    intro k
    rcases he2 with rfl | rfl
    · obtain ⟨_, h1, h2⟩ := he rfl
      simp [P138_eq h1, h2]
    · simp [Err.isNil]
  rw [r2]
  by_cases hba : badC a
  · simp [cboth, hba, Err.isNil]
  by_cases hbb : badC b
  · simp [cboth, hba, hbb, Err.isNil]
  have hb0 : ¬ badC ⟨0, 0⟩ := by decide
  have hbx : ¬ badC (cplus a b 1) := by
    unfold cplus
    split
    · decide
    · split
      · decide
      · unfold cellOf
        split
        · rename_i h
          intro hb
          rcases hb with h1 | h1 | h1 | ⟨h1, _⟩
          · simp at h1
          · simp at h1
          · simp only [h] at h1; cases h1
          · exact h1 rfl
        · decide
  simp only [cboth, hba, hbb, hb0, hbx, or_self, if_false, nil_isNil, Bool.not_true, br_false, inlO_s, jn_l, eq_cell, plus_comm b a hbb hba, times_comm b a hbb hba, plus_zero a hba, decide_true]
  by_cases k1 : a.k = 2
  · have x1 : (cplus a b 1).k = 2 := by simp [cplus, k1]
    have x2 : (ctimes a b).k = 2 := by simp [ctimes, k1]
    simp [k1, x1, x2]
  · by_cases k2 : b.k = 2
    · have x1 : (cplus a b 1).k = 2 := by simp [cplus, k2]
      have x2 : (ctimes a b).k = 2 := by simp [ctimes, k2]
      simp [k1, k2, x1, x2]
    · by_cases k3 : (cplus a b 1).k = 1
      · by_cases k4 : a.k = 1
        · simp [k1, k2, k3, k4, plus_back a b hba hbb k4 k2 k3]
        · simp [k1, k2, k3, k4]
      · simp [k1, k2, k3]
end Ab
