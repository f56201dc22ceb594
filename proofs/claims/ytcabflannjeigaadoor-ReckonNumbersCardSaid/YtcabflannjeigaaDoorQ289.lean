/-
  Plain law: ReckonNumbers answers true.
-/
import Derived.Test.YtcabflannjeigaaDoorW289
import Derived.Test.YtcabflannjeigaaDoorC9
import Derived.Test.YtcabflannjeigaaDoorQVs
import Derived.Test.YtcabflannjeigaaDoorQDi
import Derived.Test.YtcabflannjeigaaDoorLG
namespace Ab
open Go
set_option linter.unusedVariables false
set_option linter.unusedSimpArgs false

theorem cellOf_in1 {n : Int} (h : within n = true) : cellOf n = ⟨1, n⟩ := by unfold cellOf; rw [if_pos h]
theorem within_of {n : Int} (h0 : -1000000000000 ≤ n) (h1 : n ≤ 1000000000000) : within n = true := by
  simp only [within, Bool.and_eq_true, decide_eq_true_eq]
  omega
theorem read_value {e : Fx} (hf : e.Fine) (hz : e.sz ≤ 30) (hs : e.text.size ≤ 100) (hr : ∀ s, s ∉ e.refs) : P248 e.text = some (e.po 0, 0, .nil) ∧ P293 (e.po 0) [] [] = some (e.val [] [], .nil) := by
  have ok := po_ok hf hz
  have ht := po_tr e
  have hv := valF_nil ok (no_refs fun s h => hr s ((refs_mem ok ht hf s).1 h))
  refine ⟨P248_back hf hz hs, ?_⟩
  rw [P293_tree ok ht hf [] [] (by simp) (by simp), if_pos hv]
theorem p289 (a : Int) (ha : I64 a) (b : Int) (hb : I64 b) (c : Int) (hc : I64 c) : P289 a b c = some true := by
  have e5 : P8 5 = some ⟨1, 5⟩ := by rw [P8_eq]; rfl
  simp only [P289, S289, e5, bno_s]
  rw [br_dec, if_neg (by simp)]
  by_cases h : 0 ≤ a ∧ a ≤ 1000 ∧ 0 ≤ b ∧ b ≤ 1000 ∧ 0 ≤ c ∧ c ≤ 1000
  rotate_left
  · have q : ∀ k : Bool → Option Bool, jn (σ := Bool) (α := Bool) (br (decide (a < (0 : Int)))
      (inlO (some true))
      (br (decide ((1000 : Int) < a))
      (inlO (some true))
      (br (decide (b < (0 : Int)))
      (inlO (some true))
      (br (decide ((1000 : Int) < b))
      (inlO (some true))
      (br (decide (c < (0 : Int)))
      (inlO (some true))
      (inlO (some (decide ((1000 : Int) < c))))))))) k = k true := by
      intro k
      simp only [br_dec]
      repeat' split
      all_goals first | rfl | (rw [decide_eq_true (by omega)]; rfl)
    rw [q, br_true]
  obtain ⟨a0, a1, b0, b1, c0, c1⟩ := h
  have q : ∀ k : Bool → Option Bool, jn (σ := Bool) (α := Bool) (br (decide (a < (0 : Int)))
      (inlO (some true))
      (br (decide ((1000 : Int) < a))
      (inlO (some true))
      (br (decide (b < (0 : Int)))
      (inlO (some true))
      (br (decide ((1000 : Int) < b))
      (inlO (some true))
      (br (decide (c < (0 : Int)))
      (inlO (some true))
      (inlO (some (decide ((1000 : Int) < c))))))))) k = k false := by
    intro k
    rw [br_dec, if_neg (by omega), br_dec, if_neg (by omega), br_dec, if_neg (by omega), br_dec, if_neg (by omega), br_dec, if_neg (by omega), decide_eq_false (by omega)]
    rfl
  rw [q, br_false]
  have wa : within a = true := within_of (by omega) (by omega)
  have wb : within b = true := within_of (by omega) (by omega)
  have wc : within c = true := within_of (by omega) (by omega)
  have sa := (num_size (n := a) (by omega)).2
  have sb := (num_size (n := b) (by omega)).2
  have sc := (num_size (n := c) (by omega)).2
  have s1 : ByteArray.size (⟨#[42]⟩ : ByteArray) = 1 := rfl
  have s2 : ByteArray.size (⟨#[43]⟩ : ByteArray) = 1 := rfl
  have s3 : ByteArray.size (⟨#[45, 40]⟩ : ByteArray) = 2 := rfl
  have s4 : ByteArray.size (⟨#[45]⟩ : ByteArray) = 1 := rfl
  have s5 : ByteArray.size (⟨#[41]⟩ : ByteArray) = 1 := rfl
  have fa : (Fx.num a).Fine := by constructor <;> omega
  have fb : (Fx.num b).Fine := by constructor <;> omega
  have fc : (Fx.num c).Fine := by constructor <;> omega
  have f1 : (Fx.bin 3 (.bin 5 (.num a) (.num b)) (.num c)).Fine := ⟨by decide, by decide, ⟨by decide, by decide, fa, fb⟩, fc⟩
  have f2 : (Fx.bin 4 (.num a) (.bin 4 (.num b) (.num c))).Fine := ⟨by decide, by decide, fa, ⟨by decide, by decide, fb, fc⟩⟩
  have t1 : (((itoaB a ++ (⟨#[42]⟩ : ByteArray)) ++ itoaB b) ++ (⟨#[43]⟩ : ByteArray)) ++ itoaB c = (Fx.bin 3 (.bin 5 (.num a) (.num b)) (.num c)).text := rfl
  have t2 : ((((itoaB a ++ (⟨#[45, 40]⟩ : ByteArray)) ++ itoaB b) ++ (⟨#[45]⟩ : ByteArray)) ++ itoaB c) ++ (⟨#[41]⟩ : ByteArray) = (Fx.bin 4 (.num a) (.bin 4 (.num b) (.num c))).text := by
    have e : (Fx.bin 4 (.num a) (.bin 4 (.num b) (.num c))).text = itoaB a ++ (⟨#[45]⟩ : ByteArray) ++ ((⟨#[40]⟩ : ByteArray) ++ (itoaB b ++ (⟨#[45]⟩ : ByteArray) ++ itoaB c) ++ (⟨#[41]⟩ : ByteArray)) := rfl
    rw [e]
    apply ByteArray.ext
    apply Array.toList_inj.1
    simp [ByteArray.data_append]
  obtain ⟨r1, v1⟩ := read_value f1 (by show 5 ≤ 30; decide) (by rw [← t1]; simp only [ByteArray.size_append, s1, s2]; omega) (by simp [Fx.refs])
  obtain ⟨r2, v2⟩ := read_value f2 (by show 5 ≤ 30; decide) (by rw [← t2]; simp only [ByteArray.size_append, s3, s4, s5]; omega) (by simp [Fx.refs])
  rw [P159_eq wa, bno_s, P159_eq wb, bno_s, P159_eq wc, bno_s]
  rw [ck_pos (by rw [s1]; omega), ck_pos (by simp only [ByteArray.size_append, s1]; omega), ck_pos (by simp only [ByteArray.size_append, s1, s2]; omega), ck_pos (by simp only [ByteArray.size_append, s1, s2]; omega), t1, r1, bno_s]
  rw [ck_pos (by rw [s3]; omega), ck_pos (by simp only [ByteArray.size_append, s3]; omega), ck_pos (by simp only [ByteArray.size_append, s3, s4]; omega), ck_pos (by simp only [ByteArray.size_append, s3, s4]; omega), ck_pos (by simp only [ByteArray.size_append, s3, s4, s5]; omega), t2, r2, bno_s]
  simp only [v1, v2, bno_s, P8_eq, show Err.isNil .nil = true from rfl, br_true]
  have m0 : 0 ≤ a * b := Int.mul_nonneg a0 b0
  have m1 : a * b ≤ 1000 * 1000 := Int.mul_le_mul a1 b1 b0 (by omega)
  have x1 : (Fx.bin 3 (.bin 5 (.num a) (.num b)) (.num c)).val [] [] = cellOf (wi (wi (a * b) + c)) := by
    show cplus (ctimes (cellOf a) (cellOf b)) (cellOf c) 1 = _
    have e1 : ctimes (cellOf a) (cellOf b) = ⟨1, a * b⟩ := by
      rw [cellOf_in1 wa, cellOf_in1 wb]
      unfold ctimes
      simp only [size_eq wa, size_eq wb]
      rw [if_neg (by omega), if_neg (by omega), if_neg, wiid (by omega) (by omega), cellOf_in1 (within_of (by omega) (by omega))]
      rw [if_neg (by omega), if_neg (by omega)]
      rintro ⟨h0, h1⟩
      rw [Int.tdiv_eq_ediv_of_nonneg (by omega)] at h1
      have h2 : 1000000000000 / a ≤ 1000000000000 := Int.ediv_le_self _ (by omega)
      have h3 : 1000000000000 / 1000 ≤ 1000000000000 / a := by
        rw [Int.le_ediv_iff_mul_le (by omega)]
        have : (1000000000000 : Int) / 1000 = 1000000000 := by decide
        rw [this]
        omega
      have : (1000000000000 : Int) / 1000 = 1000000000 := by decide
      rw [wiid (by omega) (by omega)] at h1
      omega
    rw [e1, cellOf_in1 wc]
    unfold cplus
    simp only
    rw [if_neg (by omega), if_neg (by omega), Int.one_mul, wiid (n := c) (by omega) (by omega), wiid (n := a * b) (by omega) (by omega)]
  have x2 : (Fx.bin 4 (.num a) (.bin 4 (.num b) (.num c))).val [] [] = cellOf (wi (a - wi (b - c))) := by
    show cplus (cellOf a) (cplus (cellOf b) (cellOf c) (-1)) (-1) = _
    have e1 : cplus (cellOf b) (cellOf c) (-1) = ⟨1, b - c⟩ := by
      rw [cellOf_in1 wb, cellOf_in1 wc]
      unfold cplus
      simp only
      rw [if_neg (by omega), if_neg (by omega), wiid (n := -1 * c) (by omega) (by omega), wiid (by omega) (by omega), cellOf_in1 (within_of (by omega) (by omega)), show b + -1 * c = b - c by omega]
    rw [e1, cellOf_in1 wa]
    unfold cplus
    simp only
    rw [if_neg (by omega), if_neg (by omega), wiid (n := -1 * (b - c)) (by omega) (by omega), wiid (n := b - c) (by omega) (by omega), show a + -1 * (b - c) = a - (b - c) by omega]
  rw [x1, x2]
  simp only [decide_true, Bool.and_self, br_true, bno_s, inlO_s, jn_l]
end Ab
