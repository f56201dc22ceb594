/-
  Plain law: PlaceBack answers true.
-/
import Derived.Test.YthjpciiacibnhaaDoorW116
import Derived.Test.YthjpciiacibnhaaDoorQPr
namespace Ab
open Go
set_option linter.unusedVariables false
set_option linter.unusedSimpArgs false

theorem p116 (o : List Dim) (p : List Int) (hp : p.length ≤ 9223372036854775807) (n : Int) (s : ByteArray) (hs : s.size ≤ 1048576) : P116 o p n s = some true := by
  have h1 : P131 ([Dim.mk (⟨#[97]⟩ : ByteArray) (0 : Int) ([Member.mk (⟨#[98]⟩ : ByteArray) (-1 : Int) (0 : Int) (⟨#[]⟩ : ByteArray), Member.mk (⟨#[99]⟩ : ByteArray) (-1 : Int) (0 : Int) (⟨#[]⟩ : ByteArray)] : List Member)] : List Dim) (⟨#[99]⟩ : ByteArray) = some ([1], .nil) := by
    rw [P131_eq _ _ (by decide), if_pos (by decide +kernel)]
    have : readL ([Dim.mk (⟨#[97]⟩ : ByteArray) (0 : Int) ([Member.mk (⟨#[98]⟩ : ByteArray) (-1 : Int) (0 : Int) (⟨#[]⟩ : ByteArray), Member.mk (⟨#[99]⟩ : ByteArray) (-1 : Int) (0 : Int) (⟨#[]⟩ : ByteArray)] : List Member)] : List Dim) (⟨#[99]⟩ : ByteArray) = ([1], 0) := by decide +kernel
    rw [this]
    rfl
  have h2 : lookI ([1] : List Int) 0 = some 1 := rfl
  have e98 := P98_eq o n
  have e131 := P131_eq o s hs
  have e132 := P132_eq o p hp
  simp only [P116, S116, h1, h2, bno_s, nil_isNil, Bool.not_true, br_false, List.length_cons, List.length_nil]
  by_cases hout : (outErr o).2.2 = 0
  · have ok := out_ok.1 hout
    have hpos : ∀ d ∈ o, 0 < d.members.length := fun d hd => (ok.dims d hd).len.1
    have hz := ok.sizeN
    rw [if_pos hout] at e98 e131
    -- the number, and back
    have b1 : ¬ (n < 0 ∨ sizeW o ≤ n) → P132 o (digs o n.toNat).1 = some (n, .nil) := by
      intro hn
      have hf := digs_fit ok n.toNat
      have hl := hf.len
      have hol := ok.len
      rw [P132_eq o _ (by omega), if_pos (place_ok.2 ⟨ok, hf⟩), digs_num hpos (by omega)]
      congr 2
      omega
    have b2 : placeE o p = 0 → P98 o ((numN o p : Nat) : Int) = some (p, .nil) ∧ P133 o p = some (printL o p, .nil) ∧ P131 o (printL o p) = some (p, .nil) := by
      intro h0
      have hf := (place_ok.1 h0).2
      have hlt := num_lt hf
      refine ⟨?_, ?_, ?_⟩
      · rw [P98_eq, if_pos hout, if_neg (by omega), Int.toNat_natCast, num_digs hpos hf]
      · rw [P133_eq o p hp, if_pos h0]
      · rw [P131_eq o _ (Nat.le_trans (print_size ok hf) (by omega)), if_pos hout, read_print ok hf]
        rfl
    have b3 : (readL o s).2 = 0 → P133 o (readL o s).1 = some (s, .nil) := by
      intro h0
      obtain ⟨hf, hp2⟩ := print_read h0
      have hl := hf.len
      have hol := ok.len
      rw [P133_eq o _ (by omega), if_pos (place_ok.2 ⟨ok, hf⟩), hp2]
    have e28 := P28_eq p p hp
    rw [decide_eq_true rfl] at e28
    have c3 : br (!Err.isNil (errOf (readL o s).2)) (some true) (bno (P133 o (readL o s).1) fun y17 => jn (σ := Bool) (α := Bool) (br (Err.isNil y17.2) (inlO (some (decide (y17.1 = s)))) (inlO (some false))) fun x18 => some x18) = some true := by
      by_cases h0 : (readL o s).2 = 0
      · rw [b3 h0]; simp [h0, errOf]
      · simp [errOf, h0]
    rw [e98, e132, e131]
    simp only [bno_s]
    rw [c3]
    by_cases hn : n < 0 ∨ sizeW o ≤ n <;> by_cases h0 : placeE o p = 0
    · obtain ⟨a1, a2, a3⟩ := b2 h0
      simp [hn, h0, a1, a2, a3, e28]
    · simp [hn, h0, errOf]
    · obtain ⟨a1, a2, a3⟩ := b2 h0
      simp [hn, h0, a1, a2, a3, e28, b1 hn]
    · simp [hn, h0, b1 hn, errOf]
  · have h0 : ¬ placeE o p = 0 := fun h => hout (out_ok.2 (place_ok.1 h).1)
    rw [if_neg hout] at e98 e131
    rw [e98, e132, e131]
    simp [h0, hout, errOf]
end Ab
