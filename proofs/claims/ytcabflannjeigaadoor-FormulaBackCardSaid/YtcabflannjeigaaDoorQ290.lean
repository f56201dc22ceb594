/-
  Plain law: FormulaBack answers true.
-/
import Derived.Test.YtcabflannjeigaaDoorW290
import Derived.Test.YtcabflannjeigaaDoorC9
import Derived.Test.YtcabflannjeigaaDoorQVs
import Derived.Test.YtcabflannjeigaaDoorLG
namespace Ab
open Go
set_option linter.unusedVariables false
set_option linter.unusedSimpArgs false

theorem itoaB_one {u : Nat} (h : u < 10) : itoaB (u : Int) = ⟨#[UInt8.ofNat (48 + u)]⟩ := by
  unfold itoaB
  have : Lib.itoa (u : Int) = [UInt8.ofNat (48 + u)] := by
    unfold Lib.itoa
    rw [if_neg (by omega), Int.toNat_natCast, Lib.decDigits_one h]
  rw [this]
theorem p290 (l : List Node) (hl : Lst Node.gd l) (s : ByteArray) (hs : Str s) (names : List ByteArray) (hn : Lst Str names) (cells : List Cell) (hc : Lst Cell.gd cells) : P290 l s names cells = some true := by
  have hn1 := hn.1
  have hc1 := hc.1
  have e0 : P248 (⟨#[97, 45, 40, 98, 45, 50, 41]⟩ : ByteArray) = some ((Fx.bin 4 (.ref ⟨#[97]⟩) (.bin 4 (.ref ⟨#[98]⟩) (.num 2))).po 0, 0, .nil) := by
    have hf : (Fx.bin 4 (.ref ⟨#[97]⟩) (.bin 4 (.ref ⟨#[98]⟩) (.num 2))).Fine := ⟨by decide, by decide, by show nameBad _ = false; decide, by decide, by decide, by show nameBad _ = false; decide, by constructor <;> decide⟩
    have ht : (Fx.bin 4 (.ref ⟨#[97]⟩) (.bin 4 (.ref ⟨#[98]⟩) (.num 2))).text = (⟨#[97, 45, 40, 98, 45, 50, 41]⟩ : ByteArray) := by
      simp only [Fx.text]
      rw [show itoaB 2 = ⟨#[50]⟩ from itoaB_one (u := 2) (by decide)]
      decide
    rw [← ht]
    exact P248_back hf (by decide) (by rw [ht]; decide)
  simp only [P290, S290, e0, bno_s]
  change jn (σ := Bool) (α := Bool) (inlO (some false)) _ = some true
  simp only [inlO_s, jn_l, br_false]
  -- what is read is right
  have fin : (bno (P248 s) fun y13 =>
      br (!(Err.isNil y13.2.2))
      (some true)
      (bno (P244 y13.1) fun y14 =>
      jn (σ := Bool) (α := Bool) (br (Err.isNil y14.2)
      (bno (P241 y13.1) fun y15 =>
      br (Err.isNil y15)
      (inlO (some (decide (((ByteArray.size y14.1 : Nat) : Int) ≤ ((ByteArray.size s : Nat) : Int)))))
      (inlO (some false)))
      (inlO (some false))) fun x16 =>
      some x16)) = some true := by
    obtain ⟨⟨x, n, er⟩, hr⟩ := P248_some s
    rw [hr]
    simp only [bno_s]
    by_cases he : er = .nil
    · subst he
      obtain ⟨e, hf, ok, _, ht, hsz⟩ := P248_ok hr
      simp only [P244_ok ok ht hf, P241_eq, form_ok.2 ok, bno_s]
      rw [show errOf 0 = Err.nil from rfl]
      simp only [show Err.isNil .nil = true from rfl, Bool.not_true, br_false, br_true, inlO_s, jn_l]
      rw [decide_eq_true (by omega)]
    · have : Err.isNil er = false := by cases er <;> simp_all [Err.isNil]
      simp only [this, Bool.not_false, br_true]
  by_cases h0 : formE l = 0
  rotate_left
  · simp only [P244_bad h0, bno_s, errOf_nil, decide_eq_false h0, br_false, inlO_s, jn_l]
    exact fin
  have ok := form_ok.1 h0
  obtain ⟨e, ht, hf⟩ := tr_root ok
  have hm := ok.most
  have hz := tr_sz ok ht hf
  simp only [P244_ok ok ht hf, bno_s, show Err.isNil .nil = true from rfl, br_true, inlO_s, jn_l]
  by_cases h1 : e.text.size ≤ 100
  rotate_left
  · rw [decide_eq_false (by omega)]
    simp only [br_false, inlO_s, jn_l]
    exact fin
  rw [decide_eq_true (by omega)]
  have okx : FormOk (e.po 0) := po_ok hf (by omega)
  have htx := po_tr e
  have hv := valF_same ok okx ht htx hf hf (fun _ => Iff.rfl) names cells
  simp only [br_true, P248_back hf (by omega) h1, P244_ok okx htx hf, P293_tree ok ht hf names cells hn1 hc1, P293_tree okx htx hf names cells hn1 hc1, ← hv, bno_s, show Err.isNil .nil = true from rfl, Bool.not_true, br_false, not_true, decide_false, decide_true, Bool.and_self, inlO_s, jn_l]
  exact fin
end Ab
