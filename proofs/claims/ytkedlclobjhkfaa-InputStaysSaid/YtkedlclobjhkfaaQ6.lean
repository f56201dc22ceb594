/-
  Plain law: InputStays answers true.
-/
import Derived.Test.YtkedlclobjhkfaaW6
import Derived.Test.YtkedlclobjhkfaaQIn
import Derived.Test.YtkedlclobjhkfaaQS
import Derived.Test.YtkedlclobjhkfaaQC
namespace Ab
open Go
set_option linter.unusedVariables false
set_option linter.unusedSimpArgs false

def oneO : List Dim := [Dim.mk (⟨#[97]⟩ : ByteArray) 0 [Member.mk (⟨#[98]⟩ : ByteArray) (-1) 0 (⟨#[]⟩ : ByteArray)]]
theorem fact6 : oneL oneO [] ⟨[0], 7, false⟩ = ([⟨[0], 7⟩], 0) := by decide +kernel
theorem isNil_eq (e : Int) : Err.isNil (errOf e) = decide (e = 0) := errOf_nil
theorem p6 (o : List Dim) (ho : Lst Dim.gd o) (l : List Entry) (hl : Lst Entry.gd l) (p : List Int) (hp : Lst I64 p) (n : Int) (hn : I64 n) (q : List Int) (hq : Lst I64 q) : P6 o l p n q = some true := by
  have f1 : P25 oneO [] [0] 7 = some ([⟨[0], 7⟩], .nil) := by
    rw [P25_eq (by exact ⟨by simp, by simp⟩) (by simp), fact6]
    rfl
  simp only [P6, S6]
  rw [show ([Dim.mk (⟨#[97]⟩ : ByteArray) (0 : Int) ([Member.mk (⟨#[98]⟩ : ByteArray) (-1 : Int) (0 : Int) (⟨#[]⟩ : ByteArray)] : List Member)] : List Dim) = oneO from rfl, f1]
  have hlk : lookI [(⟨[0], 7⟩ : Entry)] 0 = some ⟨[0], 7⟩ := rfl
  simp only [bno_s, nil_isNil, Bool.not_true, br_false, List.length_singleton, hlk]
  rw [P25_eq hl hp.1]
  have c1 : ((1 : Nat) : Int) = 1 := rfl
  simp only [c1, not_true, decide_true, decide_false, Bool.not_true, br_false, inlO_s, jn_l, bno_s, isNil_eq]
  by_cases h0 : (oneL o l ⟨p, n, false⟩).2 = 0
  case neg => simp [h0]
  obtain ⟨ok, hf, hlf, hv, hx⟩ := set_ok h0
  rw [hx, h0]
  have okx := ok.put hf hlf hv
  have hxl := okx.gd ok.out.dm
  have hgs := get_put_self l p n
  have e0 : entsE o (putL l p n) = 0 := ents_ok.2 okx
  have el : entsE o l = 0 := ents_ok.2 ok
  have hfp : fitsE o p = 0 := fits_ok.2 hf
  have hw : within n = true := by
    simp only [valOk, Bool.and_eq_true, decide_eq_true_eq] at hv
    simp only [within, Bool.and_eq_true, decide_eq_true_eq]
    omega
  have hcell : cellOf n = ⟨1, n⟩ := by simp [cellOf, hw]
  simp only [decide_true, Bool.not_true, br_false, P26_eq hxl hp.1, e0, if_true, hfp, hgs, cellL, bno_s, nil_isNil, P8_eq, hcell, Bool.and_self, P27_eq o _ hxl, isNil_eq, inlO_s, jn_l]
  rw [P28_eq p q hp.1]
  rw [P26_eq hl hq.1, P26_eq hxl hq.1]
  simp only [el, e0, if_true, bno_s]
  have hhas : hasL (putL l p n) p = true := by rw [has_get, hgs]; rfl
  have h29 : P29 o (putL l p n) p = some (eraL (putL l p n) p, .nil) := by
    rw [P29_eq hxl hp.1]
    simp [oneL, e0, doL, hfp, hhas, errOf]
  have oky := okx.era (p := p)
  have hyl := oky.gd ok.out.dm
  have ey : entsE o (eraL (putL l p n) p) = 0 := ents_ok.2 oky
  have hge := get_era (l := putL l p n) p okx.ris
  have hlen := era_len hhas
  have hxlen := okx.len
  have last : (bno (P29 o (putL l p n) p) fun y13 => bno (P26 o y13.1 p) fun y14 => jn (σ := Bool) (α := Bool) (br (Err.isNil y13.2) (br (Err.isNil y14.2) (br (decide ((Cell.k y14.1) = (0 : Int))) (inlO (some (decide (((List.length y13.1 : Nat) : Int) = (wi (((List.length (putL l p n) : Nat) : Int) - (1 : Int))))))) (inlO (some false))) (inlO (some false))) (inlO (some false))) fun x15 => some x15) = some true := by
    rw [h29]
    simp only [bno_s, P26_eq hyl hp.1, ey, if_true, hfp, hge, cellL, nil_isNil, br_true, decide_true, inlO_s, jn_l]
    rw [wiid (by omega) (by omega)]
    have : (((eraL (putL l p n) p).length : Nat) : Int) = (((putL l p n).length : Nat) : Int) - 1 := by omega
    simp [this]
  have same : (decide (¬ p = q)) = true → getL (putL l p n) q = getL l q := fun h => get_put_other l n (of_decide_eq_true h)
  by_cases hfq : fitsE o q = 0
  · simp only [hfq, if_true, nil_isNil, not_true, decide_false, br_false]
    by_cases hpq : p = q
    · simp only [hpq, decide_true, Bool.not_true, br_false, inlO_s, jn_l]
      rw [hpq] at last
      exact last
    · rw [get_put_other l n hpq]
      simp only [hpq, decide_false, Bool.not_false, br_true, decide_true, Bool.and_self, Bool.not_true, inlO_s, jn_l, br_false]
      exact last
  · simp only [hfq, if_false, not_true, decide_false, br_false]
    by_cases hpq : p = q
    · exact absurd (hpq ▸ hfp) hfq
    · simp only [hpq, decide_false, Bool.not_false, br_true, decide_true, Bool.and_self, Bool.not_true, inlO_s, jn_l, br_false]
      exact last
end Ab
