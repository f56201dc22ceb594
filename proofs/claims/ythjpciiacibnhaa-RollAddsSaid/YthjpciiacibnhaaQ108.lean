/-
  Plain law: RollAdds answers true.
-/
import Derived.Test.YthjpciiacibnhaaW108
import Derived.Test.YthjpciiacibnhaaQIn
import Derived.Test.YthjpciiacibnhaaQRp
namespace Ab
open Go
set_option linter.unusedVariables false
set_option linter.unusedSimpArgs false

theorem wi_swap (s x y : Int) : wi (wi (s + x) + y) = wi (wi (s + y) + x) := by
  simp only [wi, IntKind.wrap, IntKind.bits, IntKind.signed]
  simp
  omega
theorem add_comm2 (o : List Dim) (p : List Int) (c : Int × Int) (e f : Entry) : addE o p (addE o p c e) f = addE o p (addE o p c f) e := by
  unfold addE
  cases pwL (zip3 o p e.at_) with
  | none => cases pwL (zip3 o p f.at_) <;> rfl
  | some w =>
    cases pwL (zip3 o p f.at_) with
    | none => rfl
    | some v =>
      by_cases hw : w = 0
      · simp [hw]
      · by_cases hv : v = 0
        · simp [hw, hv]
        · simp only [hw, hv, if_false]
          rw [wi_swap]
theorem add_last (o : List Dim) (p : List Int) (e : Entry) : ∀ (l : List Entry) (c : Int × Int), l.foldl (addE o p) (addE o p c e) = addE o p (l.foldl (addE o p) c) e
  | [], c => rfl
  | f :: l, c => by
    simp only [List.foldl_cons]
    rw [add_comm2, add_last o p e l]
theorem roll_ins (o : List Dim) (p : List Int) (e : Entry) (a b : List Entry) : rollV o (a ++ e :: b) p = addE o p (rollV o (a ++ b) p) e := by
  unfold rollV
  rw [List.foldl_append, List.foldl_append, List.foldl_cons, add_last]
def oneO2 : List Dim := [Dim.mk (⟨#[97]⟩ : ByteArray) 0 [Member.mk (⟨#[98]⟩ : ByteArray) (-1) 0 (⟨#[]⟩ : ByteArray), Member.mk (⟨#[99]⟩ : ByteArray) 0 1 (⟨#[]⟩ : ByteArray), Member.mk (⟨#[100]⟩ : ByteArray) 0 (-1) (⟨#[]⟩ : ByteArray)]]
theorem fact108 : entsE oneO2 [⟨[1], 7⟩, ⟨[2], 3⟩] = 0 ∧ fitsE oneO2 [0] = 0 ∧ (rollV oneO2 [⟨[1], 7⟩, ⟨[2], 3⟩] [0]).2 = 4 := by decide +kernel
theorem p108 (o : List Dim) (ho : Lst Dim.gd o) (l : List Entry) (hl : Lst Entry.gd l) (p : List Int) (hp : Lst I64 p) (q : List Int) (hq : Lst I64 q) (n : Int) (hn : I64 n) : P108 o l p q n = some true := by
  obtain ⟨f1, f2, f3⟩ := fact108
  have h2 : Lst Entry.gd [⟨[1], 7⟩, ⟨[2], 3⟩] := by
    refine ⟨by simp, fun x hx => ?_⟩
    simp only [List.mem_cons, List.not_mem_nil, or_false] at hx
    rcases hx with rfl | rfl <;> refine ⟨⟨by simp, fun y hy => ?_⟩, by simp [I64]⟩ <;> (simp at hy; subst hy; simp [I64])
  have fa : P110 oneO2 [⟨[1], 7⟩, ⟨[2], 3⟩] [0] = some (⟨(rollV oneO2 [⟨[1], 7⟩, ⟨[2], 3⟩] [0]).1, 4⟩, .nil) := by
    rw [P110_eq h2 (by simp), if_pos f1, if_pos f2, f3]
  simp only [P108, S108]
  rw [show ([Dim.mk (⟨#[97]⟩ : ByteArray) (0 : Int) ([Member.mk (⟨#[98]⟩ : ByteArray) (-1 : Int) (0 : Int) (⟨#[]⟩ : ByteArray), Member.mk (⟨#[99]⟩ : ByteArray) (0 : Int) (1 : Int) (⟨#[]⟩ : ByteArray), Member.mk (⟨#[100]⟩ : ByteArray) (0 : Int) (-1 : Int) (⟨#[]⟩ : ByteArray)] : List Member)] : List Dim) = oneO2 from rfl, fa]
  simp only [bno_s, nil_isNil, Bool.not_true, br_false, not_true, decide_false, inlO_s, jn_l]
  rw [P110_eq hl hp.1, P26_eq hl hq.1, P25_eq hl hq.1]
  simp only [bno_s]
  by_cases h0 : entsE o l = 0
  case neg => simp [h0, errOf_nil]
  by_cases h1 : fitsE o p = 0
  case neg => simp [h0, h1, errOf_nil]
  by_cases h3 : fitsE o q = 0
  case neg => simp [h0, h1, h3, errOf_nil]
  by_cases h4 : (oneL o l ⟨q, n, false⟩).2 = 0
  case neg => simp [h0, h1, h3, errOf_nil, h4]
  simp only [h0, h1, h3, if_true, nil_isNil, Bool.not_true, br_false, errOf_nil, h4, decide_true]
  cases hg : getL l q with
  | some v => simp [cellL]
  | none =>
    obtain ⟨ok, hf, hlf, hv, hx⟩ := set_ok h4
    have okx := ok.put hf hlf hv
    have hxl := okx.gd ok.out.dm
    have e0 : entsE o (putL l q n) = 0 := ents_ok.2 okx
    have hno : hasL l q = false := by rw [has_get, hg]; rfl
    have hput : putL l q n = l.take (locL l q) ++ ⟨q, n⟩ :: l.drop (locL l q) := by rw [put_at, hno]; rfl
    have hroll : rollV o (putL l q n) p = addE o p (rollV o l p) ⟨q, n⟩ := by rw [hput, roll_ins, List.take_append_drop]
    have hout : (outErr o).2.2 = 0 := out_ok.2 ok.out
    have hpl1 : placeE o p = 0 := by unfold placeE; rw [if_pos hout]; exact h1
    have hpl2 : placeE o q = 0 := by unfold placeE; rw [if_pos hout]; exact h3
    simp only [cellL, not_true, decide_false, inlO_s, jn_l, br_false]
    rw [hx, P110_eq hxl hp.1, hroll, P111_eq o p q hp.1 hq.1]
    simp only [e0, h1, if_true, bno_s, nil_isNil, Bool.not_true, br_false, hpl1, hpl2, hlf, Bool.and_true, pwR]
    unfold addE
    cases hw : pwL (zip3 o p q) with
    | none => simp [hw, errOf]
    | some w =>
      by_cases hz : w = 0
      · simp [hw, hz]
      · simp [hw, hz]
end Ab
