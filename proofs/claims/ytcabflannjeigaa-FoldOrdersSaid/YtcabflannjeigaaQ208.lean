/-
  Plain law: FoldOrders answers true.
-/
import Derived.Test.YtcabflannjeigaaW208
import Derived.Test.YtcabflannjeigaaQWo
import Derived.Test.YtcabflannjeigaaC6
import Derived.Test.YtcabflannjeigaaC5
import Derived.Test.YtcabflannjeigaaQS
namespace Ab
open Go
set_option linter.unusedVariables false
set_option linter.unusedSimpArgs false

/-- Cells folded by dims are cells folded by those dims and those that were folded. -/
theorem foldO_inv {o : List Dim} {l : List Entry} (eo : EntsOk o l) : ∀ (order : List Int) (S : Nat → Bool) (cs : List Cell), (∀ x ∈ order, 0 ≤ x ∧ x < ((o.length : Nat) : Int)) → InvS o l S cs →
    InvS o l (fun i => S i || decide ((i : Int) ∈ order)) (foldO o cs order)
  | [], S, cs, _, h => by
    have : (fun i => S i || decide ((i : Int) ∈ ([] : List Int))) = S := by funext i; simp
    rw [this]
    exact h
  | x :: r, S, cs, hx, h => by
    obtain ⟨h0, h1⟩ := hx x (by simp)
    obtain ⟨n, rfl⟩ := Int.eq_ofNat_of_zero_le h0
    have hd := List.getElem?_eq_getElem (l := o) (i := n) (by omega)
    have e : onceC o cs (n : Int) = foldC o n o[n].members cs := by unfold onceC; rw [Int.toNat_natCast, hd]
    have hs := fold_inv eo.out hd eo (S := S) (T := fun i => S i || decide (i = n)) (fun i hi => by simp [hi]) (by simp) h
    have := foldO_inv eo r _ _ (fun y hy => hx y (List.mem_cons_of_mem _ hy)) hs
    have e2 : (fun i => (S i || decide (i = n)) || decide ((i : Int) ∈ r)) = fun i => S i || decide ((i : Int) ∈ (n : Int) :: r) := by
      funext i
      rw [Bool.eq_iff_iff]
      simp only [Bool.or_eq_true, decide_eq_true_eq, List.mem_cons, Int.ofNat_inj]
      exact or_assoc
    rw [e2] at this
    unfold foldO at this ⊢
    rw [List.foldl_cons, e]
    exact this
theorem all_inv {o : List Dim} {l : List Entry} (eo : EntsOk o l) {order : List Int} (hE : eachB o order = true) : InvS o l (fun _ => true) (foldO o (writeC o l) order) := by
  have hE : order.length = o.length ∧ Each order := by unfold eachB at hE; exact of_decide_eq_true hE
  obtain ⟨hl, hn, hr⟩ := hE
  obtain ⟨h1, h2⟩ := foldO_inv eo order _ _ (fun x hx => by have := hr x hx; omega) (write_inv eo)
  refine ⟨h1, fun n hn' => ?_⟩
  rw [h2 n hn']
  congr 1
  refine cellE_congr fun e he => wS_congr _ 0 fun j h3 h4 => ?_
  have hz : (zip3 o (digs o n).1 e.at_).length = o.length := by rw [zip3_len (digs_len o n) (eo.fit e he).len, digs_len]
  rw [hz] at h4
  have hall : (j : Int) ∈ order := by
    have := (sort_perm order).mem_iff (a := (j : Int))
    rw [(sort_rg order).2 ⟨hn, hr⟩] at this
    refine this.1 ?_
    unfold rgI
    exact List.mem_map.2 ⟨j, List.mem_range.2 (by omega), rfl⟩
  simp [hall]
theorem P132_eq8 (o : List Dim) (p : List Int) (h : p.length ≤ 9223372036854775807) : P132 o p = some (if placeE o p = 0 then (((numN o p : Nat) : Int), .nil) else (0, errOf (placeE o p))) := by
  simp only [P132, S132, P114_eq o p h, bno_s, errOf_nil]
  by_cases h0 : placeE o p = 0
  · obtain ⟨ok, hf⟩ := place_ok.1 h0
    simp [h0, P49_eq hf.len h, numW_eq ok hf]
  · simp [h0]
def oneO8 : List Dim := [Dim.mk (⟨#[97]⟩ : ByteArray) (0 : Int) ([Member.mk (⟨#[98]⟩ : ByteArray) (-1 : Int) (0 : Int) (⟨#[]⟩ : ByteArray), Member.mk (⟨#[99]⟩ : ByteArray) (0 : Int) (1 : Int) (⟨#[]⟩ : ByteArray)] : List Member)]
theorem fact208 : entsE oneO8 [⟨[1], 7⟩] = 0 ∧ eachB oneO8 [0] = true ∧ foldO oneO8 (writeC oneO8 [⟨[1], 7⟩]) [0] = [⟨1, 7⟩, ⟨1, 7⟩] := by decide +kernel
theorem p208 (o : List Dim) (ho : Lst Dim.gd o) (l : List Entry) (hl : Lst Entry.gd l) (order : List Int) (hb : order.length * 8 ≤ 140737488351232) (back : List Int) (hb2 : back.length * 8 ≤ 140737488351232) (p : List Int) (hp : Lst I64 p) : P208 o l order back p = some true := by
  obtain ⟨f1, f2, f3⟩ := fact208
  have hol := ho.1
  have hone : Lst Entry.gd [⟨[1], 7⟩] := by
    refine ⟨by simp, fun x hx => ?_⟩
    rw [List.mem_singleton] at hx
    subst hx
    refine ⟨⟨by simp, fun y hy => ?_⟩, by simp [I64]⟩
    simp at hy
    subst hy
    simp [I64]
  have e1 : P209 oneO8 [⟨[1], 7⟩] [0] = some ([⟨1, 7⟩, ⟨1, 7⟩], .nil) := by rw [P209_eq oneO8 (by simp [oneO8]) _ hone [0] (by simp), if_pos f1, if_pos f2, f3]
  have e8 : cellOf 7 = ⟨1, 7⟩ := by decide
  simp only [P208, S208]
  rw [show ([Dim.mk (⟨#[97]⟩ : ByteArray) (0 : Int) ([Member.mk (⟨#[98]⟩ : ByteArray) (-1 : Int) (0 : Int) (⟨#[]⟩ : ByteArray), Member.mk (⟨#[99]⟩ : ByteArray) (0 : Int) (1 : Int) (⟨#[]⟩ : ByteArray)] : List Member)] : List Dim) = oneO8 from rfl, e1]
  have hlk : lookI ([⟨1, 7⟩, ⟨1, 7⟩] : List Cell) (0 : Int) = some ⟨1, 7⟩ := rfl
  have h2 : (((([⟨1, 7⟩, ⟨1, 7⟩] : List Cell).length : Nat)) : Int) = 2 := rfl
  simp only [bno_s, nil_isNil, Bool.not_true, br_false, h2, not_true, decide_false, hlk, P8_eq, e8, decide_true, Bool.and_self, inlO_s, jn_l]
  rw [P209_eq o hol l hl order hb, P209_eq o hol l hl back hb2]
  simp only [bno_s]
  by_cases h0 : entsE o l = 0
  case neg => simp [h0, errOf_nil]
  have eo := ents_ok.1 h0
  have hz := eo.out.sizeN
  cases hE1 : eachB o order with
  | false => simp [h0]
  | true =>
    cases hE2 : eachB o back with
    | false => simp [h0]
    | true =>
      obtain ⟨l1, g1⟩ := all_inv eo hE1
      obtain ⟨l2, g2⟩ := all_inv eo hE2
      have heq : foldO o (writeC o l) order = foldO o (writeC o l) back := by
        apply List.ext_getElem?
        intro n
        by_cases hn : n < sizeN o
        · rw [g1 n hn, g2 n hn]
        · rw [List.getElem?_eq_none (by omega), List.getElem?_eq_none (by omega)]
      simp only [h0, if_true, nil_isNil, Bool.not_true, br_false, inlO_s, jn_l]
      rw [← heq, P24_eq _ _ (by omega : (foldO o (writeC o l) order).length ≤ 9223372036854775807), P132_eq8 o p hp.1, P110_eq hl hp.1]
      simp only [decide_true, bno_s, Bool.not_true, br_false, h0, if_true]
      by_cases h3 : placeE o p = 0
      case neg => simp [h3, errOf_nil]
      have hf := (place_ok.1 h3).2
      have hfe := fits_ok.2 hf
      simp only [h3, hfe, if_true, nil_isNil, Bool.not_true, br_false, inlO_s, jn_l]
      have hlt := num_lt hf
      have hg := g1 _ hlt
      have hpp : (digs o (numN o p)).1 = p := by rw [num_digs eo.out.pos hf]
      rw [hpp, ← roll_eq eo] at hg
      have hlk2 : lookI (foldO o (writeC o l) order) ((numN o p : Nat) : Int) = some ⟨(rollV o l p).1, (rollV o l p).2⟩ := (lookI_nat _).trans hg
      have hc1 : (0 : Int) ≤ ((numN o p : Nat) : Int) := by omega
      have hc2 : ((numN o p : Nat) : Int) < (((foldO o (writeC o l) order).length : Nat) : Int) := by omega
      simp [hc1, hc2, hlk2]
end Ab
