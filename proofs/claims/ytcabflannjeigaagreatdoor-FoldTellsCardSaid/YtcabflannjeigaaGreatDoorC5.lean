import Derived.Test.YtcabflannjeigaaGreatDoorMRo
import Derived.Test.YtcabflannjeigaaGreatDoorC2
import Derived.Test.YtcabflannjeigaaGreatDoorC3
import Derived.Test.YtcabflannjeigaaGreatDoorC1
import Derived.Test.YtcabflannjeigaaGreatDoorQI
import Derived.Test.YtcabflannjeigaaGreatDoorC4
import Derived.Test.YtcabflannjeigaaGreatDoorQT2
import Derived.Test.YtcabflannjeigaaGreatDoorQS
section
namespace Ab
open Go
set_option linter.unusedVariables false
set_option linter.unusedSimpArgs false
set_option linter.unusedSectionVars false

/-! ### weights of places -/
section
variable {o : List Dim} {p k : List Int} (ok : OutOk o) (hp : Fit o p) (hk : Fit o k)
include ok hp hk
end

/-! ### what the reference says is wrong -/
theorem P123_eq (o : List Dim) (p : List Int) (h : p.length ≤ 9223372036854775807) : P123 o p = some (fitsE o p) := by
  simp only [P123, S123]
  unfold fitsE
  by_cases h1 : p.length = o.length
  · have e : ((p.length : Nat) : Int) = ((o.length : Nat) : Int) := by omega
    rw [if_neg (by simpa using h1)]
    simp only [e, not_true, decide_false, br_false]
    rw [any_loop badM (p.zip o) 1 0 (fun i y hy => ?_) (by rw [List.length_zip, ← h1, Nat.min_self]; simp [S123_L1])]
    · obtain ⟨e1, e2⟩ := List.getElem?_zip_eq_some.1 hy
      have hi := (List.getElem?_eq_some_iff.1 e1).1
      have e : ((i : Nat) : Int) < ((p.length : Nat) : Int) := by omega
      simp only [S123_L1, e, decide_true, br_true, lookI_nat, e1, e2, bno_s, badM]
      rw [wiid (by omega) (by omega)]
      by_cases c1 : y.1 < 0
      · simp [c1]
      · by_cases c2 : (y.2.members.length : Int) ≤ y.1 <;> simp [c1, c2]
  · have e : ¬ ((p.length : Nat) : Int) = ((o.length : Nat) : Int) := by omega
    rw [if_pos h1]
    simp [e]
theorem P125_eq (o : List Dim) : P125 o = some (outErr o).2.2 := by simp [P125, S125, P94_eq]
theorem P130_eq {o : List Dim} {p : List Int} (hf : Fit o p) (h : p.length ≤ 9223372036854775807) (hd : ∀ d ∈ o, d.members.length ≤ 1000) : P130 o p = some (leafP o p) := by
  simp only [P130, S130]
  rw [any_loop (fun x : Int × Dim => !leafB x.2.members x.1.toNat) (p.zip o) false true (fun i y hy => ?_) (by rw [List.length_zip, ← hf.len, Nat.min_self]; simp [S130_L1])]
  · rw [leafP, all_any]
    cases (p.zip o).any fun x => !leafB x.2.members x.1.toNat <;> rfl
  · obtain ⟨e1, e2⟩ := List.getElem?_zip_eq_some.1 hy
    have hi := (List.getElem?_eq_some_iff.1 e1).1
    have e : ((i : Nat) : Int) < ((p.length : Nat) : Int) := by omega
    have hm := hf.mem i _ _ e1 e2
    have hl := hd _ (List.mem_of_getElem? e2)
    obtain ⟨k, hk⟩ := Int.eq_ofNat_of_zero_le hm.1
    rw [hk] at hm e1
    simp only [S130_L1, e, decide_true, br_true, lookI_nat, e1, e2, bno_s, hk, P102_eq hl (by omega : k < y.2.members.length), Int.toNat_natCast]
    rw [wiid (by omega) (by omega)]
    cases leafB y.2.members k <;> rfl
theorem less_loop (a b : List Int) (h : a.length ≤ 9223372036854775807) : ∀ (n i : Nat), a.length - i = n → i ≤ a.length → i ≤ b.length → jn (lpO (S151_L1 a b) (i : Int)) (fun _ => some (decide (((List.length a : Nat) : Int) < ((List.length b : Nat) : Int)))) = some (decide (cmpL (a.drop i) (b.drop i) < 0)) := by
  intro n
  induction n with
  | zero =>
    intro i hi hl hb
    obtain rfl : i = a.length := by omega
    rw [lpO_dn (y := (a.length : Int)) (by simp [S151_L1])]
    rw [List.drop_length]
    simp only [jn_l]
    by_cases hlt : a.length < b.length
    · have e : ((a.length : Nat) : Int) < ((b.length : Nat) : Int) := by omega
      rw [List.drop_eq_getElem_cons hlt]
      simp [e, cmpL]
    · have e : ¬ ((a.length : Nat) : Int) < ((b.length : Nat) : Int) := by omega
      rw [List.drop_eq_nil_of_le (by omega)]
      simp [e, cmpL]
  | succ n ih =>
    intro i hi hl hb
    have hia : i < a.length := by omega
    have e : ((i : Nat) : Int) < ((a.length : Nat) : Int) := by omega
    rw [List.drop_eq_getElem_cons hia]
    by_cases hib : i < b.length
    · have e2 : ((i : Nat) : Int) < ((b.length : Nat) : Int) := by omega
      rw [List.drop_eq_getElem_cons hib]
      have hB : S151_L1 a b (i : Int) = some (if a[i] = b[i] then .nx ((i : Int) + 1) else .fin (decide (a[i] < b[i]))) := by
        simp only [S151_L1, e, e2, decide_true, br_true, inlO_s, jn_l, lookI_nat, List.getElem?_eq_getElem hia, List.getElem?_eq_getElem hib, bno_s]
        rw [wiid (by omega) (by omega)]
        by_cases c1 : a[i] = b[i] <;> simp [c1]
      by_cases c0 : a[i] = b[i]
      · rw [if_pos c0] at hB
        have hc : cmpL (a[i] :: a.drop (i + 1)) (b[i] :: b.drop (i + 1)) = cmpL (a.drop (i + 1)) (b.drop (i + 1)) := by
          simp only [cmpL]; rw [if_neg (by omega), if_neg (by omega)]
        rw [lpO_nx hB, hc]
        exact ih (i + 1) (by omega) (by omega) (by omega)
      · rw [if_neg c0] at hB
        rw [lpO_fin hB]
        by_cases c1 : a[i] < b[i]
        · have hc : cmpL (a[i] :: a.drop (i + 1)) (b[i] :: b.drop (i + 1)) = -1 := by simp only [cmpL]; rw [if_pos c1]
          rw [hc]; simp [c1]
        · have c2 : b[i] < a[i] := by omega
          have hc : cmpL (a[i] :: a.drop (i + 1)) (b[i] :: b.drop (i + 1)) = 1 := by simp only [cmpL]; rw [if_neg c1, if_pos c2]
          rw [hc]; simp [c1]
    · have e2 : ¬ ((i : Nat) : Int) < ((b.length : Nat) : Int) := by omega
      have e3 : ¬ ((a.length : Nat) : Int) < ((b.length : Nat) : Int) := by omega
      rw [List.drop_eq_nil_of_le (by omega : b.length ≤ i), lpO_dn (y := (i : Int)) (by simp [S151_L1, e, e2])]
      simp [e3, cmpL]
theorem P151_eq (a b : List Int) (h : a.length ≤ 9223372036854775807) : P151 a b = some (decide (cmpL a b < 0)) := by
  simp only [P151, S151, lp_eq]
  exact less_loop a b h a.length 0 (by omega) (Nat.zero_le _) (Nat.zero_le _)
theorem P122_eq (o : List Dim) (l : List Entry) (hl : Lst Entry.gd l) : P122 o l = some (entsE o l) := by
  simp only [P122, S122, P125_eq, bno_s]
  unfold entsE
  by_cases h0 : (outErr o).2.2 = 0
  case neg => simp [h0]
  have ok := out_ok.1 h0
  have hdm : ∀ d ∈ o, d.members.length ≤ 1000 := fun d hd => by have := (ok.dims d hd).len; omega
  have hlen := hl.1
  rw [if_neg (by simpa using h0)]
  simp only [h0, not_true, decide_false, br_false]
  have := range_loop (B := S122_L1 P123 P130 P151 o l) l.length (fun i => match l[i]? with
    | some e => if entE o l i e = 0 then none else some (entE o l i e)
    | none => none) (fun i hi => by
      have e : ((i : Nat) : Int) < ((l.length : Nat) : Int) := by omega
      have hm := List.getElem?_eq_getElem hi
      have hg := hl.2 _ (List.getElem_mem hi)
      generalize l[i] = x at hm hg
      have hat : x.at_.length ≤ 9223372036854775807 := hg.1.1
      simp only [S122_L1, e, decide_true, br_true, lookI_nat, hm, bno_s, P123_eq o _ hat]
      rw [wiid (n := (i : Int) + 1) (by omega) (by omega)]
      by_cases c1 : fitsE o x.at_ = 0
      case neg =>
        have hE : entE o l i x = fitsE o x.at_ := by unfold entE; rw [if_pos c1]
        simp [hE, c1]
      have hf := fits_ok.1 c1
      have c1' : ¬ ¬ fitsE o x.at_ = 0 := fun h => h c1
      simp only [c1, not_true, decide_false, br_false, P130_eq hf hat hdm, bno_s]
      cases c2 : leafP o x.at_ with
      | false =>
        have hE : entE o l i x = 6 := by unfold entE; rw [if_neg c1', if_pos c2]
        simp [hE]
      | true =>
        have c2' : ¬ leafP o x.at_ = false := by rw [c2]; simp
        have hv : ∀ k : Bool → Option (LR Int Int), jn (σ := Bool) (α := LR Int Int) (br (decide (x.n < -1000000)) (inlO (some true)) (inlO (some (decide ((1000000 : Int) < x.n))))) k = k (!valOk x.n) := by
          intro k
          unfold valOk
          by_cases d1 : x.n < -1000000
          · have : ¬ -1000000 ≤ x.n := by omega
            simp [d1, this]
          · have : -1000000 ≤ x.n := by omega
            by_cases d2 : 1000000 < x.n
            · have d3 : ¬ x.n ≤ 1000000 := by omega
              simp [d1, this, d2, d3]
            · have d3 : x.n ≤ 1000000 := by omega
              simp [d1, this, d2, d3]
        simp only [Bool.not_true, br_false, hv]
        cases c3 : valOk x.n with
        | false =>
          have hE : entE o l i x = 1 := by unfold entE; rw [if_neg c1', if_neg c2', if_pos c3]
          simp [hE]
        | true =>
          have c3' : ¬ valOk x.n = false := by rw [c3]; simp
          simp only [Bool.not_true, br_false]
          cases i with
          | zero =>
            have hE : entE o l 0 x = 0 := by unfold entE; rw [if_neg c1', if_neg c2', if_neg c3']
            simp [hE]
          | succ j =>
            have hj : j < l.length := by omega
            have ej := List.getElem?_eq_getElem hj
            have hgj := hl.2 _ (List.getElem_mem hj)
            have hE : entE o l (j + 1) x = if 0 ≤ cmpL l[j].at_ x.at_ then 7 else 0 := by unfold entE; rw [if_neg c1', if_neg c2', if_neg c3']; simp only [ej]
            have e0 : ¬ ((j + 1 : Nat) : Int) = 0 := by omega
            have e1 : ((j + 1 : Nat) : Int) - 1 = (j : Int) := by omega
            simp only [e0, decide_false, br_false, e1]
            rw [wiid (n := (j : Int)) (by omega) (by omega)]
            simp only [lookI_nat, ej, bno_s, P151_eq _ _ hgj.1.1, hE]
            by_cases c4 : 0 ≤ cmpL l[j].at_ x.at_
            · have c5 : ¬ cmpL l[j].at_ x.at_ < 0 := by omega
              simp [c4, c5]
            · have c5 : cmpL l[j].at_ x.at_ < 0 := by omega
              simp [c4, c5]) (by simp [S122_L1])
  unfold lp
  rw [this]
  cases ((List.range l.length).findSome? fun i => match l[i]? with | some e => if entE o l i e = 0 then none else some (entE o l i e) | none => none) with
  | none => simp
  | some r => rfl

/-! ### values -/
end Ab
end

section
namespace Ab
open Go
set_option linter.unusedVariables false
set_option linter.unusedSimpArgs false

/-! ### numbers of places -/
theorem P142_eq (o : List Dim) (n : Nat) (hl : o.length ≤ 1000) (hn : n ≤ 1000000000) (hp : ∀ d ∈ o, 0 < d.members.length ∧ d.members.length ≤ 1000000) : P142 o (n : Int) = some (digs o n).1 := by
  have hsame : S142_L1 o = S69_L1 o := rfl
  have := P69_eq o n hl hn hp
  simp only [P69, S69, Int.toNat_natCast, List.length_replicate] at this
  simp only [P142, S142, Int.toNat_natCast, hsame]
  exact this
/-! ### lists of leafs -/
/-! ### the two are one -/
end Ab
end
