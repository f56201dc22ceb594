import Derived.Test.YtcabflannjeigaaMFt
import Derived.Test.YtcabflannjeigaaQFo
import Derived.Test.YtcabflannjeigaaQAl
import Derived.Test.YtcabflannjeigaaQRc
import Derived.Test.YtcabflannjeigaaQPn
import Derived.Test.YtcabflannjeigaaC5
import Derived.Test.YtcabflannjeigaaMSo
section
namespace Ab
open Go
set_option linter.unusedVariables false
set_option linter.unusedSimpArgs false

/-! ### what is written -/
/-! ### the document's folding -/
section
variable {o : List Dim} {dim : Nat} {d : Dim} (ok : OutOk o) (hd : o[dim]? = some d)
include ok hd
theorem rfoldL1 (cs : List Cell) (hc : cs.length = sizeN o) (n : Nat) (ps : List Int) (hps : ∀ k ∈ ps, 0 ≤ k ∧ k < d.members.length) (hl : ps.length ≤ 1000) (x4 : Int) :
    lpO (S239_L1 P140 P146 P250 o (dim : Int) d ps (x4, cs) (digs o n).1) (0, (0, 0)) = some (.inl ((ps.length : Int), ((combC o dim d.members cs n ps).k, (combC o dim d.members cs n ps).n))) := by
  have hdl : dim < o.length := (List.getElem?_eq_some_iff.1 hd).1
  have hs := seq_loop (B := S239_L1 P140 P146 P250 o (dim : Int) d ps (x4, cs) (digs o n).1) (fun i => ((i : Int), (((ps.take i).foldl (comb1 o dim d.members cs n) ⟨0, 0⟩).k, ((ps.take i).foldl (comb1 o dim d.members cs n) ⟨0, 0⟩).n))) ps.length (fun i hi => by
    have e : ((i : Nat) : Int) < ((ps.length : Nat) : Int) := by omega
    have hg := List.getElem?_eq_getElem hi
    obtain ⟨k0, k1⟩ := hps ps[i] (List.getElem_mem hi)
    have hkn : ps[i].toNat < d.members.length := by omega
    have hm : lookI d.members ps[i] = some d.members[ps[i].toNat] := lookI_in k0 k1
    have hsg : sgn d.members ps[i] = d.members[ps[i].toNat].sign := by simp only [sgn, List.getElem?_eq_getElem hkn]
    have hdig : dim < (digs o n).1.length := by rw [digs_len]; exact hdl
    have h250 : P250 (digs o n).1 (dim : Int) ps[i] = some ((digs o n).1.set dim ps[i]) := by
      have hlen := digs_len o n
      have := ok.len.2
      simp only [P250, S250]
      rw [ck_pos (by unfold roomA; omega), ck_pos (by omega)]
      simp only [Int.toNat_natCast, List.getElem?_eq_getElem hdig, bno_s]
    have hf := set_fit ok hd n k0 k1
    have h140 : P140 o ((digs o n).1.set dim ps[i]) = some ((idxK o dim n ps[i] : Nat) : Int) := P140_eq ok hf
    have hlt := idxK_lt ok hd n k0 k1
    have hck : (0 : Int) ≤ ((idxK o dim n ps[i] : Nat) : Int) ∧ ((idxK o dim n ps[i] : Nat) : Int) < ((cs.length : Nat) : Int) := by omega
    have hget := List.getElem?_eq_getElem (l := cs) (i := idxK o dim n ps[i]) (by omega)
    have hgd : cs.getD (idxK o dim n ps[i]) ⟨0, 0⟩ = cs[idxK o dim n ps[i]]'(by omega) := by rw [List.getD_eq_getElem?_getD, hget]; rfl
    rw [fold_take _ _ _ hg]
    generalize (ps.take i).foldl (comb1 o dim d.members cs n) ⟨0, 0⟩ = c
    have hw : wi ((i : Int) + 1) = ((i + 1 : Nat) : Int) := by rw [wiid (by omega) (by omega)]; omega
    by_cases h0 : d.members[ps[i].toNat].sign = 0
    · simp [S239_L1, e, lookI_nat, hg, hm, h0, hw, comb1, hsg]
    · simp only [S239_L1, e, decide_true, br_true, lookI_nat, hg, bno_s, hm, h0, not_false_eq_true, h250, h140, ck_pos hck, Int.toNat_natCast, hget, P146_eq, inlO_s, jn_l, nxO_s, hw]
      simp only [comb1, hsg, if_neg h0, hgd])
  simp only [List.take_zero, List.foldl_nil, List.take_length] at hs
  refine hs.trans (lpO_dn ?_)
  simp [S239_L1, combC]
theorem rfoldL2 (cs : List Cell) (hc : cs.length = sizeN o) (m : Nat) (hm : m < d.members.length) (x2 : List Cell) :
    lpO (S239_L2 P140 P142 P146 P250 o (dim : Int) d ((m : Int), x2) (partsOf d.members m)) (0, cs) = some (.inl (if partsOf d.members m = [] then (0, cs) else ((cs.length : Int), stepC o dim d.members cs.length m cs))) := by
  have hdl : dim < o.length := (List.getElem?_eq_some_iff.1 hd).1
  have hz := ok.sizeN.2
  by_cases hp : partsOf d.members m = []
  · rw [if_pos hp, hp]
    refine lpO_dn ?_
    simp only [S239_L2]
    by_cases c : (0 : Int) < ((cs.length : Nat) : Int)
    · rw [br_dec, if_pos c]; rfl
    · rw [br_dec, if_neg c]; rfl
  have hpl : (0 : Int) < (((partsOf d.members m).length : Nat) : Int) := by
    have := List.length_pos_iff.2 hp
    omega
  rw [if_neg hp]
  have hs := seq_loop (B := S239_L2 P140 P142 P146 P250 o (dim : Int) d ((m : Int), x2) (partsOf d.members m)) (fun i => ((i : Int), stepC o dim d.members i m cs)) cs.length (fun i hi => by
    have hlen := stepC_len (o := o) (dim := dim) m d.members cs i
    have e : ((i : Nat) : Int) < (((stepC o dim d.members i m cs).length : Nat) : Int) := by omega
    have h142 : P142 o (i : Int) = some (digs o i).1 := P142_eq o i (by have := ok.len.2; omega) (by omega) fun d hd => by have := (ok.dims d hd).len; omega
    have hl : dim < (digs o i).1.length := by rw [digs_len]; exact hdl
    have hlk : lookI (digs o i).1 (dim : Int) = some (memAt o dim i) := by rw [lookI_nat, memAt, List.getElem?_eq_getElem hl]; rfl
    have hw : wi ((i : Int) + 1) = ((i + 1 : Nat) : Int) := by rw [wiid (by omega) (by omega)]; omega
    have h1 := rfoldL1 ok hd (stepC o dim d.members i m cs) (by rw [hlen]; exact hc) i (partsOf d.members m) (fun k hk => (parts_up (rooted_d ok hd) hk).2) (by have := idxs_len (isPart d.members m) d.members.length; have := (ok.dims d (List.mem_of_getElem? hd)).len; unfold partsOf; omega) (i : Int)
    rw [stepC_succ]
    unfold step1
    by_cases h0 : memAt o dim i = (m : Int)
    · have hi0 : (0 : Int) ≤ (i : Int) := by omega
      have hget := List.getElem?_eq_getElem (l := stepC o dim d.members i m cs) (i := i) (by rw [hlen]; exact hi)
      simp only [S239_L2, e, hpl, decide_true, br_true, h142, bno_s, hlk, h0, not_true, decide_false, br_false, lp_eq, h1, jn_l, hi0, and_self, ck_true, Int.toNat_natCast, hget, inlO_s, nxO_s, hw, if_true]
    · simp only [S239_L2, e, hpl, decide_true, br_true, h142, bno_s, hlk, h0, not_false_eq_true, inlO_s, jn_l, nxO_s, hw, if_false])
  have h0 : stepC o dim d.members 0 m cs = cs := rfl
  simp only [h0] at hs
  refine hs.trans (lpO_dn ?_)
  have hlen := stepC_len (o := o) (dim := dim) m d.members cs cs.length
  simp only [S239_L2, hlen]
  rw [br_dec, if_neg (by omega)]
  rfl
theorem P239_eq (cs : List Cell) (hc : cs.length = sizeN o) : P239 o cs (dim : Int) = some (foldC o dim d.members cs) := by
  have hdo := ok.dims d (List.mem_of_getElem? hd)
  have hlen := hdo.len
  have hz := ok.sizeN.2
  have hs := seq_loop (B := S239_L3 P100 P140 P142 P146 P250 o (dim : Int) d) (fun k => ((d.members.length : Int) - 1 - k, (List.range k).foldl (fold1 o dim d.members cs.length) cs)) d.members.length (fun k hk => by
    have hm : d.members.length - 1 - k < d.members.length := by omega
    have ei : (d.members.length : Int) - 1 - (k : Int) = ((d.members.length - 1 - k : Nat) : Int) := by omega
    have h0 : (0 : Int) ≤ ((d.members.length - 1 - k : Nat) : Int) := by omega
    have h100 : P100 d ((d.members.length - 1 - k : Nat) : Int) = some (partsOf d.members ((d.members.length - 1 - k : Nat) : Int)) := P100_eq (by omega) _
    have hw : wi (((d.members.length - 1 - k : Nat) : Int) - 1) = (d.members.length : Int) - 1 - ((k + 1 : Nat) : Int) := by rw [wiid (by omega) (by omega)]; omega
    obtain ⟨f1, _⟩ := fold_fix ok hd cs k (by omega)
    rw [List.range_succ, List.foldl_append, List.foldl_cons, List.foldl_nil, ei]
    generalize (List.range k).foldl (fold1 o dim d.members cs.length) cs = c1 at f1 ⊢
    have h2 := rfoldL2 ok hd c1 (by omega) (d.members.length - 1 - k) hm c1
    unfold fold1
    simp only [S239_L3, h0, decide_true, br_true, h100, bno_s, lp_eq, h2]
    by_cases hp : partsOf d.members ((d.members.length - 1 - k : Nat) : Int) = []
    · simp only [if_pos hp, jn_l, nxO_s, hw]
    · simp only [if_neg hp, jn_l, nxO_s, hw, f1])
  have e1 : wi (((d.members.length : Nat) : Int) - 1) = (d.members.length : Int) - 1 - ((0 : Nat) : Int) := by rw [wiid (by omega) (by omega)]; omega
  have e2 : (d.members.length : Int) - 1 - ((d.members.length : Nat) : Int) = -1 := by omega
  simp only [List.range_zero, List.foldl_nil, e2] at hs
  have hs : lpO (S239_L3 P100 P140 P142 P146 P250 o (dim : Int) d) ((d.members.length : Int) - 1 - ((0 : Nat) : Int), cs) = some (.inl (-1, foldC o dim d.members cs)) := hs.trans (lpO_dn (by simp [S239_L3, foldC]))
  have hck : cs.length ≤ roomA := by unfold roomA; omega
  simp only [P239, S239, ck_pos hck, lookI_nat, hd, bno_s, lp_eq, e1, hs, jn_l]
end
end Ab
end

section
namespace Ab
open Go
set_option linter.unusedVariables false
set_option linter.unusedSimpArgs false

def rgI (n : Nat) : List Int := (List.range n).map fun i : Nat => (i : Int)
theorem rgI_length (n : Nat) : (rgI n).length = n := by simp [rgI]
theorem rgI_get {n i : Nat} (h : i < n) : (rgI n)[i]? = some (i : Int) := by simp [rgI, h]
def Each (order : List Int) : Prop := order.Nodup ∧ ∀ x ∈ order, 0 ≤ x ∧ x < ((order.length : Nat) : Int)
theorem sort_perm (l : List Int) : (sortI l).Perm l := List.mergeSort_perm ..
theorem sort_le (l : List Int) : (sortI l).Pairwise fun a b => a ≤ b := by
  have := List.pairwise_mergeSort (le := fun x y : Int => decide (x ≤ y)) (fun a b c h1 h2 => by simp only [decide_eq_true_eq] at *; omega) (fun a b => by simp only [Bool.or_eq_true, decide_eq_true_eq]; omega) l
  exact this.imp fun h => by simpa using h
theorem rgI_each (n : Nat) : (rgI n).Nodup ∧ ∀ x ∈ rgI n, 0 ≤ x ∧ x < (n : Int) := by
  refine ⟨?_, fun x hx => ?_⟩
  · unfold rgI List.Nodup
    rw [List.pairwise_map]
    exact (List.nodup_range (n := n)).imp fun h e => h (by omega)
  · obtain ⟨i, hi, rfl⟩ := List.mem_map.1 hx
    have := List.mem_range.1 hi
    omega
theorem sort_rg (order : List Int) : sortI order = rgI order.length ↔ Each order := by
  have hp := sort_perm order
  constructor
  · intro h
    rw [h] at hp
    obtain ⟨h1, h2⟩ := rgI_each order.length
    exact ⟨hp.nodup_iff.1 h1, fun x hx => h2 x (hp.mem_iff.2 hx)⟩
  · rintro ⟨h1, h2⟩
    have n1 : (sortI order).Nodup := hp.nodup_iff.2 h1
    have r1 : ∀ x ∈ sortI order, 0 ≤ x ∧ x < ((order.length : Nat) : Int) := fun x hx => h2 x (hp.mem_iff.1 hx)
    have hl := sortI_length order
    have lt : ∀ (i j : Nat) (hi : i < (sortI order).length) (hj : j < (sortI order).length), i < j → (sortI order)[i] < (sortI order)[j] := by
      intro i j hi hj hij
      have a := List.pairwise_iff_getElem.1 (sort_le order) i j hi hj hij
      have b := List.pairwise_iff_getElem.1 n1 i j hi hj hij
      omega
    have lo : ∀ (i : Nat) (hi : i < (sortI order).length), (i : Int) ≤ (sortI order)[i] := by
      intro i
      induction i with
      | zero => intro hi; exact (r1 _ (List.getElem_mem hi)).1
      | succ i ih =>
        intro hi
        have a := ih (by omega)
        have b := lt i (i + 1) (by omega) hi (by omega)
        omega
    have up : ∀ (k i : Nat) (hi : i < (sortI order).length), i + k + 1 = (sortI order).length → (sortI order)[i] ≤ (i : Int) := by
      intro k
      induction k with
      | zero => intro i hi he; have := (r1 _ (List.getElem_mem hi)).2; omega
      | succ k ih =>
        intro i hi he
        have a := ih (i + 1) (by omega) (by omega)
        have b := lt i (i + 1) hi (by omega) (by omega)
        omega
    apply List.ext_getElem?
    intro i
    by_cases hi : i < order.length
    · have hi' : i < (sortI order).length := by omega
      rw [rgI_get hi, List.getElem?_eq_getElem hi']
      have a := lo i hi'
      have b := up ((sortI order).length - i - 1) i hi' (by omega)
      congr 1
      omega
    · rw [List.getElem?_eq_none (by omega), List.getElem?_eq_none (by rw [rgI_length]; omega)]

instance (order : List Int) : Decidable (Each order) := by unfold Each; infer_instance
def eachB (o : List Dim) (order : List Int) : Bool := decide (order.length = o.length ∧ Each order)
/-- Cells folded by dims, one behind the other. -/
def foldO (o : List Dim) (cs : List Cell) (order : List Int) : List Cell := order.foldl (fun c x => onceC o c x) cs
theorem fold_ok {o : List Dim} (ok : OutOk o) : ∀ (order : List Int) (cs : List Cell), (∀ x ∈ order, 0 ≤ x ∧ x < ((o.length : Nat) : Int)) → cs.length = sizeN o → (foldO o cs order).length = sizeN o
  | [], cs, _, h => h
  | x :: r, cs, hx, h => by
    obtain ⟨h0, h1⟩ := hx x (by simp)
    have hd := List.getElem?_eq_getElem (l := o) (i := x.toNat) (by omega)
    unfold foldO
    rw [List.foldl_cons]
    refine fold_ok ok r _ (fun y hy => hx y (List.mem_cons_of_mem _ hy)) ?_
    unfold onceC
    rw [hd]
    simp only
    rw [foldC_len ok hd]
    exact h
theorem P54_ok {o : List Dim} (ok : OutOk o) {cs : List Cell} (hc : cs.length = sizeN o) {x : Int} (h0 : 0 ≤ x) (h1 : x < ((o.length : Nat) : Int)) : P54 o cs x = some (onceC o cs x) ∧ P239 o cs x = some (onceC o cs x) ∧ (onceC o cs x).length = cs.length := by
  obtain ⟨n, rfl⟩ := Int.eq_ofNat_of_zero_le h0
  have hd := List.getElem?_eq_getElem (l := o) (i := n) (by omega)
  have e : onceC o cs (n : Int) = foldC o n o[n].members cs := by unfold onceC; rw [Int.toNat_natCast, hd]
  rw [e]
  exact ⟨P54_eq ok hd cs hc, P239_eq ok hd cs hc, foldC_len ok hd cs⟩
theorem loop209 {o : List Dim} (ok : OutOk o) (order : List Int) (hx : ∀ x ∈ order, 0 ≤ x ∧ x < ((o.length : Nat) : Int)) (hl : order.length ≤ 9223372036854775806) (cs : List Cell) (hc : cs.length = sizeN o) :
    lpO (S209_L2 P54 o order) ((0 : Int), cs) = some (.inl (((order.length : Nat) : Int), foldO o cs order)) := by
  have hs := seq_loop (B := S209_L2 P54 o order) (fun i => ((i : Int), foldO o cs (order.take i))) order.length (fun i hi => by
    have hg := List.getElem?_eq_getElem hi
    obtain ⟨h0, h1⟩ := hx _ (List.getElem_mem hi)
    have hlen := fold_ok ok (order.take i) cs (fun x h => hx x (List.mem_of_mem_take h)) hc
    obtain ⟨e1, _, e3⟩ := P54_ok ok hlen h0 h1
    have ef : foldO o cs (order.take (i + 1)) = onceC o (foldO o cs (order.take i)) order[i] := fold_take _ _ _ hg
    simp only [S209_L2]
    rw [br_dec, if_pos (by omega)]
    simp only [lookI_nat, hg, bno_s, e1]
    rw [ck_pos e3, wiid (by omega) (by omega), ef]
    rfl)
  have e0 : ((0 : Int), cs) = (((0 : Nat) : Int), foldO o cs (order.take 0)) := rfl
  rw [e0, hs, lpO_dn (y := (((order.length : Nat) : Int), foldO o cs (order.take order.length))) (by simp only [S209_L2]; rw [br_dec, if_neg (by omega)]; rfl), List.take_length]
theorem find_none {α : Type} {n : Nat} {g : Nat → Option α} (h : ∀ i, i < n → g i = none) : (List.range n).findSome? g = none := by
  rw [List.findSome?_eq_none_iff]
  intro x hx
  exact h x (List.mem_range.1 hx)
theorem find_const {α : Type} {n : Nat} {g : Nat → Option α} {r : α} (hr : ∀ i, i < n → g i = none ∨ g i = some r) (h : ∃ i, i < n ∧ g i ≠ none) : (List.range n).findSome? g = some r := by
  cases hf : (List.range n).findSome? g with
  | none =>
    obtain ⟨i, hi, hne⟩ := h
    rw [List.findSome?_eq_none_iff] at hf
    exact absurd (hf i (List.mem_range.2 hi)) hne
  | some x =>
    obtain ⟨i, hi, hx⟩ := List.exists_of_findSome?_eq_some hf
    rcases hr i (List.mem_range.1 hi) with h1 | h1
    · rw [h1] at hx; cases hx
    · rw [h1] at hx; rw [Option.some.inj hx]
theorem first209 (s : List Int) (h : s.length ≤ 9223372036854775806) : lpO (S209_L1 s) 0 = some (if s = rgI s.length then .inl ((s.length : Nat) : Int) else .inr (([] : List Cell), Err.no 3)) := by
  have := range_loop (B := S209_L1 s) s.length (fun i => if s[i]? = some (i : Int) then none else some (([] : List Cell), Err.no 3)) (fun i hi => by
    have hg := List.getElem?_eq_getElem hi
    simp only [S209_L1]
    rw [br_dec, if_pos (by omega)]
    simp only [lookI_nat, hg, bno_s]
    rw [br_dec, wiid (by omega) (by omega)]
    by_cases c : s[i] = (i : Int)
    · simp [c]
    · simp [c]) (by simp only [S209_L1]; rw [br_dec, if_neg (by omega)]; rfl)
  rw [this]
  by_cases c : s = rgI s.length
  · have hn : ∀ i, i < s.length → (if s[i]? = some (i : Int) then none else some (([] : List Cell), Err.no 3)) = none := fun i hi => by
      have : s[i]? = some (i : Int) := by rw [c, rgI_get hi]
      rw [if_pos this]
    rw [if_pos c, find_none hn]
  · have h1 : ∀ i, i < s.length → (if s[i]? = some (i : Int) then none else some (([] : List Cell), Err.no 3)) = none ∨ (if s[i]? = some (i : Int) then none else some (([] : List Cell), Err.no 3)) = some (([] : List Cell), Err.no 3) := fun i hi => by
      by_cases c2 : s[i]? = some (i : Int)
      · rw [if_pos c2]; exact .inl rfl
      · rw [if_neg c2]; exact .inr rfl
    have h2 : ∃ i, i < s.length ∧ (if s[i]? = some (i : Int) then none else some (([] : List Cell), Err.no 3)) ≠ none := by
      refine Classical.byContradiction fun hn => c ?_
      apply List.ext_getElem?
      intro i
      by_cases hi : i < s.length
      · rw [rgI_get hi]
        refine Classical.byContradiction fun h2 => hn ⟨i, hi, ?_⟩
        rw [if_neg h2]
        simp
      · rw [List.getElem?_eq_none (by omega), List.getElem?_eq_none (by rw [rgI_length]; omega)]
    rw [if_neg c, find_const h1 h2]
theorem P209_eq (o : List Dim) (ho : o.length ≤ 9223372036854775807) (l : List Entry) (hl : Lst Entry.gd l) (order : List Int) (hb : order.length * 8 ≤ 140737488351232) :
    P209 o l order = some (if entsE o l = 0 then (if eachB o order = true then (foldO o (writeC o l) order, .nil) else ([], .no 3)) else ([], errOf (entsE o l))) := by
  have e210 : P210_214 order = some (sortI order) := by unfold P210_214; rw [ck_pos hb]
  have hsl := sortI_length order
  simp only [P209, S209, P21_eq o l ho hl, bno_s, P211, e210]
  by_cases h0 : entsE o l = 0
  case neg => simp [h0, errOf_nil]
  have ok := ents_ok.1 h0
  have ol := ok.out.len
  simp only [h0, if_true, nil_isNil, Bool.not_true, br_false]
  unfold lp
  rw [first209 _ (by omega), hsl]
  by_cases he : Each order
  · rw [if_pos (by rw [(sort_rg order).2 he])]
    simp only [jn_l]
    by_cases hlen : order.length = o.length
    · have hE : eachB o order = true := by unfold eachB; exact decide_eq_true ⟨hlen, he⟩
      rw [br_dec, if_neg (by omega), loop209 ok.out order (fun x hx => by have := he.2 x hx; omega) (by omega) _ (writeC_len o l), hE]
      rfl
    · have hE : eachB o order = false := by unfold eachB; exact decide_eq_false fun h => hlen h.1
      rw [br_dec, if_pos (by omega), hE]
      rfl
  · have hE : eachB o order = false := by unfold eachB; exact decide_eq_false fun h => he h.2
    rw [if_neg (fun h => he ((sort_rg order).1 h)), hE]
    rfl
end Ab
end
