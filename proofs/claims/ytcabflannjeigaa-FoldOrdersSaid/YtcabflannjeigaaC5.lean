import Derived.Test.YtcabflannjeigaaMRo
import Derived.Test.YtcabflannjeigaaC2
import Derived.Test.YtcabflannjeigaaC3
import Derived.Test.YtcabflannjeigaaC1
import Derived.Test.YtcabflannjeigaaQI
import Derived.Test.YtcabflannjeigaaC4
import Derived.Test.YtcabflannjeigaaQT2
import Derived.Test.YtcabflannjeigaaQS
section
namespace Ab
open Go
set_option linter.unusedVariables false
set_option linter.unusedSimpArgs false
set_option linter.unusedSectionVars false

/-! ### weights of places -/
def pwL : List ((Int × Dim) × Int) → Option Int
  | [] => some 1
  | x :: r => match wl x.1.2.members x.1.1 (path x.1.2.members x.2) with | some v => (pwL r).map fun u => v * u | none => none
def pwR (z : List ((Int × Dim) × Int)) : Int × Bool := match pwL z with | some w => (w, true) | none => (0, false)
theorem pw_gen {B : Int × Int → Option (LR (Int × Int) (Int × Bool))} (z : List ((Int × Dim) × Int)) (hr : ∀ x ∈ z, Rooted x.1.2.members)
    (step : ∀ (i : Nat) (x : (Int × Dim) × Int) (w : Int), z[i]? = some x → -1 ≤ w ∧ w ≤ 1 → B (w, (i : Int)) = some (match wl x.1.2.members x.1.1 (path x.1.2.members x.2) with | some v => .nx (w * v, (i : Int) + 1) | none => .fin (0, false)))
    (hn : ∀ w, B (w, (z.length : Int)) = some (.dn (w, (z.length : Int)))) : lp B (1, 0) (fun x => some (x.1, true)) = some (pwR z) := by
  have all : ∀ (zs pre : List ((Int × Dim) × Int)) (w : Int), z = pre ++ zs → -1 ≤ w ∧ w ≤ 1 → jn (lpO B (w, (pre.length : Int))) (fun x => some (x.1, true)) = some (match pwL zs with | some v => (w * v, true) | none => (0, false)) := by
    intro zs
    induction zs with
    | nil =>
      intro pre w e hw
      have e : pre = z := by simp [e]
      subst e
      rw [lpO_dn (hn w)]
      simp [pwL]
    | cons x r ih =>
      intro pre w e hw
      have hx : z[pre.length]? = some x := by rw [e]; simp
      have hs := step pre.length x w hx hw
      simp only [pwL]
      cases hv : wl x.1.2.members x.1.1 (path x.1.2.members x.2) with
      | none =>
        rw [hv] at hs
        rw [lpO_fin hs]; rfl
      | some v =>
        rw [hv] at hs
        have hvb := wl_in (hr x (by rw [e]; simp)) _ _ _ hv
        rw [lpO_nx hs]
        have := ih (pre ++ [x]) (w * v) (by rw [e]; simp) (mul_sgn hw hvb)
        have el : (((pre ++ [x]).length : Nat) : Int) = (pre.length : Int) + 1 := by simp
        rw [el] at this
        rw [this]
        cases pwL r with
        | none => rfl
        | some u => simp [Int.mul_assoc]
  have := all z [] 1 rfl (by omega)
  simp only [List.length_nil, Int.one_mul] at this
  exact this
def zip3 (o : List Dim) (p k : List Int) : List ((Int × Dim) × Int) := (p.zip o).zip k
theorem zip3_get {o : List Dim} {p k : List Int} {i : Nat} {x : (Int × Dim) × Int} (h : (zip3 o p k)[i]? = some x) : p[i]? = some x.1.1 ∧ o[i]? = some x.1.2 ∧ k[i]? = some x.2 := by
  obtain ⟨h1, h2⟩ := List.getElem?_zip_eq_some.1 h
  obtain ⟨h3, h4⟩ := List.getElem?_zip_eq_some.1 h1
  exact ⟨h3, h4, h2⟩
theorem zip3_len {o : List Dim} {p k : List Int} (h1 : p.length = o.length) (h2 : k.length = o.length) : (zip3 o p k).length = p.length := by
  unfold zip3; rw [List.length_zip, List.length_zip]; omega
section
variable {o : List Dim} {p k : List Int} (ok : OutOk o) (hp : Fit o p) (hk : Fit o k)
include ok hp hk
theorem zip3_root : ∀ x ∈ zip3 o p k, Rooted x.1.2.members := by
  intro x hx
  obtain ⟨i, hi⟩ := List.mem_iff_getElem?.1 hx
  exact (ok.dims _ (List.mem_of_getElem? (zip3_get hi).2.1)).rooted
theorem P113_eq : P113 o p k = some (pwR (zip3 o p k)) := by
  have hl := zip3_len (o := o) hp.len hk.len
  refine pw_gen _ (zip3_root ok hp hk) (fun i x w hx hw => ?_) (fun w => by rw [hl]; simp [S113_L1])
  obtain ⟨e1, e2, e3⟩ := zip3_get hx
  have hlen := ok.len
  have hi := (List.getElem?_eq_some_iff.1 e1).1
  have hpl := hp.len
  have e : ((i : Nat) : Int) < ((p.length : Nat) : Int) := by omega
  have hd := ok.dims _ (List.mem_of_getElem? e2)
  have hkm := hk.mem i _ _ e3 e2
  obtain ⟨j, hj⟩ := Int.eq_ofNat_of_zero_le hkm.1
  have hdl := hd.len
  rw [hj] at hkm e3
  simp only [S113_L1, e, decide_true, br_true, lookI_nat, e1, e2, e3, bno_s, P45_eq hd.rooted (by omega : x.1.2.members.length ≤ 1000) x.1.1 (by omega : j < x.1.2.members.length), hj, wOf]
  rw [wiid (n := (i : Int) + 1) (by omega) (by omega)]
  cases hv : wl x.1.2.members x.1.1 (path x.1.2.members (j : Int)) with
  | none => simp
  | some v =>
    have hb := mul_sgn hw (wl_in hd.rooted _ _ _ hv)
    simp only [Bool.not_true, br_false]
    rw [wiid (by omega) (by omega)]; rfl
end

/-! ### what the reference says is wrong -/
/-! ### values -/
def addE (o : List Dim) (p : List Int) (c : Int × Int) (e : Entry) : Int × Int := match pwL (zip3 o p e.at_) with
  | some w => if w = 0 then c else (1, wi (c.2 + wi (w * e.n)))
  | none => c
def rollV (o : List Dim) (l : List Entry) (p : List Int) : Int × Int := l.foldl (addE o p) (0, 0)
theorem P110_eq {o : List Dim} {l : List Entry} {p : List Int} (hl : Lst Entry.gd l) (hp : p.length ≤ 9223372036854775807) :
    P110 o l p = some (if entsE o l = 0 then (if fitsE o p = 0 then (⟨(rollV o l p).1, (rollV o l p).2⟩, .nil) else (⟨0, 0⟩, errOf (fitsE o p))) else (⟨0, 0⟩, errOf (entsE o l))) := by
  simp only [P110, S110, P27_eq o l hl, bno_s, errOf_nil]
  by_cases h1 : entsE o l = 0
  case neg => simp [h1]
  have ok := ents_ok.1 h1
  simp only [h1, decide_true, Bool.not_true, br_false, P58_eq o p hp, bno_s, errOf_nil, if_true]
  by_cases h2 : fitsE o p = 0
  case neg => simp [h2]
  have hf := fits_ok.1 h2
  have hlen := hl.1
  have hs := seq_loop (B := S110_L1 P113 o l p) (fun i => ((i : Int), (((l.take i).foldl (addE o p) (0, 0)).1, ((l.take i).foldl (addE o p) (0, 0)).2))) l.length (fun i hi => by
    have e : ((i : Nat) : Int) < ((l.length : Nat) : Int) := by omega
    have hm := List.getElem?_eq_getElem hi
    have hfe := ok.fit _ (List.getElem_mem hi)
    rw [fold_take _ _ _ hm]
    simp only [S110_L1, e, decide_true, br_true, lookI_nat, hm, bno_s, P113_eq ok.out hf hfe, pwR]
    rw [wiid (n := (i : Int) + 1) (by omega) (by omega)]
    simp only [addE]
    cases pwL (zip3 o p l[i].at_) with
    | none => simp
    | some w => by_cases hw : w = 0 <;> simp [hw])
  simp only [List.take_length] at hs
  have hs : lpO (S110_L1 P113 o l p) (0, (0, 0)) = some (.inl ((l.length : Int), ((rollV o l p).1, (rollV o l p).2))) := hs.trans (lpO_dn (by simp [S110_L1, rollV]))
  simp [h2, lp_eq, hs]
end Ab
end

section
namespace Ab
open Go
set_option linter.unusedVariables false
set_option linter.unusedSimpArgs false

/-! ### numbers of places -/
theorem P142_eq (o : List Dim) (n : Nat) (hl : o.length ≤ 1000) (hn : n ≤ 1000000000) (hp : ∀ d ∈ o, 0 < d.members.length ∧ d.members.length ≤ 1000000) : P142 o (n : Int) = some (digs o n).1 := by
  have hsame : S142_L1 o = S69_L1 o := rfl
  have := P69_eq o n hl hn hp
  simp only [P69, S69, Int.toNat_natCast, List.length_replicate] at this
  simp only [P142, S142, Int.toNat_natCast, hsame]
  exact this
/-! ### lists of leafs -/
def placeE (o : List Dim) (p : List Int) : Int := if (outErr o).2.2 = 0 then fitsE o p else (outErr o).2.2
theorem P114_eq (o : List Dim) (p : List Int) (h : p.length ≤ 9223372036854775807) : P114 o p = some (errOf (placeE o p)) := by
  simp only [P114, S114, P51_eq, bno_s, errOf_nil, placeE]
  by_cases h0 : (outErr o).2.2 = 0 <;> simp [h0, P58_eq o p h]
theorem place_ok {o : List Dim} {p : List Int} : placeE o p = 0 ↔ OutOk o ∧ Fit o p := by
  unfold placeE
  by_cases h0 : (outErr o).2.2 = 0
  · rw [if_pos h0, fits_ok]; exact ⟨fun h => ⟨out_ok.1 h0, h⟩, fun h => h.2⟩
  · rw [if_neg h0]; exact ⟨fun h => absurd h h0, fun h => absurd (out_ok.2 h.1) h0⟩
/-! ### the two are one -/
end Ab
end
