/-
  Plain laws: what the functions of package place come to.
-/
import Derived.Test.YtcabflannjeigaaC2
import Derived.Test.YtcabflannjeigaaQT
namespace Ab
open Go
set_option linter.unusedVariables false
set_option linter.unusedSimpArgs false

/-- The place at a number, from behind: what is left of the number, too. -/
def digs : List Dim → Nat → List Int × Nat
  | [], n => ([], n)
  | d :: r, n => (((((digs r n).2 % d.members.length : Nat)) : Int) :: (digs r n).1, (digs r n).2 / d.members.length)
theorem digs_len (o : List Dim) (n : Nat) : (digs o n).1.length = o.length := by
  induction o with
  | nil => rfl
  | cons d r ih => simp [digs, ih]
theorem digs_le (o : List Dim) (n : Nat) : (digs o n).2 ≤ n := by
  induction o with
  | nil => exact Nat.le_refl _
  | cons d r ih => simp only [digs]; exact Nat.le_trans (Nat.div_le_self _ _) ih
theorem set_rep (k : Nat) (x : Int) (l : List Int) : (List.replicate (k + 1) (0 : Int) ++ l).set k x = List.replicate k 0 ++ x :: l := by
  induction k with
  | zero => rfl
  | succ k ih => rw [List.replicate_succ, List.cons_append, List.set_cons_succ, ih]; rfl
theorem P69_eq (o : List Dim) (n : Nat) (hl : o.length ≤ 1000) (hn : n ≤ 1000000000) (hp : ∀ d ∈ o, 0 < d.members.length ∧ d.members.length ≤ 1000000) : P69 o (n : Int) = some (digs o n).1 := by
  have hck : (0 : Int) ≤ (o.length : Int) ∧ (o.length : Int) ≤ (o.length : Int) ∧ (o.length : Int) ≤ roomA := by unfold roomA; omega
  have hs := seq_loop (B := S69_L1 o) (fun k => ((((digs (o.drop (o.length - k)) n).2 : Nat) : Int), ((o.length : Int) - k - 1, List.replicate (o.length - k) (0 : Int) ++ (digs (o.drop (o.length - k)) n).1))) o.length (fun k hk => by
    obtain ⟨j, hj⟩ : ∃ j, o.length - k = j + 1 := ⟨o.length - k - 1, by omega⟩
    have hj2 : o.length - (k + 1) = j := by omega
    have hjl : j < o.length := by omega
    have hd := List.getElem?_eq_getElem hjl
    have hdrop : o.drop j = o[j] :: o.drop (j + 1) := List.drop_eq_getElem_cons hjl
    have hpos := hp o[j] (List.getElem_mem hjl)
    have hle := digs_le (o.drop (j + 1)) n
    have ei : (o.length : Int) - (k : Int) - 1 = (j : Int) := by omega
    have ei2 : (o.length : Int) - ((k + 1 : Nat) : Int) - 1 = (j : Int) - 1 := by omega
    have h0 : (0 : Int) ≤ (j : Int) := by omega
    have hne : ¬ ((o[j].members.length : Nat) : Int) = 0 := by omega
    simp only [hj, hj2, ei, ei2, hdrop, digs]
    have hlen : (List.replicate (j + 1) (0 : Int) ++ (digs (o.drop (j + 1)) n).1).length = o.length := by simp [digs_len]; omega
    have hck2 : (0 : Int) ≤ (j : Int) ∧ (j : Int) < (((List.replicate (j + 1) (0 : Int) ++ (digs (o.drop (j + 1)) n).1).length : Nat) : Int) := by rw [hlen]; omega
    have hget : (List.replicate (j + 1) (0 : Int) ++ (digs (o.drop (j + 1)) n).1)[j]? = some 0 := by
      rw [List.getElem?_append_left (by simp), List.getElem?_replicate]; simp
    simp only [S69_L1, h0, decide_true, br_true, lookI_nat, hd, bno_s, hne, not_false_eq_true, ck_true, hck2.2, true_and, Int.toNat_natCast, hget, set_rep, nxO_s]
    have ediv : Int.tdiv (((digs (o.drop (j + 1)) n).2 : Nat) : Int) ((o[j].members.length : Nat) : Int) = (((digs (o.drop (j + 1)) n).2 / o[j].members.length : Nat) : Int) := rfl
    have emod : Int.tmod (((digs (o.drop (j + 1)) n).2 : Nat) : Int) ((o[j].members.length : Nat) : Int) = (((digs (o.drop (j + 1)) n).2 % o[j].members.length : Nat) : Int) := rfl
    have hdl := Nat.div_le_self (digs (o.drop (j + 1)) n).2 o[j].members.length
    rw [ediv, emod]
    clear ediv emod
    generalize (digs (o.drop (j + 1)) n).2 / o[j].members.length = q at hdl ⊢
    rw [wiid (n := (q : Int)) (by omega) (by omega), wiid (by omega) (by omega)])
  have e0 : o.drop (o.length - 0) = [] := by simp
  have e1 : o.drop (o.length - o.length) = o := by simp
  simp only [e0, e1] at hs
  simp only [Nat.sub_self, List.replicate_zero, List.nil_append, Nat.sub_zero, digs, List.append_nil] at hs
  have hs2 : lpO (S69_L1 o) ((n : Int), ((o.length : Int) - 1, List.replicate o.length (0 : Int))) = some (.inl ((((digs o n).2 : Nat) : Int), (-1, (digs o n).1))) := by
    have ea : (o.length : Int) - ((0 : Nat) : Int) - 1 = (o.length : Int) - 1 := by omega
    have eb : (o.length : Int) - ((o.length : Nat) : Int) - 1 = -1 := by omega
    rw [ea, eb] at hs
    exact hs.trans (lpO_dn (by simp [S69_L1]))
  simp only [P69, S69, ck_pos hck, lp_eq, Int.toNat_natCast, List.length_replicate]
  rw [wiid (by omega) (by omega), hs2]
  rfl
/-! ### places that fit -/
def badM (x : Int × Dim) : Bool := decide (x.1 < 0) || decide ((x.2.members.length : Int) ≤ x.1)
def fitsE (o : List Dim) (p : List Int) : Int := if ¬ p.length = o.length then 3 else if (p.zip o).any badM = true then 1 else 0
/-- A place of an outline. -/
structure Fit (o : List Dim) (p : List Int) : Prop where
  len : p.length = o.length
  mem : ∀ (i : Nat) (m : Int) (d : Dim), p[i]? = some m → o[i]? = some d → 0 ≤ m ∧ m < d.members.length
theorem fits_ok {o : List Dim} {p : List Int} : fitsE o p = 0 ↔ Fit o p := by
  unfold fitsE
  by_cases h1 : p.length = o.length
  · rw [if_neg (by simpa using h1)]
    by_cases h2 : (p.zip o).any badM = true
    · rw [if_pos h2]
      refine ⟨fun e => (by cases e), fun h => ?_⟩
      obtain ⟨x, hx, hb⟩ := List.any_eq_true.1 h2
      obtain ⟨i, hi⟩ := List.mem_iff_getElem?.1 hx
      obtain ⟨e1, e2⟩ := List.getElem?_zip_eq_some.1 hi
      have := h.mem i _ _ e1 e2
      simp only [badM, Bool.or_eq_true, decide_eq_true_eq] at hb
      omega
    · rw [if_neg h2]
      refine ⟨fun _ => ⟨h1, fun i m d hm hd => ?_⟩, fun _ => rfl⟩
      have hx : (m, d) ∈ p.zip o := List.mem_iff_getElem?.2 ⟨i, List.getElem?_zip_eq_some.2 ⟨hm, hd⟩⟩
      have : ¬ badM (m, d) = true := fun e => h2 (List.any_eq_true.2 ⟨_, hx, e⟩)
      simp only [badM, Bool.or_eq_true, decide_eq_true_eq] at this
      omega
  · rw [if_pos h1]; exact ⟨fun e => (by cases e), fun h => absurd h.len h1⟩
theorem P58_eq (o : List Dim) (p : List Int) (h : p.length ≤ 9223372036854775807) : P58 o p = some (errOf (fitsE o p)) := by
  simp only [P58, S58]
  unfold fitsE
  by_cases h1 : p.length = o.length
  · have e : ((p.length : Nat) : Int) = ((o.length : Nat) : Int) := by omega
    rw [if_neg (by simpa using h1)]
    simp only [e, not_true, decide_false, br_false]
    rw [any_loop badM (p.zip o) (Err.no 1) Err.nil (fun i y hy => ?_) (by rw [List.length_zip, ← h1, Nat.min_self]; simp [S58_L1])]
    · cases (p.zip o).any badM <;> simp [errOf]
    · obtain ⟨e1, e2⟩ := List.getElem?_zip_eq_some.1 hy
      have hi := (List.getElem?_eq_some_iff.1 e1).1
      have e : ((i : Nat) : Int) < ((p.length : Nat) : Int) := by omega
      simp only [S58_L1, e, decide_true, br_true, lookI_nat, e1, e2, bno_s, badM]
      rw [wiid (by omega) (by omega)]
      by_cases c1 : y.1 < 0
      · simp [c1]
      · by_cases c2 : (y.2.members.length : Int) ≤ y.1 <;> simp [c1, c2]
  · have e : ¬ ((p.length : Nat) : Int) = ((o.length : Nat) : Int) := by omega
    rw [if_pos h1]
    simp [e, errOf]
def leafP (o : List Dim) (p : List Int) : Bool := (p.zip o).all fun x => leafB x.2.members x.1.toNat
theorem all_any {α : Type} (f : α → Bool) (l : List α) : l.all f = !l.any fun x => !f x := by
  induction l with
  | nil => rfl
  | cons a l ih => simp only [List.all_cons, List.any_cons, ih]; cases f a <;> rfl
theorem P59_eq {o : List Dim} {p : List Int} (hf : Fit o p) (h : p.length ≤ 9223372036854775807) (hd : ∀ d ∈ o, d.members.length ≤ 1000) : P59 o p = some (leafP o p) := by
  simp only [P59, S59]
  rw [any_loop (fun x : Int × Dim => !leafB x.2.members x.1.toNat) (p.zip o) false true (fun i y hy => ?_) (by rw [List.length_zip, ← hf.len, Nat.min_self]; simp [S59_L1])]
  · rw [leafP, all_any]
    cases (p.zip o).any fun x => !leafB x.2.members x.1.toNat <;> rfl
  · obtain ⟨e1, e2⟩ := List.getElem?_zip_eq_some.1 hy
    have hi := (List.getElem?_eq_some_iff.1 e1).1
    have e : ((i : Nat) : Int) < ((p.length : Nat) : Int) := by omega
    have hm := hf.mem i _ _ e1 e2
    have hl := hd _ (List.mem_of_getElem? e2)
    obtain ⟨k, hk⟩ := Int.eq_ofNat_of_zero_le hm.1
    rw [hk] at hm e1
    simp only [S59_L1, e, decide_true, br_true, lookI_nat, e1, e2, bno_s, hk, P44_eq hl (by omega : k < y.2.members.length), Int.toNat_natCast]
    rw [wiid (by omega) (by omega)]
    cases leafB y.2.members k <;> rfl
def numW (o : List Dim) (p : List Int) : Int := (p.zip o).foldl (fun n x => wi (wi (n * (x.2.members.length : Int)) + x.1)) 0
theorem P49_eq {o : List Dim} {p : List Int} (hl : p.length = o.length) (h : p.length ≤ 9223372036854775807) : P49 o p = some (numW o p) := by
  have hz : (p.zip o).length = p.length := by rw [List.length_zip, ← hl, Nat.min_self]
  have hs := seq_loop (B := S49_L1 o p) (fun i => (((p.zip o).take i).foldl (fun n x => wi (wi (n * (x.2.members.length : Int)) + x.1)) 0, (i : Int))) p.length (fun i hi => by
    have e : ((i : Nat) : Int) < ((p.length : Nat) : Int) := by omega
    have hx : (p.zip o)[i]? = some (p[i], o[i]'(by omega)) := List.getElem?_zip_eq_some.2 ⟨List.getElem?_eq_getElem hi, List.getElem?_eq_getElem (by omega)⟩
    simp only [S49_L1, e, decide_true, br_true, lookI_nat, List.getElem?_eq_getElem hi, List.getElem?_eq_getElem (by omega : i < o.length), bno_s, nxO_s]
    rw [wiid (n := (i : Int) + 1) (by omega) (by omega), fold_take _ _ _ hx]; rfl)
  have ht : (p.zip o).take p.length = p.zip o := by rw [← hz, List.take_length]
  rw [ht] at hs
  have hs : lpO (S49_L1 o p) (0, 0) = some (.inl (numW o p, (p.length : Int))) := hs.trans (lpO_dn (by simp [S49_L1, numW]))
  simp only [P49, S49, lp_eq, hs, jn_l]
end Ab
