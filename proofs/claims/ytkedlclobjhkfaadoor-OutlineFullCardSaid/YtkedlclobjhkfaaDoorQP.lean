/-
  Plain laws: what the functions of package place come to.
-/
import Derived.Test.YtkedlclobjhkfaaDoorMP
import Derived.Test.YtkedlclobjhkfaaDoorQT
namespace Ab
open Go
set_option linter.unusedVariables false
set_option linter.unusedSimpArgs false

/-- The place at a number, from behind: what is left of the number, too. -/
def digs : List Dim → Nat → List Int × Nat
  | [], n => ([], n)
  | d :: r, n => (((((digs r n).2 % d.members.length : Nat)) : Int) :: (digs r n).1, (digs r n).2 / d.members.length)
theorem digs_len (o : List Dim) (n : Nat) : (digs o n).1.length = o.length := by
  induction o with
  | nil => rfl
  | cons d r ih => simp [digs, ih]
theorem digs_le (o : List Dim) (n : Nat) : (digs o n).2 ≤ n := by
  induction o with
  | nil => exact Nat.le_refl _
  | cons d r ih => simp only [digs]; exact Nat.le_trans (Nat.div_le_self _ _) ih
theorem set_rep (k : Nat) (x : Int) (l : List Int) : (List.replicate (k + 1) (0 : Int) ++ l).set k x = List.replicate k 0 ++ x :: l := by
  induction k with
  | zero => rfl
  | succ k ih => rw [List.replicate_succ, List.cons_append, List.set_cons_succ, ih]; rfl
theorem P69_eq (o : List Dim) (n : Nat) (hl : o.length ≤ 1000) (hn : n ≤ 1000000000) (hp : ∀ d ∈ o, 0 < d.members.length ∧ d.members.length ≤ 1000000) : P69 o (n : Int) = some (digs o n).1 := by
  have hck : (0 : Int) ≤ (o.length : Int) ∧ (o.length : Int) ≤ (o.length : Int) ∧ (o.length : Int) ≤ roomA := by unfold roomA; omega
  have hs := seq_loop (B := S69_L1 o) (fun k => ((((digs (o.drop (o.length - k)) n).2 : Nat) : Int), ((o.length : Int) - k - 1, List.replicate (o.length - k) (0 : Int) ++ (digs (o.drop (o.length - k)) n).1))) o.length (fun k hk => by
    obtain ⟨j, hj⟩ : ∃ j, o.length - k = j + 1 := ⟨o.length - k - 1, by omega⟩
    have hj2 : o.length - (k + 1) = j := by omega
    have hjl : j < o.length := by omega
    have hd := List.getElem?_eq_getElem hjl
    have hdrop : o.drop j = o[j] :: o.drop (j + 1) := List.drop_eq_getElem_cons hjl
    have hpos := hp o[j] (List.getElem_mem hjl)
    have hle := digs_le (o.drop (j + 1)) n
    have ei : (o.length : Int) - (k : Int) - 1 = (j : Int) := by omega
    have ei2 : (o.length : Int) - ((k + 1 : Nat) : Int) - 1 = (j : Int) - 1 := by omega
    have h0 : (0 : Int) ≤ (j : Int) := by omega
    have hne : ¬ ((o[j].members.length : Nat) : Int) = 0 := by omega
    simp only [hj, hj2, ei, ei2, hdrop, digs]
    have hlen : (List.replicate (j + 1) (0 : Int) ++ (digs (o.drop (j + 1)) n).1).length = o.length := by simp [digs_len]; omega
    have hck2 : (0 : Int) ≤ (j : Int) ∧ (j : Int) < (((List.replicate (j + 1) (0 : Int) ++ (digs (o.drop (j + 1)) n).1).length : Nat) : Int) := by rw [hlen]; omega
    have hget : (List.replicate (j + 1) (0 : Int) ++ (digs (o.drop (j + 1)) n).1)[j]? = some 0 := by
      rw [List.getElem?_append_left (by simp), List.getElem?_replicate]; simp
    simp only [S69_L1, h0, decide_true, br_true, lookI_nat, hd, bno_s, hne, not_false_eq_true, ck_true, hck2.2, true_and, Int.toNat_natCast, hget, set_rep, nxO_s]
    have ediv : Int.tdiv (((digs (o.drop (j + 1)) n).2 : Nat) : Int) ((o[j].members.length : Nat) : Int) = (((digs (o.drop (j + 1)) n).2 / o[j].members.length : Nat) : Int) := rfl
    have emod : Int.tmod (((digs (o.drop (j + 1)) n).2 : Nat) : Int) ((o[j].members.length : Nat) : Int) = (((digs (o.drop (j + 1)) n).2 % o[j].members.length : Nat) : Int) := rfl
    have hdl := Nat.div_le_self (digs (o.drop (j + 1)) n).2 o[j].members.length
    rw [ediv, emod]
    clear ediv emod
    generalize (digs (o.drop (j + 1)) n).2 / o[j].members.length = q at hdl ⊢
    rw [wiid (n := (q : Int)) (by omega) (by omega), wiid (by omega) (by omega)])
  have e0 : o.drop (o.length - 0) = [] := by simp
  have e1 : o.drop (o.length - o.length) = o := by simp
  simp only [e0, e1] at hs
  simp only [Nat.sub_self, List.replicate_zero, List.nil_append, Nat.sub_zero, digs, List.append_nil] at hs
  have hs2 : lpO (S69_L1 o) ((n : Int), ((o.length : Int) - 1, List.replicate o.length (0 : Int))) = some (.inl ((((digs o n).2 : Nat) : Int), (-1, (digs o n).1))) := by
    have ea : (o.length : Int) - ((0 : Nat) : Int) - 1 = (o.length : Int) - 1 := by omega
    have eb : (o.length : Int) - ((o.length : Nat) : Int) - 1 = -1 := by omega
    rw [ea, eb] at hs
    exact hs.trans (lpO_dn (by simp [S69_L1]))
  simp only [P69, S69, ck_pos hck, lp_eq, Int.toNat_natCast, List.length_replicate]
  rw [wiid (by omega) (by omega), hs2]
  rfl
theorem P93_eq (o : List Dim) : P93 o = some (if (outErr o).2.2 = 0 then (sizeW o, .nil) else (0, errOf (outErr o).2.2)) := by
  simp only [P93, S93, P51_eq, bno_s, errOf_nil]
  by_cases h : (outErr o).2.2 = 0
  · have := (out_ok.1 h).len
    simp [h, P40_eq o (by omega)]
  · simp [h]
theorem P98_eq (o : List Dim) (n : Int) : P98 o n = some (if (outErr o).2.2 = 0 then (if n < 0 ∨ sizeW o ≤ n then ([], .no 1) else ((digs o n.toNat).1, .nil)) else ([], errOf (outErr o).2.2)) := by
  simp only [P98, S98, P51_eq, bno_s, errOf_nil]
  by_cases h : (outErr o).2.2 = 0
  · have ok := out_ok.1 h
    have hl := ok.len
    have hs := ok.size
    simp only [h, decide_true, Bool.not_true, br_false, P40_eq o (by omega), bno_s, inlO_s, br_inl, jn_l, if_true]
    by_cases h1 : n < 0
    · simp [h1]
    · by_cases h2 : sizeW o ≤ n
      · simp [h1, h2]
      · obtain ⟨k, rfl⟩ := Int.eq_ofNat_of_zero_le (by omega : 0 ≤ n)
        simp only [h1, h2, decide_false, cond_false, br_false, false_or, if_false, Int.toNat_natCast]
        rw [P69_eq o k (by omega) (by omega) fun d hd => by have := (ok.dims d hd).len; omega]
        rfl
  · simp [h]
end Ab
