/-
  formula.Parse as a function of the abstract machine: how a text is read.
-/
import Derived.Test.YtchidgkpkhloeaaDoorMSu
import Derived.Test.YtchidgkpkhloeaaDoorMSt
import Derived.Test.YtchidgkpkhloeaaDoorMFm
namespace Ab
open Go Go.RowKit
set_option linter.unusedVariables false
set_option linter.unusedSimpArgs false

/-- The byte at a place; 0: there is none. -/
def pk (s : ByteArray) (i : Nat) : Nat := match s.data[i]? with | some b => b.toNat | none => 0
def dgB (c : Nat) : Bool := decide (48 ≤ c) && decide (c ≤ 57)
def ltB (c : Nat) : Bool := decide (97 ≤ c) && decide (c ≤ 122)
/-- Where a number that begins at 'at' ends; where a name does. -/
def numE (s : ByteArray) (from_ : Nat) : Nat → Nat → Nat
  | 0, i => i
  | f + 1, i => if dgB (pk s i) = true ∧ i - from_ < 7 ∧ (i = from_ ∨ pk s from_ ≠ 48) then numE s from_ f (i + 1) else i
def namE (s : ByteArray) : Nat → Nat → Nat
  | 0, i => i
  | f + 1, i => if ltB (pk s i) = true then namE s f (i + 1) else i
/-- What comes of reading: a node's place, how far, the nodes; or where it cannot go on. -/
inductive PR where
  | ok (i at_ : Nat) (l : List Node)
  | bad (at_ : Nat)
/-- What is read: one; a row of ones (0), of products (1); what follows in such a row. -/
inductive Md where
  | one
  | row (lv : Bool)
  | more (lv : Bool) (i : Nat)
def subM (lv : Bool) : Md := if lv = true then .row false else .one
def inRow (lv : Bool) (c : Nat) : Bool := if lv = true then c == 43 || c == 45 else c == 42 || c == 47
def opC (c : Nat) : Int := if c = 43 then 3 else if c = 45 then 4 else if c = 42 then 5 else 6
def rd (s : ByteArray) : Nat → Md → Nat → List Node → Option PR
  | 0, _, _, _ => none
  | f + 1, .one, at_, l =>
    if 1000 ≤ l.length then none
    else if dgB (pk s at_) = true then some (.ok l.length (numE s at_ 8 at_) (l ++ [⟨1, (atoiV (s.extract at_ (numE s at_ 8 at_))).1, ⟨#[]⟩, 0, 0⟩]))
    else if ltB (pk s at_) = true then some (.ok l.length (namE s (s.size + 1) at_) (l ++ [⟨2, 0, s.extract at_ (namE s (s.size + 1) at_), 0, 0⟩]))
    else if pk s at_ ≠ 40 then some (.bad at_)
    else match rd s f (.row true) (at_ + 1) l with
      | some (.ok i a l') => if pk s a ≠ 41 then some (.bad a) else some (.ok i (a + 1) l')
      | r => r
  | f + 1, .row lv, at_, l => match rd s f (subM lv) at_ l with
    | some (.ok i a l') => rd s f (.more lv i) a l'
    | r => r
  | f + 1, .more lv i, at_, l =>
    if inRow lv (pk s at_) = false then some (.ok i at_ l)
    else match rd s f (subM lv) (at_ + 1) l with
      | some (.ok k a l') => if 1000 ≤ l'.length then none else rd s f (.more lv l'.length) a (l' ++ [⟨opC (pk s at_), 0, ⟨#[]⟩, i, k⟩])
      | r => r

theorem dg_lt {s : ByteArray} {j : Nat} (h : dgB (pk s j) = true) : j < s.size := by
  unfold pk at h
  cases hj : s.data[j]? with
  | none => rw [hj] at h; simp [dgB] at h
  | some b => exact (Array.getElem?_eq_some_iff.1 hj).1
theorem lt_lt {s : ByteArray} {j : Nat} (h : ltB (pk s j) = true) : j < s.size := by
  unfold pk at h
  cases hj : s.data[j]? with
  | none => rw [hj] at h; simp [ltB] at h
  | some b => exact (Array.getElem?_eq_some_iff.1 hj).1
theorem pk_lt {s : ByteArray} {j : Nat} (h : pk s j ≠ 0) : j < s.size := by
  unfold pk at h
  cases hj : s.data[j]? with
  | none => rw [hj] at h; exact absurd rfl h
  | some b => exact (Array.getElem?_eq_some_iff.1 hj).1
theorem pk_at {s : ByteArray} {j : Nat} (h : j < s.size) : s.data[j]? = some (s.data[j]'h) ∧ pk s j = (s.data[j]'h).toNat := by
  have e : s.data[j]? = some (s.data[j]'h) := Array.getElem?_eq_getElem h
  exact ⟨e, by unfold pk; rw [e]⟩
theorem pk_256 (s : ByteArray) (j : Nat) : pk s j < 256 := by
  unfold pk
  cases s.data[j]? with
  | none => decide
  | some b => exact b.toNat_lt
theorem numE_ok (s : ByteArray) (a : Nat) : ∀ (f i : Nat), i ≤ numE s a f i ∧ (∀ j, i ≤ j → j < numE s a f i → dgB (pk s j) = true) ∧ (i - a ≤ 7 → numE s a f i - a ≤ 7) ∧ (i ≤ s.size → numE s a f i ≤ s.size)
  | 0, i => ⟨Nat.le_refl _, fun j h1 h2 => absurd (Nat.lt_of_le_of_lt h1 h2) (Nat.lt_irrefl _), id, id⟩
  | f + 1, i => by
    simp only [numE]
    split
    · rename_i h
      obtain ⟨h1, h2, h3, h4⟩ := numE_ok s a f (i + 1)
      refine ⟨by omega, fun j h5 h6 => ?_, fun _ => h3 (by omega), fun _ => h4 (dg_lt h.1)⟩
      by_cases e : j = i
      · subst e; exact h.1
      · exact h2 j (by omega) h6
    · exact ⟨Nat.le_refl _, fun j h1 h2 => absurd (Nat.lt_of_le_of_lt h1 h2) (Nat.lt_irrefl _), id, id⟩
theorem namE_ok (s : ByteArray) : ∀ (f i : Nat), i ≤ namE s f i ∧ (∀ j, i ≤ j → j < namE s f i → ltB (pk s j) = true) ∧ (i ≤ s.size → namE s f i ≤ s.size)
  | 0, i => ⟨Nat.le_refl _, fun j h1 h2 => absurd (Nat.lt_of_le_of_lt h1 h2) (Nat.lt_irrefl _), id⟩
  | f + 1, i => by
    simp only [namE]
    split
    · rename_i h
      obtain ⟨h1, h2, h4⟩ := namE_ok s f (i + 1)
      refine ⟨by omega, fun j h5 h6 => ?_, fun _ => h4 (lt_lt h)⟩
      by_cases e : j = i
      · subst e; exact h
      · exact h2 j (by omega) h6
    · exact ⟨Nat.le_refl _, fun j h1 h2 => absurd (Nat.lt_of_le_of_lt h1 h2) (Nat.lt_irrefl _), id⟩
theorem uint_ok : ∀ (ds : List UInt8) (acc k : Nat), (∀ c ∈ ds, 48 ≤ c.toNat ∧ c.toNat ≤ 57) → acc < 10 ^ k → k + ds.length ≤ 15 → ∃ u, Lib.parseUint10 acc ds = .ok u ∧ u < 10 ^ (k + ds.length)
  | [], acc, k, _, h, _ => ⟨acc, rfl, h⟩
  | c :: r, acc, k, hd, h, hl => by
    obtain ⟨h1, h2⟩ := hd c (by simp)
    simp only [List.length_cons] at hl
    have hp : (10 : Nat) ^ k ≤ 10 ^ 15 := Nat.pow_le_pow_right (by decide) (by omega)
    have hq : (10 : Nat) ^ (k + 1) ≤ 10 ^ 15 := Nat.pow_le_pow_right (by decide) (by omega)
    have hs : (10 : Nat) ^ (k + 1) = 10 ^ k * 10 := Nat.pow_succ ..
    obtain ⟨u, e1, e2⟩ := uint_ok r (acc * 10 + (c.toNat - 48)) (k + 1) (fun c hc => hd c (List.mem_cons_of_mem _ hc)) (by omega) (by omega)
    refine ⟨u, ?_, by simp only [List.length_cons]; rw [show k + (r.length + 1) = k + 1 + r.length by omega]; exact e2⟩
    simp only [Lib.parseUint10]
    rw [if_pos ⟨h1, h2⟩, if_neg (by omega), if_neg (by omega)]
    exact e1
theorem atoi_dig {ds : List UInt8} (h : ds ≠ []) (hd : ∀ c ∈ ds, 48 ≤ c.toNat ∧ c.toNat ≤ 57) (hl : ds.length ≤ 15) : ∃ v, Lib.atoiAll ds = .ok v := by
  cases ds with
  | nil => exact absurd rfl h
  | cons c r =>
    obtain ⟨u, e1, e2⟩ := uint_ok (c :: r) 0 0 hd (by decide) (by omega)
    obtain ⟨h1, h2⟩ := hd c (by simp)
    have e3 : (10 : Nat) ^ (0 + (c :: r).length) ≤ 10 ^ 15 := Nat.pow_le_pow_right (by decide) (by omega)
    have e4 : (10 : Nat) ^ 15 = 1000000000000000 := by decide
    refine ⟨(u : Int), ?_⟩
    simp only [Lib.atoiAll, Lib.parseMag]
    rw [if_neg (show ¬ (c.toNat = 43 ∨ c.toNat = 45) by omega), if_neg (show ¬ (c :: r = []) by simp), e1]
    simp only
    rw [if_neg (by omega), if_neg (by omega), if_neg (by omega)]
theorem ext_list (s : ByteArray) (a e : Nat) : (s.extract a e).data.toList = (s.data.toList.drop a).take (e - a) := by
  rw [ByteArray.data_extract, Array.toList_extract]
/-- The number that is read is one. -/
theorem num_atoi {s : ByteArray} {a : Nat} (h : dgB (pk s a) = true) : ∃ v, Lib.atoiAll (s.extract a (numE s a 8 a)).data.toList = .ok v := by
  obtain ⟨h1, h2, h3, h4⟩ := numE_ok s a 8 a
  have h5 := h3 (by omega)
  have hlt := dg_lt h
  have hle := h4 (by omega)
  have hne : a < numE s a 8 a := by
    have : numE s a 8 a = numE s a 7 (a + 1) := by
      show (if _ then _ else _) = _
      rw [if_pos ⟨h, by omega, .inl rfl⟩]
    rw [this]
    exact (numE_ok s a 7 (a + 1)).1
  rw [ext_list]
  have hsz : s.data.toList.length = s.size := rfl
  refine atoi_dig (fun e => ?_) (fun c hc => ?_) ?_
  · have := congrArg List.length e
    simp only [List.length_take, List.length_drop, List.length_nil] at this
    omega
  · obtain ⟨j, hj, rfl⟩ := List.getElem_of_mem hc
    simp only [List.length_take, List.length_drop] at hj
    have := h2 (a + j) (by omega) (by omega)
    rw [(pk_at (show a + j < s.size by omega)).2] at this
    simp only [List.getElem_take, List.getElem_drop, Array.getElem_toList]
    simp only [dgB, Bool.and_eq_true, decide_eq_true_eq] at this
    exact this
  · rw [List.length_take]
    omega
/-- Reading goes on. -/
theorem rd_le (s : ByteArray) : ∀ (f : Nat) (m : Md) (at_ : Nat) (l : List Node) (i a : Nat) (l' : List Node), rd s f m at_ l = some (.ok i a l') → at_ ≤ a
  | 0, _, _, _, _, _, _, h => by cases h
  | f + 1, .one, at_, l, i, a, l', h => by
    simp only [rd] at h
    split at h
    · cases h
    split at h
    · cases h
      exact (numE_ok s at_ 8 at_).1
    split at h
    · cases h
      exact (namE_ok s (s.size + 1) at_).1
    split at h
    · cases h
    cases hs : rd s f (.row true) (at_ + 1) l with
    | none => rw [hs] at h; cases h
    | some r =>
      rw [hs] at h
      cases r with
      | bad b => cases h
      | ok j b l2 =>
        have := rd_le s f _ _ _ _ _ _ hs
        simp only at h
        split at h
        · cases h
        · cases h
          omega
  | f + 1, .row lv, at_, l, i, a, l', h => by
    simp only [rd] at h
    cases hs : rd s f (subM lv) at_ l with
    | none => rw [hs] at h; cases h
    | some r =>
      rw [hs] at h
      cases r with
      | bad b => cases h
      | ok j b l2 =>
        have h1 := rd_le s f _ _ _ _ _ _ hs
        have h2 := rd_le s f _ _ _ _ _ _ h
        omega
  | f + 1, .more lv j0, at_, l, i, a, l', h => by
    simp only [rd] at h
    split at h
    · cases h; exact Nat.le_refl _
    cases hs : rd s f (subM lv) (at_ + 1) l with
    | none => rw [hs] at h; cases h
    | some r =>
      rw [hs] at h
      cases r with
      | bad b => cases h
      | ok j b l2 =>
        have h1 := rd_le s f _ _ _ _ _ _ hs
        simp only at h
        split at h
        · cases h
        · have h2 := rd_le s f _ _ _ _ _ _ h
          omega
end Ab
