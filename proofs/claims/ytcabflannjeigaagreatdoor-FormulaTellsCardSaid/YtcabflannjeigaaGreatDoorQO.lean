/-
  Plain laws: what the functions of package outline come to.
-/
import Derived.Test.YtcabflannjeigaaGreatDoorMO
import Derived.Test.YtcabflannjeigaaGreatDoorTP
import Derived.Test.YtcabflannjeigaaGreatDoorLG
namespace Ab
open Go
set_option linter.unusedVariables false
set_option linter.unusedSimpArgs false

def nameBad (s : ByteArray) : Bool := decide (s = ⟨#[]⟩) || (decide (8 < s.size) || s.data.toList.any fun c => decide (c.toNat < 97) || decide (122 < c.toNat))
def errOf (e : Int) : Err := if e = 0 then .nil else .no e
theorem P67_eq (n : Int) : P67 n = some (decide (n < 97) || decide (122 < n)) := by simp [P67, S67]
theorem P75_eq (l : List UInt8) (h : l.length ≤ 9223372036854775807) : P75_67 l = some (idxOf (fun c => decide (c.toNat < 97) || decide (122 < c.toNat)) l) := by
  refine find_loop _ l (fun i y hy => ?_) (by simp [S75_67_L1])
  have hi := (List.getElem?_eq_some_iff.1 hy).1
  have e : (((i : Nat) : Int) < ((l.length : Nat) : Int)) := by omega
  simp only [S75_67_L1, lookI_nat, hy, bno_s, P67_eq, e, decide_true, br_true]
  rw [wiid (by omega) (by omega)]
  have e1 : ((y.toNat : Nat) : Int) < 97 ↔ y.toNat < 97 := by omega
  have e2 : 122 < ((y.toNat : Nat) : Int) ↔ 122 < y.toNat := by omega
  simp only [e1, e2]
  cases (decide (y.toNat < 97) || decide (122 < y.toNat)) <;> rfl
theorem any_idx {β : Type} (p : β → Bool) (l : List β) : decide (0 ≤ idxOf p l) = l.any p := by
  cases h : l.any p with
  | false => have := idxOf_neg.2 h; simp; omega
  | true =>
    have : ¬ idxOf p l < 0 := fun e => by rw [idxOf_neg.1 e] at h; cases h
    simp; omega
theorem P41_eq (s : ByteArray) : P41 s = some (if nameBad s then .no 2 else .nil) := by
  by_cases h1 : s = ⟨#[]⟩
  · subst h1; simp [P41, S41, nameBad]
  · by_cases h2 : 8 < s.size
    · have : (8 : Int) < ((s.size : Nat) : Int) := by omega
      simp [P41, S41, nameBad, h1, h2, this]
    · have h3 : ¬ (8 : Int) < ((s.size : Nat) : Int) := by omega
      have hl : s.data.toList.length ≤ 9223372036854775807 := by
        have : s.data.toList.length = s.size := rfl
        omega
      simp only [P41, S41, P66_67, S66_67, P75_eq _ hl, h1, h3, decide_false, br_false, bno_s, any_idx, inlO_s, jn_l]
      simp only [nameBad, h1, h2, decide_false, Bool.false_or]
      cases (s.data.toList.any fun c => decide (c.toNat < 97) || decide (122 < c.toNat)) <;> rfl
def outIn (l : List Dim) (d : Dim) : Bool := l.any fun x => decide (x.name = d.name)
def hasF (l : List Member) (p : Int) : Bool := match l[p.toNat]? with | some x => decide (¬ x.formula = ⟨#[]⟩) | none => false
/-- What is wrong with a member. -/
def memErr (l : List Member) (i : Nat) (m : Member) : Int :=
  if nameBad m.name = true then 2 else if ((l.take i).any fun x => decide (x.name = m.name)) = true then 7 else if m.parent < -1 ∨ (i : Int) ≤ m.parent then 1
  else if 0 ≤ m.parent ∧ hasF l m.parent = true then 6 else if m.sign < -1 ∨ 1 < m.sign then 1 else if 100 < m.formula.size then 4 else 0
theorem errOf_nil {e : Int} : (errOf e).isNil = decide (e = 0) := by unfold errOf; split <;> simp_all
def sizeW (o : List Dim) : Int := o.foldl (fun n d => wi (n * ((d.members.length : Nat) : Int))) 1
/-- What is right. -/
structure DimOk (d : Dim) : Prop where
  name : nameBad d.name = false
  solve : 0 ≤ d.solve ∧ d.solve ≤ 9
  len : 0 < d.members.length ∧ d.members.length ≤ 12
  mem : ∀ (i : Nat) (m : Member), d.members[i]? = some m → memErr d.members i m = 0
structure OutOk (o : List Dim) : Prop where
  len : 0 < o.length ∧ o.length ≤ 4
  dims : ∀ d ∈ o, DimOk d
  names : ∀ (i : Nat) (d : Dim), o[i]? = some d → outIn (o.take i) d = false
  size : sizeW o ≤ 3000
end Ab
