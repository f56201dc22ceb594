/-
  Plain laws: what the functions of package tree come to.
-/
import Derived.Test.YtchidgkpkhloeaaGreatDoorMT
import Derived.Test.YtchidgkpkhloeaaGreatDoorQO
namespace Ab
open Go
set_option linter.unusedVariables false
set_option linter.unusedSimpArgs false
structure Rooted (l : List Member) : Prop where
  up : ∀ (i : Nat) (m : Member), l[i]? = some m → -1 ≤ m.parent ∧ m.parent < i
  sign : ∀ (i : Nat) (m : Member), l[i]? = some m → -1 ≤ m.sign ∧ m.sign ≤ 1
  form : ∀ (i : Nat) (m : Member), l[i]? = some m → 0 ≤ m.parent → hasF l m.parent = false
def idxs (p : Nat → Bool) (n : Nat) : List Int := ((List.range n).filter p).map fun (k : Nat) => (k : Int)
theorem idxs_succ (p : Nat → Bool) (n : Nat) : idxs p (n + 1) = match p n with | true => idxs p n ++ [(n : Int)] | false => idxs p n := by
  unfold idxs
  rw [List.range_succ, List.filter_append]
  cases h : p n <;> simp [h]
theorem idxs_len (p : Nat → Bool) (n : Nat) : (idxs p n).length ≤ n := by
  unfold idxs
  rw [List.length_map]
  have := List.length_filter_le p (List.range n)
  simpa using this
theorem mem_idxs {p : Nat → Bool} {n : Nat} {x : Int} : x ∈ idxs p n ↔ ∃ k : Nat, x = k ∧ k < n ∧ p k = true := by
  unfold idxs
  simp only [List.mem_map, List.mem_filter, List.mem_range]
  exact ⟨fun ⟨k, ⟨h1, h2⟩, h3⟩ => ⟨k, h3.symm, h1, h2⟩, fun ⟨k, h1, h2, h3⟩ => ⟨k, ⟨h2, h3⟩, h1.symm⟩⟩
theorem idxs_loop {α : Type} {B : (List Int × Int) → Option (LR (List Int × Int) α)} (p : Nat → Bool) (n : Nat) (h : ∀ (i : Nat) (acc : List Int), i < n → acc.length ≤ i → B (acc, (i : Int)) = some (.nx (match p i with | true => acc ++ [(i : Int)] | false => acc, (i : Int) + 1))) (hn : ∀ acc, B (acc, (n : Int)) = some (.dn (acc, (n : Int)))) :
    lpO B ([], 0) = some (.inl (idxs p n, (n : Int))) := by
  have := (seq_loop (B := B) (fun i => (idxs p i, (i : Int))) n fun i hi => by
    rw [h i _ hi (idxs_len p i), idxs_succ]; rfl).trans (lpO_dn (hn _))
  exact this
def isPart (l : List Member) (i : Int) (k : Nat) : Bool := match l[k]? with | some m => decide (m.parent = i) | none => false
def partsOf (l : List Member) (i : Int) : List Int := idxs (isPart l i) l.length
theorem P47_eq {d : Dim} (hl : d.members.length ≤ 1000) (i : Int) : P47 d i = some (partsOf d.members i) := by
  simp only [P47, S47, lp_eq]
  rw [idxs_loop (isPart d.members i) d.members.length (fun k acc hk ha => ?_) (fun acc => by simp [S47_L1])]
  · rfl
  · have e : ((k : Nat) : Int) < ((d.members.length : Nat) : Int) := by omega
    have hr : acc.length + 1 ≤ roomA := by unfold roomA; omega
    simp only [S47_L1, e, decide_true, br_true, lookI_nat, List.getElem?_eq_getElem hk, bno_s, isPart, List.length_singleton, ck_pos hr, inlO_s, nxO_s]
    rw [wiid (by omega) (by omega)]
    by_cases h : (d.members[k]).parent = i <;> simp [h]
def sgn (l : List Member) (x : Int) : Int := match l[x.toNat]? with | some m => m.sign | none => 0
section
variable {d : Dim}
end
end Ab
