/-
  Plain laws: products of lists; places by number.
-/
import Derived.Test.YthjpciiacibnhaaDoorQP
namespace Ab
open Go
set_option linter.unusedVariables false
set_option linter.unusedSimpArgs false

def cart {α : Type} : List (List α) → List (List α)
  | [] => [[]]
  | l :: r => l.flatMap fun k => (cart r).map (k :: ·)
theorem flatMap_congr' {α β : Type} {f g : α → List β} : ∀ {l : List α}, (∀ a ∈ l, f a = g a) → l.flatMap f = l.flatMap g
  | [], _ => rfl
  | a :: l, h => by rw [List.flatMap_cons, List.flatMap_cons, h a List.mem_cons_self, flatMap_congr' fun b hb => h b (List.mem_cons_of_mem _ hb)]
theorem flatMap_map' {α β γ : Type} (f : α → β) (g : β → List γ) (l : List α) : (l.map f).flatMap g = l.flatMap fun a => g (f a) := by
  induction l with
  | nil => rfl
  | cons a l ih => simp only [List.map_cons, List.flatMap_cons, ih]
theorem map_flatMap' {α β γ : Type} (f : β → γ) (g : α → List β) (l : List α) : (l.flatMap g).map f = l.flatMap fun a => (g a).map f := by
  induction l with
  | nil => rfl
  | cons a l ih => simp only [List.flatMap_cons, List.map_append, ih]
theorem flatMap_flatMap' {α β γ : Type} (f : α → List β) (g : β → List γ) (l : List α) : (l.flatMap f).flatMap g = l.flatMap fun a => (f a).flatMap g := by
  induction l with
  | nil => rfl
  | cons a l ih => simp only [List.flatMap_cons, List.flatMap_append, ih]
/-- One list behind the other. -/
theorem cart_fold {α : Type} : ∀ (Ls : List (List α)) (acc : List (List α)), Ls.foldl (fun out l => out.flatMap fun q => l.map fun k => q ++ [k]) acc = acc.flatMap fun q => (cart Ls).map fun t => q ++ t
  | [], acc => by
    simp only [List.foldl_nil, cart, List.map_cons, List.map_nil, List.append_nil]
    induction acc with
    | nil => rfl
    | cons a l ih => simp only [List.flatMap_cons, ← ih]; rfl
  | l :: Ls, acc => by
    rw [List.foldl_cons, cart_fold Ls, flatMap_flatMap']
    congr 1; funext q
    rw [flatMap_map']
    simp only [cart, map_flatMap', List.map_map]
    congr 1; funext k
    congr 1; funext t
    simp
theorem range_mul (a b : Nat) : List.range (a * b) = (List.range a).flatMap fun q => (List.range b).map fun s => q * b + s := by
  induction a with
  | zero => simp
  | succ a ih =>
    rw [Nat.succ_mul, List.range_add, ih, List.range_succ, List.flatMap_append]
    simp
def sizeN (o : List Dim) : Nat := o.foldr (fun d n => d.members.length * n) 1
theorem digs_size (o : List Dim) (hp : ∀ d ∈ o, 0 < d.members.length) : ∀ (q s : Nat), s < sizeN o → digs o (q * sizeN o + s) = ((digs o s).1, q) := by
  induction o with
  | nil => intro q s hs; simp [sizeN] at hs; subst hs; simp [digs, sizeN]
  | cons d r ih =>
    intro q s hs
    have hpr : ∀ x ∈ r, 0 < x.members.length := fun x hx => hp x (List.mem_cons_of_mem _ hx)
    have hd := hp d List.mem_cons_self
    have hS : sizeN (d :: r) = d.members.length * sizeN r := rfl
    have hSr : 0 < sizeN r := by
      cases h : sizeN r with
      | zero => rw [hS, h] at hs; simp at hs
      | succ => omega
    rw [hS] at hs ⊢
    have hs1 : s = (s / sizeN r) * sizeN r + s % sizeN r := by rw [Nat.mul_comm]; exact (Nat.div_add_mod s (sizeN r)).symm
    have hs2 : s % sizeN r < sizeN r := Nat.mod_lt _ hSr
    have hs3 : s / sizeN r < d.members.length := Nat.div_lt_of_lt_mul (by rw [Nat.mul_comm]; exact hs)
    have e1 : q * (d.members.length * sizeN r) + s = (q * d.members.length + s / sizeN r) * sizeN r + s % sizeN r := by
      rw [Nat.add_mul, Nat.mul_assoc, Nat.add_assoc]; omega
    have d1 := ih hpr (q * d.members.length + s / sizeN r) (s % sizeN r) hs2
    have d2 := ih hpr (s / sizeN r) (s % sizeN r) hs2
    rw [← e1] at d1
    rw [← hs1] at d2
    simp only [digs, d1, d2]
    rw [Nat.add_comm (q * d.members.length), Nat.add_mul_mod_self_right, Nat.mod_eq_of_lt hs3, Nat.add_mul_div_right _ _ hd, Nat.div_eq_of_lt hs3, Nat.zero_add]
/-- All places in the order of their numbers. -/
theorem places_cart (o : List Dim) (hp : ∀ d ∈ o, 0 < d.members.length) : (List.range (sizeN o)).map (fun n => (digs o n).1) = cart (o.map fun d => (List.range d.members.length).map fun (k : Nat) => (k : Int)) := by
  induction o with
  | nil => rfl
  | cons d r ih =>
    have hpr : ∀ x ∈ r, 0 < x.members.length := fun x hx => hp x (List.mem_cons_of_mem _ hx)
    have hS : sizeN (d :: r) = d.members.length * sizeN r := rfl
    rw [hS, range_mul, map_flatMap', List.map_cons, cart, flatMap_map', ← ih hpr]
    refine flatMap_congr' fun q hq => ?_
    rw [List.map_map, List.map_map]
    refine List.map_congr_left fun s hs => ?_
    have hs' : s < sizeN r := by simpa using hs
    have hq' : q < d.members.length := by simpa using hq
    simp only [Function.comp, digs, digs_size r hpr q s hs', Nat.mod_eq_of_lt hq']
theorem filter_flatMap' {α β : Type} (p : β → Bool) (g : α → List β) (l : List α) : (l.flatMap g).filter p = l.flatMap fun a => (g a).filter p := by
  induction l with
  | nil => rfl
  | cons a l ih => simp only [List.flatMap_cons, List.filter_append, ih]
theorem flatMap_filter' {α β : Type} (p : α → Bool) (g : α → List β) (l : List α) : (l.filter p).flatMap g = l.flatMap fun a => if p a = true then g a else [] := by
  induction l with
  | nil => rfl
  | cons a l ih => rw [List.filter_cons, List.flatMap_cons, ← ih]; cases p a <;> simp
/-- What is right in each part. -/
def allIn {α : Type} : List (α → Bool) → List α → Bool
  | f :: fs, x :: xs => f x && allIn fs xs
  | _, _ => true
theorem filter_cart {α : Type} : ∀ (fs : List (α → Bool)) (Ls : List (List α)), fs.length = Ls.length → (cart Ls).filter (allIn fs) = cart (List.zipWith (fun f l => l.filter f) fs Ls)
  | [], [], _ => rfl
  | f :: fs, l :: Ls, h => by
    simp only [List.length_cons, Nat.add_right_cancel_iff] at h
    simp only [List.zipWith_cons_cons, cart]
    rw [filter_flatMap', flatMap_filter', ← filter_cart fs Ls h]
    refine flatMap_congr' fun k _ => ?_
    rw [List.filter_map]
    cases hk : f k with
    | true =>
      rw [if_pos rfl]
      congr 1
      refine List.filter_congr fun t _ => ?_
      simp [Function.comp, allIn, hk]
    | false =>
      have : (cart Ls).filter (allIn (f :: fs) ∘ fun x => k :: x) = [] := List.filter_eq_nil_iff.2 fun t _ => by simp [Function.comp, allIn, hk]
      rw [this]; simp
  | [], _ :: _, h => by simp at h
  | _ :: _, [], h => by simp at h
end Ab
