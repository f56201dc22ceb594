/-
  Laws for loops and ways, for plain reasoning.
-/
import Derived.Test.YtchidgkpkhloeaaGreatDoorB1
namespace Ab
open Go
set_option linter.unusedVariables false
section
variable {α β σ : Type}
attribute [simp] bnd
@[simp] theorem inlO_s (x : σ) : inlO (α := α) (some x) = some (.inl x) := rfl
@[simp] theorem inlO_n : inlO (α := α) (none : Option σ) = none := rfl
@[simp] theorem inrO_s (x : α) : inrO (σ := σ) (some x) = some (.inr x) := rfl
@[simp] theorem inrO_n : inrO (σ := σ) (none : Option α) = none := rfl
@[simp] theorem nxO_s (x : σ) : nxO (α := α) (some x) = some (.nx x) := rfl
@[simp] theorem nxO_n : nxO (α := α) (none : Option σ) = none := rfl
@[simp] theorem dnO_s (x : σ) : dnO (α := α) (some x) = some (.dn x) := rfl
@[simp] theorem dnO_n : dnO (α := α) (none : Option σ) = none := rfl
@[simp] theorem finO_s (x : α) : finO (σ := σ) (some x) = some (.fin x) := rfl
@[simp] theorem finO_n : finO (σ := σ) (none : Option α) = none := rfl
@[simp] theorem jn_l (x : σ) (k : σ → Option α) : jn (some (.inl x)) k = k x := rfl
@[simp] theorem jn_r (x : α) (k : σ → Option α) : jn (some (.inr x)) k = some x := rfl
@[simp] theorem jn_n (k : σ → Option α) : jn none k = none := rfl
@[simp] theorem bno_s (x : σ) (k : σ → Option α) : bno (some x) k = k x := rfl
@[simp] theorem bno_n (k : σ → Option α) : bno none k = none := rfl
@[simp] theorem br_true (x y : Option α) : br true x y = x := rfl
@[simp] theorem br_false (x y : Option α) : br false x y = y := rfl
@[simp] theorem ck_true (x : Option α) : ck true x = x := rfl
theorem br_dec {p : Prop} [Decidable p] (x y : Option α) : br (decide p) x y = if p then x else y := by by_cases h : p <;> simp [h]
theorem br_eq (b : Bool) (x y : Option α) : br b x y = if b = true then x else y := by cases b <;> rfl
theorem ck_pos {p : Prop} [Decidable p] (h : p) (x : Option α) : ck (decide p) x = x := by simp [h]
theorem lpN_mono (B : σ → Option (LR σ α)) : ∀ (n : Nat) (x : σ) (r : Sum σ α), lpN B n x = some r → ∀ m, n ≤ m → lpN B m x = some r := by
  intro n
  induction n with
  | zero => intro x r h; simp [lpN] at h
  | succ n ih =>
    intro x r h m hm
    obtain ⟨m, rfl⟩ : ∃ k, m = k + 1 := ⟨m - 1, by omega⟩
    simp only [lpN] at h ⊢
    split at h
    · rename_i y hy
      exact ih y r h m (by omega)
    · exact h
    · exact h
    · cases h
theorem lpO_of {B : σ → Option (LR σ α)} {n : Nat} {x : σ} {r : Sum σ α} (h : lpN B n x = some r) : lpO B x = some r := by
  have hx : ∃ n, (lpN B n x).isSome = true := ⟨n, by rw [h]; rfl⟩
  unfold lpO
  rw [dif_pos hx]
  have hc := Classical.choose_spec hx
  obtain ⟨r', hr'⟩ := Option.isSome_iff_exists.1 hc
  have a := lpN_mono B _ _ _ h (max n (Classical.choose hx)) (by omega)
  have b := lpN_mono B _ _ _ hr' (max n (Classical.choose hx)) (by omega)
  rw [hr', ← b, a]
theorem lpO_get {B : σ → Option (LR σ α)} {x : σ} {r : Sum σ α} (h : lpO B x = some r) : ∃ n, lpN B n x = some r := by
  unfold lpO at h
  split at h
  · exact ⟨_, h⟩
  · cases h
theorem lpO_eq (B : σ → Option (LR σ α)) (x : σ) : lpO B x = match B x with
    | some (.nx y) => lpO B y
    | some (.dn y) => some (.inl y)
    | some (.fin a) => some (.inr a)
    | none => none := by
  cases hb : B x with
  | none =>
    cases h : lpO B x with
    | none => rfl
    | some r =>
      obtain ⟨n, hn⟩ := lpO_get h
      cases n with
      | zero => simp [lpN] at hn
      | succ n => simp [lpN, hb] at hn
  | some z =>
    cases z with
    | dn y => exact lpO_of (n := 1) (by simp [lpN, hb])
    | fin a => exact lpO_of (n := 1) (by simp [lpN, hb])
    | nx y =>
      cases h : lpO B x with
      | none =>
        cases h' : lpO B y with
        | none => simp only [h']
        | some r =>
          obtain ⟨n, hn⟩ := lpO_get h'
          have : lpO B x = some r := lpO_of (n := n + 1) (by simp [lpN, hb, hn])
          rw [h] at this; cases this
      | some r =>
        obtain ⟨n, hn⟩ := lpO_get h
        cases n with
        | zero => simp [lpN] at hn
        | succ n =>
          simp [lpN, hb] at hn
          simp only [lpO_of hn]
theorem lpO_nx {B : σ → Option (LR σ α)} {x y : σ} (h : B x = some (.nx y)) : lpO B x = lpO B y := by rw [lpO_eq, h]
theorem lpO_dn {B : σ → Option (LR σ α)} {x y : σ} (h : B x = some (.dn y)) : lpO B x = some (.inl y) := by rw [lpO_eq, h]
theorem lpO_fin {B : σ → Option (LR σ α)} {x : σ} {a : α} (h : B x = some (.fin a)) : lpO B x = some (.inr a) := by rw [lpO_eq, h]
@[simp] theorem br_inl (b : Bool) (x y : σ) : br b (some (Sum.inl x : Sum σ α)) (some (Sum.inl y)) = some (Sum.inl (cond b x y)) := by cases b <;> rfl
@[simp] theorem br_inr (b : Bool) (x y : α) : br b (some (Sum.inr x : Sum σ α)) (some (Sum.inr y)) = some (Sum.inr (cond b x y)) := by cases b <;> rfl
@[simp] theorem br_same (b : Bool) (x : Option α) : br b x x = x := by cases b <;> rfl
@[simp] theorem nil_isNil : Err.isNil .nil = true := rfl
@[simp] theorem no_isNil (n : Int) : Err.isNil (.no n) = false := rfl
@[simp] theorem oth_isNil (n : Nat) : Err.isNil (.oth n) = false := rfl
theorem lookI_nat {xs : List β} (i : Nat) : lookI xs (i : Int) = xs[i]? := by simp [lookI]
theorem lookI_in {xs : List β} {i : Int} (h0 : 0 ≤ i) (h1 : i < xs.length) : lookI xs i = some (xs[i.toNat]'(by omega)) := by
  unfold lookI
  rw [if_pos h0, List.getElem?_eq_getElem]
theorem wiid {n : Int} (h1 : -9223372036854775808 ≤ n) (h2 : n ≤ 9223372036854775807) : wi n = n := by
  simp [wi, IntKind.wrap, IntKind.bits, IntKind.signed]
  omega
theorem seq_loop {B : σ → Option (LR σ α)} (st : Nat → σ) : ∀ (n : Nat), (∀ i, i < n → B (st i) = some (.nx (st (i + 1)))) → lpO B (st 0) = lpO B (st n)
  | 0, _ => rfl
  | n + 1, h => by rw [seq_loop st n fun i hi => h i (by omega), lpO_nx (h n (by omega))]
theorem range_loop {B : Int → Option (LR Int α)} (n : Nat) (g : Nat → Option α) (h : ∀ i : Nat, i < n → B i = some (match g i with | some r => .fin r | none => .nx ((i : Int) + 1))) (hn : B n = some (.dn n)) :
    lpO B 0 = some (match (List.range n).findSome? g with | some r => .inr r | none => .inl (n : Int)) := by
  have all : ∀ k, k ≤ n → lpO B ((n - k : Nat) : Int) = some (match (List.range' (n - k) k).findSome? g with | some r => .inr r | none => .inl (n : Int)) := by
    intro k
    induction k with
    | zero => intro _; simpa using lpO_dn hn
    | succ k ih =>
      intro hk
      have hb := h (n - (k + 1)) (by omega)
      rw [List.range'_succ, List.findSome?_cons]
      cases hg : g (n - (k + 1)) with
      | some r => rw [hg] at hb; exact lpO_fin hb
      | none =>
        rw [hg] at hb
        rw [lpO_nx hb]
        have e : ((n - (k + 1) : Nat) : Int) + 1 = ((n - k : Nat) : Int) := by omega
        have e' : n - (k + 1) + 1 = n - k := by omega
        rw [e, e']
        exact ih (by omega)
  have := all n (Nat.le_refl _)
  rw [Nat.sub_self] at this
  rw [List.range_eq_range']
  exact this
def idxOf (p : β → Bool) (xs : List β) : Int := match xs.findIdx? p with | some i => (i : Int) | none => -1
theorem nat_loop {B : Int → Option (LR Int α)} (n : Nat) (h : ∀ i : Nat, i < n → B (i : Int) = some (.nx ((i : Int) + 1))) : lpO B 0 = lpO B (n : Int) :=
  seq_loop (fun i => (i : Int)) n fun i hi => by rw [h i hi]; rfl
theorem find_loop {B : Int → Option (LR Int Int)} (p : β → Bool) (xs : List β) (h : ∀ (i : Nat) (y : β), xs[i]? = some y → B (i : Int) = some (match p y with | true => .fin (i : Int) | false => .nx ((i : Int) + 1))) (hn : B (xs.length : Int) = some (.dn (xs.length : Int))) :
    lp B 0 (fun _ => some (-1 : Int)) = some (idxOf p xs) := by
  unfold lp idxOf
  cases hf : xs.findIdx? p with
  | none =>
    rw [nat_loop xs.length fun i hi => ?_, lpO_dn hn]; rfl
    rw [h i _ (List.getElem?_eq_getElem hi)]
    have := List.findIdx?_eq_none_iff.1 hf _ (List.getElem_mem hi)
    rw [this]
  | some k =>
    obtain ⟨hk, h1, h2⟩ := List.findIdx?_eq_some_iff_getElem.1 hf
    have hb := h k _ (List.getElem?_eq_getElem hk)
    rw [h1] at hb
    rw [nat_loop k fun i hi => ?_, lpO_fin hb]; rfl
    rw [h i _ (List.getElem?_eq_getElem (by omega))]
    have := h2 i hi
    simp only [Bool.not_eq_true] at this
    rw [this]
theorem any_loop {B : Int → Option (LR Int α)} (p : β → Bool) (xs : List β) (r e : α) (h : ∀ (i : Nat) (y : β), xs[i]? = some y → B (i : Int) = some (match p y with | true => .fin r | false => .nx ((i : Int) + 1))) (hn : B (xs.length : Int) = some (.dn (xs.length : Int))) :
    lp B 0 (fun _ => some e) = some (if xs.any p = true then r else e) := by
  unfold lp
  cases hf : xs.findIdx? p with
  | none =>
    have hall := List.findIdx?_eq_none_iff.1 hf
    have : xs.any p = false := by simp only [List.any_eq_false]; intro x hx; rw [hall x hx]; simp
    rw [nat_loop xs.length fun i hi => ?_, lpO_dn hn, this]; rfl
    rw [h i _ (List.getElem?_eq_getElem hi), hall _ (List.getElem_mem hi)]
  | some k =>
    obtain ⟨hk, h1, h2⟩ := List.findIdx?_eq_some_iff_getElem.1 hf
    have hb := h k _ (List.getElem?_eq_getElem hk)
    rw [h1] at hb
    have : xs.any p = true := List.any_eq_true.2 ⟨_, List.getElem_mem hk, h1⟩
    rw [nat_loop k fun i hi => ?_, lpO_fin hb, this]; rfl
    rw [h i _ (List.getElem?_eq_getElem (by omega))]
    have := h2 i hi
    simp only [Bool.not_eq_true] at this
    rw [this]
theorem idxOf_neg {p : β → Bool} {xs : List β} : idxOf p xs < 0 ↔ xs.any p = false := by
  unfold idxOf
  cases hf : xs.findIdx? p with
  | none =>
    have := List.findIdx?_eq_none_iff.1 hf
    simp only [List.any_eq_false]
    exact ⟨fun _ x hx => by rw [this x hx]; simp, fun _ => by omega⟩
  | some k =>
    obtain ⟨hk, h1, h2⟩ := List.findIdx?_eq_some_iff_getElem.1 hf
    simp only [List.any_eq_false]
    exact ⟨fun h => by omega, fun h => absurd h1 (h _ (List.getElem_mem hk))⟩
theorem findSome_map {γ : Type} (f : γ → Option α) (g : α → β) (l : List γ) : l.findSome? (fun a => (f a).map g) = (l.findSome? f).map g := by
  induction l with
  | nil => rfl
  | cons a l ih => rw [List.findSome?_cons, List.findSome?_cons]; cases f a with | none => simpa using ih | some y => rfl
theorem fold_take {γ : Type} (f : σ → γ → σ) (s : σ) (l : List γ) {i : Nat} {a : γ} (h : l[i]? = some a) : (l.take (i + 1)).foldl f s = f ((l.take i).foldl f s) a := by
  obtain ⟨hi, rfl⟩ := List.getElem?_eq_some_iff.1 h
  rw [List.take_succ_eq_append_getElem hi, List.foldl_append]; rfl
theorem lp_eq (B : σ → Option (LR σ α)) (x : σ) (k : σ → Option α) : lp B x k = jn (lpO B x) k := rfl
@[simp] theorem cond_dec {p : Prop} [Decidable p] (x y : σ) : cond (decide p) x y = if p then x else y := by by_cases h : p <;> simp [h]
end
end Ab
