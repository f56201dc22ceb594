/-
  Laws for loops and ways, for plain reasoning.
-/
import Derived.Test.YtkedlclobjhkfaaTB
namespace Ab
open Go
set_option linter.unusedVariables false

/-! ### plain laws -/
section
variable {α β σ : Type}
attribute [simp] bnd
@[simp] theorem inlO_s (x : σ) : inlO (α := α) (some x) = some (.inl x) := rfl
@[simp] theorem inlO_n : inlO (α := α) (none : Option σ) = none := rfl
@[simp] theorem inrO_s (x : α) : inrO (σ := σ) (some x) = some (.inr x) := rfl
@[simp] theorem inrO_n : inrO (σ := σ) (none : Option α) = none := rfl
@[simp] theorem nxO_s (x : σ) : nxO (α := α) (some x) = some (.nx x) := rfl
@[simp] theorem nxO_n : nxO (α := α) (none : Option σ) = none := rfl
@[simp] theorem dnO_s (x : σ) : dnO (α := α) (some x) = some (.dn x) := rfl
@[simp] theorem dnO_n : dnO (α := α) (none : Option σ) = none := rfl
@[simp] theorem finO_s (x : α) : finO (σ := σ) (some x) = some (.fin x) := rfl
@[simp] theorem finO_n : finO (σ := σ) (none : Option α) = none := rfl
@[simp] theorem jn_l (x : σ) (k : σ → Option α) : jn (some (.inl x)) k = k x := rfl
@[simp] theorem jn_r (x : α) (k : σ → Option α) : jn (some (.inr x)) k = some x := rfl
@[simp] theorem jn_n (k : σ → Option α) : jn none k = none := rfl
@[simp] theorem bno_s (x : σ) (k : σ → Option α) : bno (some x) k = k x := rfl
@[simp] theorem bno_n (k : σ → Option α) : bno none k = none := rfl
@[simp] theorem br_true (x y : Option α) : br true x y = x := rfl
@[simp] theorem br_false (x y : Option α) : br false x y = y := rfl
@[simp] theorem ck_true (x : Option α) : ck true x = x := rfl
theorem br_dec {p : Prop} [Decidable p] (x y : Option α) : br (decide p) x y = if p then x else y := by by_cases h : p <;> simp [h]
theorem br_eq (b : Bool) (x y : Option α) : br b x y = if b = true then x else y := by cases b <;> rfl
theorem ck_pos {p : Prop} [Decidable p] (h : p) (x : Option α) : ck (decide p) x = x := by simp [h]

theorem lpN_mono (B : σ → Option (LR σ α)) : ∀ (n : Nat) (x : σ) (r : Sum σ α), lpN B n x = some r → ∀ m, n ≤ m → lpN B m x = some r := by
  intro n
  induction n with
  | zero => intro x r h; simp [lpN] at h
  | succ n ih =>
    intro x r h m hm
    obtain ⟨m, rfl⟩ : ∃ k, m = k + 1 := ⟨m - 1, by omega⟩
    simp only [lpN] at h ⊢
    split at h
    · rename_i y hy
      exact ih y r h m (by omega)
    · exact h
    · exact h
    · cases h
theorem lpO_of {B : σ → Option (LR σ α)} {n : Nat} {x : σ} {r : Sum σ α} (h : lpN B n x = some r) : lpO B x = some r := by
  have hx : ∃ n, (lpN B n x).isSome = true := ⟨n, by rw [h]; rfl⟩
  unfold lpO
  rw [dif_pos hx]
  have hc := Classical.choose_spec hx
  obtain ⟨r', hr'⟩ := Option.isSome_iff_exists.1 hc
  have a := lpN_mono B _ _ _ h (max n (Classical.choose hx)) (by omega)
  have b := lpN_mono B _ _ _ hr' (max n (Classical.choose hx)) (by omega)
  rw [hr', ← b, a]
theorem lpO_get {B : σ → Option (LR σ α)} {x : σ} {r : Sum σ α} (h : lpO B x = some r) : ∃ n, lpN B n x = some r := by
  unfold lpO at h
  split at h
  · exact ⟨_, h⟩
  · cases h
/-- One round of a loop. -/
theorem lpO_eq (B : σ → Option (LR σ α)) (x : σ) : lpO B x = match B x with
    | some (.nx y) => lpO B y
    | some (.dn y) => some (.inl y)
    | some (.fin a) => some (.inr a)
    | none => none := by
  cases hb : B x with
  | none =>
    cases h : lpO B x with
    | none => rfl
    | some r =>
      obtain ⟨n, hn⟩ := lpO_get h
      cases n with
      | zero => simp [lpN] at hn
      | succ n => simp [lpN, hb] at hn
  | some z =>
    cases z with
    | dn y => exact lpO_of (n := 1) (by simp [lpN, hb])
    | fin a => exact lpO_of (n := 1) (by simp [lpN, hb])
    | nx y =>
      cases h : lpO B x with
      | none =>
        cases h' : lpO B y with
        | none => simp only [h']
        | some r =>
          obtain ⟨n, hn⟩ := lpO_get h'
          have : lpO B x = some r := lpO_of (n := n + 1) (by simp [lpN, hb, hn])
          rw [h] at this; cases this
      | some r =>
        obtain ⟨n, hn⟩ := lpO_get h
        cases n with
        | zero => simp [lpN] at hn
        | succ n =>
          simp [lpN, hb] at hn
          simp only [lpO_of hn]
theorem lpO_nx {B : σ → Option (LR σ α)} {x y : σ} (h : B x = some (.nx y)) : lpO B x = lpO B y := by rw [lpO_eq, h]
theorem lpO_dn {B : σ → Option (LR σ α)} {x y : σ} (h : B x = some (.dn y)) : lpO B x = some (.inl y) := by rw [lpO_eq, h]
theorem lpO_fin {B : σ → Option (LR σ α)} {x : σ} {a : α} (h : B x = some (.fin a)) : lpO B x = some (.inr a) := by rw [lpO_eq, h]
/-- By a measure. -/
theorem lpO_rule {B : σ → Option (LR σ α)} (I : σ → Prop) (μ : σ → Nat) (Q : Sum σ α → Prop)
    (step : ∀ x, I x → match B x with
      | some (.nx y) => I y ∧ μ y < μ x
      | some (.dn y) => Q (.inl y)
      | some (.fin a) => Q (.inr a)
      | none => False) : ∀ x, I x → ∃ r, lpO B x = some r ∧ Q r := by
  intro x
  induction h : μ x using Nat.strongRecOn generalizing x with
  | _ n ih =>
    intro hx
    have := step x hx
    rw [lpO_eq]
    split at this
    · rename_i y hy
      exact ih (μ y) (by omega) y rfl this.1
    · exact ⟨_, rfl, this⟩
    · exact ⟨_, rfl, this⟩
    · exact this.elim
/-- What a loop does from a state on, by what its rounds do: f tells. -/
theorem lpO_fun {B : σ → Option (LR σ α)} (I : σ → Prop) (μ : σ → Nat) (f : σ → Sum σ α)
    (step : ∀ x, I x → match B x with
      | some (.nx y) => I y ∧ μ y < μ x ∧ f x = f y
      | some (.dn y) => f x = .inl y
      | some (.fin a) => f x = .inr a
      | none => False) : ∀ x, I x → lpO B x = some (f x) := by
  intro x
  induction h : μ x using Nat.strongRecOn generalizing x with
  | _ n ih =>
    intro hx
    have := step x hx
    rw [lpO_eq]
    split at this
    · rename_i y hy
      rw [this.2.2]
      exact ih (μ y) (by omega) y rfl this.1
    · rw [this]
    · rw [this]
    · exact this.elim
@[simp] theorem br_inl (b : Bool) (x y : σ) : br b (some (Sum.inl x : Sum σ α)) (some (Sum.inl y)) = some (Sum.inl (cond b x y)) := by cases b <;> rfl
@[simp] theorem br_inr (b : Bool) (x y : α) : br b (some (Sum.inr x : Sum σ α)) (some (Sum.inr y)) = some (Sum.inr (cond b x y)) := by cases b <;> rfl
@[simp] theorem br_same (b : Bool) (x : Option α) : br b x x = x := by cases b <;> rfl
theorem jn_br (b : Bool) (x y : Option (Sum σ α)) (k : σ → Option α) : jn (br b x y) k = br b (jn x k) (jn y k) := by cases b <;> rfl
theorem bno_br (b : Bool) (x y : Option σ) (k : σ → Option α) : bno (br b x y) k = br b (bno x k) (bno y k) := by cases b <;> rfl
theorem br_not (b : Bool) (x y : Option α) : br (!b) x y = br b y x := by cases b <;> rfl
@[simp] theorem nil_isNil : Err.isNil .nil = true := rfl
@[simp] theorem no_isNil (n : Int) : Err.isNil (.no n) = false := rfl
@[simp] theorem oth_isNil (n : Nat) : Err.isNil (.oth n) = false := rfl
theorem lp_fuel {B : σ → Option (LR σ α)} {n : Nat} {x : σ} (h : (lpN B n x).isSome = true) (k : σ → Option α) : lp B x k = jn (lpN B n x) k := by
  obtain ⟨r, hr⟩ := Option.isSome_iff_exists.1 h
  unfold lp
  rw [lpO_of hr, hr]
theorem lookI_nat {xs : List β} (i : Nat) : lookI xs (i : Int) = xs[i]? := by simp [lookI]
theorem lookI_in {xs : List β} {i : Int} (h0 : 0 ≤ i) (h1 : i < xs.length) : lookI xs i = some (xs[i.toNat]'(by omega)) := by
  unfold lookI
  rw [if_pos h0, List.getElem?_eq_getElem]
theorem lookI_neg {xs : List β} {i : Int} (h0 : i < 0) : lookI xs i = none := by unfold lookI; rw [if_neg (by omega)]
theorem wiid {n : Int} (h1 : -9223372036854775808 ≤ n) (h2 : n ≤ 9223372036854775807) : wi n = n := by
  simp [wi, IntKind.wrap, IntKind.bits, IntKind.signed]
  omega
theorem lp_eq (B : σ → Option (LR σ α)) (x : σ) (k : σ → Option α) : lp B x k = jn (lpO B x) k := rfl
@[simp] theorem cond_dec {p : Prop} [Decidable p] (x y : σ) : cond (decide p) x y = if p then x else y := by by_cases h : p <;> simp [h]
end
end Ab
