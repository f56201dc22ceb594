/-
  slices.Insert and slices.Delete of entries, as functions that are handed rows.
-/
import Derived.Test.YtcabflannjeigaaB2
import Derived.Test.YtcabflannjeigaaMSw
namespace Ab
open Go Go.RowKit Go.Shelf
set_option linter.unusedVariables false
set_option linter.unusedSimpArgs false

/-- A row of elements of two cells, over what is known of a cell. -/
def Row2 (R : AV → Value → Prop) : List (List AV) → List Value → Prop
  | [], [] => True
  | [x, y] :: es, u :: v :: cs => R x u ∧ R y v ∧ u.oneCell' = true ∧ v.oneCell' = true ∧ Row2 R es cs
  | _, _ => False
theorem Row2.cons_inv {R : AV → Value → Prop} {e : List AV} {es : List (List AV)} {cs : List Value} (h : Row2 R (e :: es) cs) : ∃ x y u v cs', e = [x, y] ∧ cs = u :: v :: cs' ∧ R x u ∧ R y v ∧ u.oneCell' = true ∧ v.oneCell' = true ∧ Row2 R es cs' := by
  match e, cs, h with
  | [x, y], u :: v :: cs', h => exact ⟨x, y, u, v, cs', rfl, rfl, h⟩
theorem Row2.nil_inv {R : AV → Value → Prop} {cs : List Value} (h : Row2 R [] cs) : cs = [] := by
  cases cs with
  | nil => rfl
  | cons a l => simp [Row2] at h
theorem Row2.append {R : AV → Value → Prop} : ∀ {es : List (List AV)} {cs : List Value} {fs : List (List AV)} {ds : List Value}, Row2 R es cs → Row2 R fs ds → Row2 R (es ++ fs) (cs ++ ds)
  | [], cs, fs, ds, h, k => by rw [h.nil_inv]; exact k
  | e :: es, cs, fs, ds, h, k => by
    obtain ⟨x, y, u, v, cs', rfl, rfl, h1, h2, h3, h4, h5⟩ := h.cons_inv
    exact ⟨h1, h2, h3, h4, h5.append k⟩
theorem Row2.take {R : AV → Value → Prop} : ∀ {es : List (List AV)} {cs : List Value} (i : Nat), Row2 R es cs → Row2 R (es.take i) (cs.take (i * 2))
  | [], cs, i, h => by rw [h.nil_inv]; simp [Row2]
  | e :: es, cs, 0, h => by simp [Row2]
  | e :: es, cs, i + 1, h => by
    obtain ⟨x, y, u, v, cs', rfl, rfl, h1, h2, h3, h4, h5⟩ := h.cons_inv
    rw [show (i + 1) * 2 = i * 2 + 2 by omega]
    exact ⟨h1, h2, h3, h4, h5.take i⟩
theorem Row2.drop {R : AV → Value → Prop} : ∀ {es : List (List AV)} {cs : List Value} (i : Nat), Row2 R es cs → Row2 R (es.drop i) (cs.drop (i * 2))
  | [], cs, i, h => by rw [h.nil_inv]; simp [Row2]
  | e :: es, cs, 0, h => by simpa using h
  | e :: es, cs, i + 1, h => by
    obtain ⟨x, y, u, v, cs', rfl, rfl, h1, h2, h3, h4, h5⟩ := h.cons_inv
    rw [show (i + 1) * 2 = i * 2 + 2 by omega]
    exact h5.drop i
theorem Row2.length {R : AV → Value → Prop} : ∀ {es : List (List AV)} {cs : List Value}, Row2 R es cs → cs.length = es.length * 2
  | [], cs, h => by rw [h.nil_inv]; rfl
  | e :: es, cs, h => by
    obtain ⟨x, y, u, v, cs', rfl, rfl, h1, h2, h3, h4, h5⟩ := h.cons_inv
    have := h5.length
    simp only [List.length_cons]
    omega
theorem Row2.one {R : AV → Value → Prop} : ∀ {es : List (List AV)} {cs : List Value}, Row2 R es cs → ∀ u ∈ cs, u.oneCell' = true
  | [], cs, h, u, hu => by rw [h.nil_inv] at hu; cases hu
  | e :: es, cs, h, u', hu => by
    obtain ⟨x, y, u, v, cs', rfl, rfl, h1, h2, h3, h4, h5⟩ := h.cons_inv
    rcases List.mem_cons.1 hu with rfl | hu
    · exact h3
    · rcases List.mem_cons.1 hu with rfl | hu
      · exact h4
      · exact h5.one u' hu
theorem Row2.get {R : AV → Value → Prop} : ∀ {es : List (List AV)} {cs : List Value} (rest : List Value), Row2 R es cs → ∀ (i : Nat) (e : List AV) (c : Nat) (x : AV), es[i]? = some e → e[c]? = some x → R x ((cs ++ rest).getD (i * 2 + c) undef)
  | [], cs, rest, h, i, e, c, x, hi, hc => by cases hi
  | e0 :: es, cs, rest, h, i, e, c, x, hi, hc => by
    obtain ⟨x0, y0, u, v, cs', rfl, rfl, h1, h2, h3, h4, h5⟩ := h.cons_inv
    cases i with
    | zero =>
      cases hi
      match c, hc with
      | 0, hc => cases hc; exact h1
      | 1, hc => cases hc; exact h2
      | c + 2, hc => simp at hc
    | succ i =>
      have := h5.get rest i e c x (by simpa using hi) hc
      rw [show (i + 1) * 2 + c = (i * 2 + c) + 1 + 1 by omega]
      simpa using this
theorem Row2.of {R : AV → Value → Prop} : ∀ {es : List (List AV)} {cs : List Value}, es.length * 2 ≤ cs.length → (∀ e ∈ es, e.length = 2) → (∀ j, j < es.length * 2 → (cs.getD j undef).oneCell' = true) →
    (∀ (i : Nat) (e : List AV) (c : Nat) (x : AV), es[i]? = some e → e[c]? = some x → R x (cs.getD (i * 2 + c) undef)) → Row2 R es (cs.take (es.length * 2))
  | [], cs, h1, h2, h3, h4 => by simp [Row2]
  | e :: es, cs, h1, h2, h3, h4 => by
    simp only [List.length_cons] at h1
    match cs, h1 with
    | [], h1 => simp at h1
    | [u], h1 => simp at h1; omega
    | u :: v :: cs, h1 =>
      obtain ⟨x, y, rfl⟩ : ∃ x y, e = [x, y] := by
        have := h2 e List.mem_cons_self
        match e, this with
        | [x, y], _ => exact ⟨x, y, rfl⟩
      have k3 : ∀ j, j < es.length * 2 → (cs.getD j undef).oneCell' = true := fun j hj => by
        have := h3 (j + 1 + 1) (by simp only [List.length_cons]; omega)
        simpa using this
      have k4 : ∀ (i : Nat) (e : List AV) (c : Nat) (x : AV), es[i]? = some e → e[c]? = some x → R x (cs.getD (i * 2 + c) undef) := fun i e c z hi hc => by
        have := h4 (i + 1) e c z (by simpa using hi) hc
        rw [show (i + 1) * 2 + c = (i * 2 + c) + 1 + 1 by omega] at this
        simpa using this
      have := Row2.of (R := R) (es := es) (cs := cs) (by simp only [List.length_cons] at h1; omega) (fun e he => h2 e (List.mem_cons_of_mem _ he)) k3 k4
      rw [show ([x, y] :: es).length * 2 = es.length * 2 + 2 by simp only [List.length_cons]; omega]
      refine ⟨?_, ?_, ?_, ?_, this⟩
      · simpa using h4 0 [x, y] 0 x rfl rfl
      · simpa using h4 0 [x, y] 1 y rfl rfl
      · simpa using h3 0 (by simp)
      · simpa using h3 1 (by simp only [List.length_cons]; omega)

section
variable {S : Seat} {A : Nat → Prop} {w : World} {ι : Nat → Option Nat}

end

/-! ### the instances -/

end Ab
