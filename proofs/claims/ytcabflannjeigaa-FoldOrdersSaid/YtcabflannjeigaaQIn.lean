/-
  Plain laws: what is found, written and cleared in entries that are right.
-/
import Derived.Test.YtcabflannjeigaaMIn
import Derived.Test.YtcabflannjeigaaQI
import Derived.Test.YtcabflannjeigaaC4
namespace Ab
open Go
set_option linter.unusedVariables false
set_option linter.unusedSimpArgs false

/-! ### which list is ahead -/

theorem cmpL_self : ∀ a : List Int, cmpL a a = 0
  | [] => rfl
  | x :: a => by simp [cmpL, cmpL_self a]
theorem cmpL_swap : ∀ a b : List Int, cmpL b a = - cmpL a b
  | [], [] => rfl
  | [], _ :: _ => rfl
  | _ :: _, [] => rfl
  | x :: a, y :: b => by
    simp only [cmpL]
    by_cases h1 : x < y
    · have h2 : ¬ y < x := by omega
      simp [h1, h2]
    · by_cases h2 : y < x
      · simp [h1, h2]
      · simp [h1, h2, cmpL_swap a b]
theorem cmpL_eq : ∀ {a b : List Int}, cmpL a b = 0 → a = b
  | [], [], _ => rfl
  | [], _ :: _, h => by simp [cmpL] at h
  | _ :: _, [], h => by simp [cmpL] at h
  | x :: a, y :: b, h => by
    simp only [cmpL] at h
    by_cases h1 : x < y
    · simp [h1] at h
    · by_cases h2 : y < x
      · simp [h1, h2] at h
      · simp only [h1, h2, if_false] at h
        rw [cmpL_eq h, show x = y by omega]
theorem cmpL_trans : ∀ {a b c : List Int}, cmpL a b < 0 → cmpL b c < 0 → cmpL a c < 0
  | [], [], _, h, _ => by simp [cmpL] at h
  | [], _ :: _, [], _, k => by simp [cmpL] at k
  | [], _ :: _, _ :: _, _, _ => by simp [cmpL]
  | _ :: _, [], _, h, _ => by simp [cmpL] at h
  | _ :: _, _ :: _, [], _, k => by simp [cmpL] at k
  | x :: a, y :: b, z :: c, h, k => by
    simp only [cmpL] at h k ⊢
    by_cases h1 : x < y
    · by_cases k1 : y < z
      · have : x < z := by omega
        simp [this]
      · by_cases k2 : z < y
        · simp [k1, k2] at k
        · have : x < z := by omega
          simp [this]
    · by_cases h2 : y < x
      · simp [h1, h2] at h
      · simp only [h1, h2, if_false] at h
        have hxy : x = y := by omega
        subst hxy
        by_cases k1 : x < z
        · simp [k1]
        · by_cases k2 : z < x
          · simp [k1, k2] at k
          · simp only [k1, k2, if_false] at k ⊢
            exact cmpL_trans h k
theorem cmpL_neg {a b : List Int} (h : ¬ cmpL a b < 0) (h0 : ¬ cmpL a b = 0) : cmpL b a < 0 := by rw [cmpL_swap a b]; omega

/-- In order. -/
def Ris (l : List Entry) : Prop := l.Pairwise fun a b => cmpL a.at_ b.at_ < 0
theorem ris_of : ∀ {l : List Entry}, (∀ (i : Nat) (a b : Entry), l[i]? = some a → l[i + 1]? = some b → cmpL a.at_ b.at_ < 0) → Ris l
  | [], _ => .nil
  | [a], _ => .cons (by simp) .nil
  | a :: b :: l, h => by
    have ih : Ris (b :: l) := ris_of fun i x y hx hy => h (i + 1) x y hx hy
    have hab := h 0 a b rfl rfl
    refine .cons (fun x hx => ?_) ih
    rcases List.mem_cons.1 hx with rfl | hx
    · exact hab
    · exact cmpL_trans hab (List.rel_of_pairwise_cons ih hx)
theorem Ris.rise {l : List Entry} (h : Ris l) (i : Nat) (a b : Entry) (ha : l[i]? = some a) (hb : l[i + 1]? = some b) : cmpL a.at_ b.at_ < 0 := by
  obtain ⟨h1, rfl⟩ := List.getElem?_eq_some_iff.1 ha
  obtain ⟨h2, rfl⟩ := List.getElem?_eq_some_iff.1 hb
  exact List.pairwise_iff_getElem.1 h i (i + 1) h1 h2 (by omega)
theorem EntsOk.ris {o : List Dim} {l : List Entry} (h : EntsOk o l) : Ris l := ris_of h.rise

/-! ### entries by their places -/

def putL : List Entry → List Int → Int → List Entry
  | [], p, n => [⟨p, n⟩]
  | e :: l, p, n => if cmpL e.at_ p < 0 then e :: putL l p n else if cmpL e.at_ p = 0 then ⟨p, n⟩ :: l else ⟨p, n⟩ :: e :: l
theorem put_mem : ∀ {l : List Entry} {p : List Int} {n : Int} {e : Entry}, e ∈ putL l p n → e = ⟨p, n⟩ ∨ e ∈ l
  | [], p, n, e, h => .inl (by simpa [putL] using h)
  | a :: l, p, n, e, h => by
    simp only [putL] at h
    split at h
    · rcases List.mem_cons.1 h with h | h
      · exact .inr (h ▸ List.mem_cons_self)
      · exact (put_mem h).imp id (List.mem_cons_of_mem _)
    · split at h
      · exact (List.mem_cons.1 h).imp id (List.mem_cons_of_mem _)
      · exact List.mem_cons.1 h
theorem put_ris : ∀ {l : List Entry} (p : List Int) (n : Int), Ris l → Ris (putL l p n)
  | [], p, n, _ => .cons (by simp) .nil
  | a :: l, p, n, h => by
    have h' := List.pairwise_cons.1 h
    simp only [putL]
    by_cases c : cmpL a.at_ p < 0
    · rw [if_pos c]
      refine .cons (fun x hx => ?_) (put_ris p n h'.2)
      rcases put_mem hx with rfl | hx
      · exact c
      · exact h'.1 x hx
    · rw [if_neg c]
      by_cases c0 : cmpL a.at_ p = 0
      · rw [if_pos c0]
        have := cmpL_eq c0
        subst this
        exact .cons h'.1 h'.2
      · rw [if_neg c0]
        have hpa := cmpL_neg c c0
        refine .cons (fun x hx => ?_) h
        rcases List.mem_cons.1 hx with rfl | hx
        · exact hpa
        · exact cmpL_trans hpa (h'.1 x hx)
theorem EntsOk.put {o : List Dim} {l : List Entry} {p : List Int} {n : Int} (h : EntsOk o l) (hf : Fit o p) (hl : leafP o p = true) (hv : valOk n = true) : EntsOk o (putL l p n) := by
  refine ⟨h.out, fun e he => ?_, fun e he => ?_, fun e he => ?_, (put_ris p n h.ris).rise⟩
  · rcases put_mem he with rfl | he
    · exact hf
    · exact h.fit e he
  · rcases put_mem he with rfl | he
    · exact hl
    · exact h.leaf e he
  · rcases put_mem he with rfl | he
    · exact hv
    · exact h.val e he
/-! ### how many there are -/

theorem nodup_lt : ∀ (n : Nat) (l : List Nat), l.Nodup → (∀ x ∈ l, x < n) → l.length ≤ n := by
  have sub : ∀ (l r : List Nat), l.Nodup → (∀ x ∈ l, x ∈ r) → l.length ≤ r.length := by
    intro l
    induction l with
    | nil => intro r _ _; exact Nat.zero_le _
    | cons a l ih =>
      intro r hn h
      have ha := h a List.mem_cons_self
      obtain ⟨h1, h2⟩ := List.nodup_cons.1 hn
      have := ih (r.erase a) h2 fun x hx => (List.mem_erase_of_ne (show x ≠ a from fun e => by subst e; exact h1 hx)).2 (h x (List.mem_cons_of_mem _ hx))
      rw [List.length_erase_of_mem ha] at this
      have hr : 0 < r.length := List.length_pos_of_mem ha
      simp only [List.length_cons]
      omega
  intro n l hn h
  have := sub l (List.range n) hn fun x hx => List.mem_range.2 (h x hx)
  simpa using this
theorem OutOk.pos {o : List Dim} (ok : OutOk o) : ∀ d ∈ o, 0 < d.members.length := fun d hd => by have := (ok.dims d hd).len; omega
theorem EntsOk.len {o : List Dim} {l : List Entry} (h : EntsOk o l) : l.length ≤ 20736 := by
  have hz := h.out.sizeN.2
  have hnd : (l.map fun e => numN o e.at_).Nodup := by
    have : l.Pairwise fun a b => numN o a.at_ ≠ numN o b.at_ := by
      refine List.Pairwise.imp_of_mem (fun {a b} ha hb hab he => ?_) h.ris
      have e1 := num_digs h.out.pos (h.fit a ha)
      have e2 := num_digs h.out.pos (h.fit b hb)
      rw [he, e2] at e1
      have : b.at_ = a.at_ := (Prod.mk.inj e1).1
      rw [this, cmpL_self] at hab
      omega
    exact List.pairwise_map.2 this
  have := nodup_lt (sizeN o) _ hnd fun x hx => by
    obtain ⟨e, he, rfl⟩ := List.mem_map.1 hx
    exact num_lt (h.fit e he)
  rw [List.length_map] at this
  omega
theorem EntsOk.gd {o : List Dim} {l : List Entry} (h : EntsOk o l) (hd : ∀ d ∈ o, d.members.length ≤ 1000) : Lst Entry.gd l := by
  have hl := h.len
  refine ⟨by omega, fun e he => ?_⟩
  have hf := h.fit e he
  have hol := h.out.len
  have hv := h.val e he
  refine ⟨⟨by have := hf.len; omega, fun x hx => ?_⟩, ?_⟩
  · have hg : ∀ {o : List Dim} {p : List Int}, Fit o p → (∀ d ∈ o, d.members.length ≤ 1000) → ∀ x ∈ p, 0 ≤ x ∧ x < 1000 := by
      intro o
      induction o with
      | nil =>
        intro p hf _ x hx
        have := hf.len
        rw [List.eq_nil_of_length_eq_zero this] at hx
        cases hx
      | cons d o ih =>
        intro p hf hd x hx
        cases p with
        | nil => cases hx
        | cons m p =>
          obtain ⟨h1, h2⟩ := hf.tail
          have hdm := hd d List.mem_cons_self
          rcases List.mem_cons.1 hx with rfl | hx
          · omega
          · exact ih h2 (fun d hd' => hd d (List.mem_cons_of_mem _ hd')) x hx
    have := hg hf hd x hx
    constructor <;> omega
  · simp only [valOk, Bool.and_eq_true, decide_eq_true_eq] at hv
    constructor <;> omega
/-! ### what the functions come to -/

end Ab
