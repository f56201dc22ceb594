/-
  Plain laws: what is found, written and cleared in entries that are right.
-/
import Derived.Test.YthjpciiacibnhaaMIn
import Derived.Test.YthjpciiacibnhaaQI
import Derived.Test.YthjpciiacibnhaaQN
namespace Ab
open Go
set_option linter.unusedVariables false
set_option linter.unusedSimpArgs false

/-! ### which list is ahead -/

theorem cmpL_self : ∀ a : List Int, cmpL a a = 0
  | [] => rfl
  | x :: a => by simp [cmpL, cmpL_self a]
theorem cmpL_swap : ∀ a b : List Int, cmpL b a = - cmpL a b
  | [], [] => rfl
  | [], _ :: _ => rfl
  | _ :: _, [] => rfl
  | x :: a, y :: b => by
    simp only [cmpL]
    by_cases h1 : x < y
    · have h2 : ¬ y < x := by omega
      simp [h1, h2]
    · by_cases h2 : y < x
      · simp [h1, h2]
      · simp [h1, h2, cmpL_swap a b]
theorem cmpL_eq : ∀ {a b : List Int}, cmpL a b = 0 → a = b
  | [], [], _ => rfl
  | [], _ :: _, h => by simp [cmpL] at h
  | _ :: _, [], h => by simp [cmpL] at h
  | x :: a, y :: b, h => by
    simp only [cmpL] at h
    by_cases h1 : x < y
    · simp [h1] at h
    · by_cases h2 : y < x
      · simp [h1, h2] at h
      · simp only [h1, h2, if_false] at h
        rw [cmpL_eq h, show x = y by omega]
theorem cmpL_trans : ∀ {a b c : List Int}, cmpL a b < 0 → cmpL b c < 0 → cmpL a c < 0
  | [], [], _, h, _ => by simp [cmpL] at h
  | [], _ :: _, [], _, k => by simp [cmpL] at k
  | [], _ :: _, _ :: _, _, _ => by simp [cmpL]
  | _ :: _, [], _, h, _ => by simp [cmpL] at h
  | _ :: _, _ :: _, [], _, k => by simp [cmpL] at k
  | x :: a, y :: b, z :: c, h, k => by
    simp only [cmpL] at h k ⊢
    by_cases h1 : x < y
    · by_cases k1 : y < z
      · have : x < z := by omega
        simp [this]
      · by_cases k2 : z < y
        · simp [k1, k2] at k
        · have : x < z := by omega
          simp [this]
    · by_cases h2 : y < x
      · simp [h1, h2] at h
      · simp only [h1, h2, if_false] at h
        have hxy : x = y := by omega
        subst hxy
        by_cases k1 : x < z
        · simp [k1]
        · by_cases k2 : z < x
          · simp [k1, k2] at k
          · simp only [k1, k2, if_false] at k ⊢
            exact cmpL_trans h k
theorem cmpL_pos {a b : List Int} : 0 < cmpL a b ↔ cmpL b a < 0 := by rw [cmpL_swap a b]; omega
theorem cmpL_neg {a b : List Int} (h : ¬ cmpL a b < 0) (h0 : ¬ cmpL a b = 0) : cmpL b a < 0 := by rw [cmpL_swap a b]; omega

/-- In order. -/
def Ris (l : List Entry) : Prop := l.Pairwise fun a b => cmpL a.at_ b.at_ < 0
theorem ris_of : ∀ {l : List Entry}, (∀ (i : Nat) (a b : Entry), l[i]? = some a → l[i + 1]? = some b → cmpL a.at_ b.at_ < 0) → Ris l
  | [], _ => .nil
  | [a], _ => .cons (by simp) .nil
  | a :: b :: l, h => by
    have ih : Ris (b :: l) := ris_of fun i x y hx hy => h (i + 1) x y hx hy
    have hab := h 0 a b rfl rfl
    refine .cons (fun x hx => ?_) ih
    rcases List.mem_cons.1 hx with rfl | hx
    · exact hab
    · exact cmpL_trans hab (List.rel_of_pairwise_cons ih hx)
theorem Ris.rise {l : List Entry} (h : Ris l) (i : Nat) (a b : Entry) (ha : l[i]? = some a) (hb : l[i + 1]? = some b) : cmpL a.at_ b.at_ < 0 := by
  obtain ⟨h1, rfl⟩ := List.getElem?_eq_some_iff.1 ha
  obtain ⟨h2, rfl⟩ := List.getElem?_eq_some_iff.1 hb
  exact List.pairwise_iff_getElem.1 h i (i + 1) h1 h2 (by omega)
theorem EntsOk.ris {o : List Dim} {l : List Entry} (h : EntsOk o l) : Ris l := ris_of h.rise

/-! ### entries by their places -/

def locL : List Entry → List Int → Nat
  | [], _ => 0
  | e :: l, p => if cmpL e.at_ p < 0 then locL l p + 1 else 0
def hasL : List Entry → List Int → Bool
  | [], _ => false
  | e :: l, p => if cmpL e.at_ p < 0 then hasL l p else decide (cmpL e.at_ p = 0)
def getL : List Entry → List Int → Option Int
  | [], _ => none
  | e :: l, p => if cmpL e.at_ p < 0 then getL l p else if cmpL e.at_ p = 0 then some e.n else none
def putL : List Entry → List Int → Int → List Entry
  | [], p, n => [⟨p, n⟩]
  | e :: l, p, n => if cmpL e.at_ p < 0 then e :: putL l p n else if cmpL e.at_ p = 0 then ⟨p, n⟩ :: l else ⟨p, n⟩ :: e :: l
def eraL : List Entry → List Int → List Entry
  | [], _ => []
  | e :: l, p => if cmpL e.at_ p < 0 then e :: eraL l p else if cmpL e.at_ p = 0 then l else e :: l

theorem loc_le : ∀ (l : List Entry) (p : List Int), locL l p ≤ l.length
  | [], _ => Nat.le_refl _
  | e :: l, p => by
    have := loc_le l p
    simp only [locL, List.length_cons]
    split <;> omega
theorem loc_lt : ∀ {l : List Entry} (p : List Int), Ris l → ∀ (i : Nat) (e : Entry), l[i]? = some e → (cmpL e.at_ p < 0 ↔ i < locL l p)
  | [], p, _, i, e, h => by cases h
  | a :: l, p, hr, i, e, h => by
    have hr' := List.pairwise_cons.1 hr
    simp only [locL]
    cases i with
    | zero =>
      cases h
      by_cases c : cmpL a.at_ p < 0 <;> simp [c]
    | succ i =>
      have ih := loc_lt p hr'.2 i e (by simpa using h)
      by_cases c : cmpL a.at_ p < 0
      · simp [c, ih]
      · have hae := hr'.1 e (List.mem_of_getElem? (by simpa using h))
        have : ¬ cmpL e.at_ p < 0 := fun h2 => c (cmpL_trans hae h2)
        simp [c, this]
theorem has_loc : ∀ (l : List Entry) (p : List Int), hasL l p = (match l[locL l p]? with | some e => decide (cmpL e.at_ p = 0) | none => false)
  | [], p => rfl
  | e :: l, p => by
    simp only [hasL, locL]
    by_cases c : cmpL e.at_ p < 0
    · simp only [c, if_true, List.getElem?_cons_succ]; exact has_loc l p
    · simp [c]
theorem get_has : ∀ (l : List Entry) (p : List Int), getL l p = if hasL l p = true then (l[locL l p]?).map (·.n) else none
  | [], p => rfl
  | e :: l, p => by
    simp only [getL, hasL, locL]
    by_cases c : cmpL e.at_ p < 0
    · simp only [c, if_true, List.getElem?_cons_succ]; exact get_has l p
    · by_cases c0 : cmpL e.at_ p = 0 <;> simp [c, c0]
theorem has_get (l : List Entry) (p : List Int) : hasL l p = (getL l p).isSome := by
  rw [get_has]
  cases h : hasL l p with
  | false => rfl
  | true =>
    rw [has_loc] at h
    split at h
    · rename_i e he; simp [he]
    · cases h
theorem put_at : ∀ (l : List Entry) (p : List Int) (n : Int), putL l p n = l.take (locL l p) ++ ⟨p, n⟩ :: l.drop (if hasL l p = true then locL l p + 1 else locL l p)
  | [], p, n => rfl
  | e :: l, p, n => by
    simp only [putL, locL, hasL]
    by_cases c : cmpL e.at_ p < 0
    · simp only [c, if_true, List.take_succ_cons, List.cons_append]
      rw [put_at l p n]
      split <;> simp
    · by_cases c0 : cmpL e.at_ p = 0 <;> simp [c, c0]
theorem era_at : ∀ (l : List Entry) (p : List Int), hasL l p = true → eraL l p = l.take (locL l p) ++ l.drop (locL l p + 1)
  | [], p, h => by cases h
  | e :: l, p, h => by
    simp only [eraL, locL, hasL] at h ⊢
    by_cases c : cmpL e.at_ p < 0
    · simp only [c, if_true] at h ⊢
      rw [era_at l p h]
      simp
    · simp only [c, if_false, decide_eq_true_eq] at h
      simp [c, h]
theorem put_mem : ∀ {l : List Entry} {p : List Int} {n : Int} {e : Entry}, e ∈ putL l p n → e = ⟨p, n⟩ ∨ e ∈ l
  | [], p, n, e, h => .inl (by simpa [putL] using h)
  | a :: l, p, n, e, h => by
    simp only [putL] at h
    split at h
    · rcases List.mem_cons.1 h with h | h
      · exact .inr (h ▸ List.mem_cons_self)
      · exact (put_mem h).imp id (List.mem_cons_of_mem _)
    · split at h
      · exact (List.mem_cons.1 h).imp id (List.mem_cons_of_mem _)
      · exact List.mem_cons.1 h
theorem era_mem : ∀ {l : List Entry} {p : List Int} {e : Entry}, e ∈ eraL l p → e ∈ l
  | [], p, e, h => h
  | a :: l, p, e, h => by
    simp only [eraL] at h
    split at h
    · rcases List.mem_cons.1 h with h | h
      · exact h ▸ List.mem_cons_self
      · exact List.mem_cons_of_mem _ (era_mem h)
    · split at h
      · exact List.mem_cons_of_mem _ h
      · exact h
theorem put_ris : ∀ {l : List Entry} (p : List Int) (n : Int), Ris l → Ris (putL l p n)
  | [], p, n, _ => .cons (by simp) .nil
  | a :: l, p, n, h => by
    have h' := List.pairwise_cons.1 h
    simp only [putL]
    by_cases c : cmpL a.at_ p < 0
    · rw [if_pos c]
      refine .cons (fun x hx => ?_) (put_ris p n h'.2)
      rcases put_mem hx with rfl | hx
      · exact c
      · exact h'.1 x hx
    · rw [if_neg c]
      by_cases c0 : cmpL a.at_ p = 0
      · rw [if_pos c0]
        have := cmpL_eq c0
        subst this
        exact .cons h'.1 h'.2
      · rw [if_neg c0]
        have hpa := cmpL_neg c c0
        refine .cons (fun x hx => ?_) h
        rcases List.mem_cons.1 hx with rfl | hx
        · exact hpa
        · exact cmpL_trans hpa (h'.1 x hx)
theorem era_ris : ∀ {l : List Entry} (p : List Int), Ris l → Ris (eraL l p)
  | [], p, _ => .nil
  | a :: l, p, h => by
    have h' := List.pairwise_cons.1 h
    simp only [eraL]
    split
    · exact .cons (fun x hx => h'.1 x (era_mem hx)) (era_ris p h'.2)
    · split
      · exact h'.2
      · exact h
theorem get_put_self : ∀ (l : List Entry) (p : List Int) (n : Int), getL (putL l p n) p = some n
  | [], p, n => by simp [putL, getL, cmpL_self]
  | a :: l, p, n => by
    simp only [putL]
    by_cases c : cmpL a.at_ p < 0
    · rw [if_pos c]; simp only [getL, if_pos c]; exact get_put_self l p n
    · rw [if_neg c]
      by_cases c0 : cmpL a.at_ p = 0
      · rw [if_pos c0]; simp [getL, cmpL_self]
      · rw [if_neg c0]; simp [getL, cmpL_self]
theorem get_put_other : ∀ (l : List Entry) {p q : List Int} (n : Int), p ≠ q → getL (putL l p n) q = getL l q
  | [], p, q, n, h => by
    have h0 : ¬ cmpL p q = 0 := fun e => h (cmpL_eq e)
    simp [putL, getL, h0]
  | a :: l, p, q, n, h => by
    have h0 : ¬ cmpL p q = 0 := fun e => h (cmpL_eq e)
    simp only [putL]
    by_cases c : cmpL a.at_ p < 0
    · rw [if_pos c]; simp only [getL]; rw [get_put_other l n h]
    · rw [if_neg c]
      by_cases c0 : cmpL a.at_ p = 0
      · rw [if_pos c0]
        have := cmpL_eq c0
        subst this
        simp [getL, h0]
      · rw [if_neg c0]
        have hpa := cmpL_neg c c0
        simp only [getL]
        by_cases k : cmpL p q < 0
        · rw [if_pos k]
        · have hqp := cmpL_neg k h0
          have hqa := cmpL_trans hqp hpa
          have e1 : ¬ cmpL a.at_ q < 0 := by rw [cmpL_swap q a.at_]; omega
          have e2 : ¬ cmpL a.at_ q = 0 := by rw [cmpL_swap q a.at_]; omega
          simp [k, h0, e1, e2]
theorem get_era : ∀ {l : List Entry} (p : List Int), Ris l → getL (eraL l p) p = none
  | [], p, _ => rfl
  | a :: l, p, h => by
    have h' := List.pairwise_cons.1 h
    simp only [eraL]
    by_cases c : cmpL a.at_ p < 0
    · rw [if_pos c]; simp only [getL, if_pos c]; exact get_era p h'.2
    · rw [if_neg c]
      by_cases c0 : cmpL a.at_ p = 0
      · rw [if_pos c0]
        have := cmpL_eq c0
        subst this
        cases l with
        | nil => rfl
        | cons b l =>
          have hab := h'.1 b List.mem_cons_self
          have e1 : ¬ cmpL b.at_ a.at_ < 0 := by rw [cmpL_swap a.at_ b.at_]; omega
          have e2 : ¬ cmpL b.at_ a.at_ = 0 := by rw [cmpL_swap a.at_ b.at_]; omega
          simp [getL, e1, e2]
      · rw [if_neg c0]; simp [getL, c, c0]
theorem get_era_other : ∀ {l : List Entry} {p q : List Int}, Ris l → p ≠ q → getL (eraL l p) q = getL l q
  | [], p, q, _, h => rfl
  | a :: l, p, q, hr, h => by
    have h' := List.pairwise_cons.1 hr
    have h0 : ¬ cmpL p q = 0 := fun e => h (cmpL_eq e)
    simp only [eraL]
    by_cases c : cmpL a.at_ p < 0
    · rw [if_pos c]; simp only [getL]; rw [get_era_other h'.2 h]
    · rw [if_neg c]
      by_cases c0 : cmpL a.at_ p = 0
      · rw [if_pos c0]
        have := cmpL_eq c0
        subst this
        simp only [getL]
        by_cases k : cmpL a.at_ q < 0
        · rw [if_pos k]
        · rw [if_neg k, if_neg h0]
          have hqa := cmpL_neg k h0
          cases l with
          | nil => rfl
          | cons b l =>
            have hqb := cmpL_trans hqa (h'.1 b List.mem_cons_self)
            have e1 : ¬ cmpL b.at_ q < 0 := by rw [cmpL_swap q b.at_]; omega
            have e2 : ¬ cmpL b.at_ q = 0 := by rw [cmpL_swap q b.at_]; omega
            simp [getL, e1, e2]
      · rw [if_neg c0]
theorem era_len : ∀ {l : List Entry} {p : List Int}, hasL l p = true → (eraL l p).length + 1 = l.length
  | [], p, h => by cases h
  | a :: l, p, h => by
    simp only [eraL, hasL] at h ⊢
    by_cases c : cmpL a.at_ p < 0
    · simp only [c, if_true, List.length_cons] at h ⊢
      rw [era_len h]
    · simp only [c, if_false, decide_eq_true_eq] at h
      simp [c, h]
theorem put_len (l : List Entry) (p : List Int) (n : Int) : (putL l p n).length ≤ l.length + 1 ∧ l.length ≤ (putL l p n).length := by
  have hp := loc_le l p
  rw [put_at]
  cases h : hasL l p with
  | false => simp; omega
  | true =>
    have : locL l p < l.length := by
      rw [has_loc] at h
      split at h
      · rename_i e he; exact (List.getElem?_eq_some_iff.1 he).1
      · cases h
    simp; omega

theorem EntsOk.put {o : List Dim} {l : List Entry} {p : List Int} {n : Int} (h : EntsOk o l) (hf : Fit o p) (hl : leafP o p = true) (hv : valOk n = true) : EntsOk o (putL l p n) := by
  refine ⟨h.out, fun e he => ?_, fun e he => ?_, fun e he => ?_, (put_ris p n h.ris).rise⟩
  · rcases put_mem he with rfl | he
    · exact hf
    · exact h.fit e he
  · rcases put_mem he with rfl | he
    · exact hl
    · exact h.leaf e he
  · rcases put_mem he with rfl | he
    · exact hv
    · exact h.val e he
theorem EntsOk.era {o : List Dim} {l : List Entry} {p : List Int} (h : EntsOk o l) : EntsOk o (eraL l p) :=
  ⟨h.out, fun e he => h.fit e (era_mem he), fun e he => h.leaf e (era_mem he), fun e he => h.val e (era_mem he), (era_ris p h.ris).rise⟩

/-! ### how many there are -/

theorem nodup_lt : ∀ (n : Nat) (l : List Nat), l.Nodup → (∀ x ∈ l, x < n) → l.length ≤ n := by
  have sub : ∀ (l r : List Nat), l.Nodup → (∀ x ∈ l, x ∈ r) → l.length ≤ r.length := by
    intro l
    induction l with
    | nil => intro r _ _; exact Nat.zero_le _
    | cons a l ih =>
      intro r hn h
      have ha := h a List.mem_cons_self
      obtain ⟨h1, h2⟩ := List.nodup_cons.1 hn
      have := ih (r.erase a) h2 fun x hx => (List.mem_erase_of_ne (show x ≠ a from fun e => by subst e; exact h1 hx)).2 (h x (List.mem_cons_of_mem _ hx))
      rw [List.length_erase_of_mem ha] at this
      have hr : 0 < r.length := List.length_pos_of_mem ha
      simp only [List.length_cons]
      omega
  intro n l hn h
  have := sub l (List.range n) hn fun x hx => List.mem_range.2 (h x hx)
  simpa using this
theorem OutOk.pos {o : List Dim} (ok : OutOk o) : ∀ d ∈ o, 0 < d.members.length := fun d hd => by have := (ok.dims d hd).len; omega
theorem EntsOk.len {o : List Dim} {l : List Entry} (h : EntsOk o l) : l.length ≤ 20736 := by
  have hz := h.out.sizeN.2
  have hnd : (l.map fun e => numN o e.at_).Nodup := by
    have : l.Pairwise fun a b => numN o a.at_ ≠ numN o b.at_ := by
      refine List.Pairwise.imp_of_mem (fun {a b} ha hb hab he => ?_) h.ris
      have e1 := num_digs h.out.pos (h.fit a ha)
      have e2 := num_digs h.out.pos (h.fit b hb)
      rw [he, e2] at e1
      have : b.at_ = a.at_ := (Prod.mk.inj e1).1
      rw [this, cmpL_self] at hab
      omega
    exact List.pairwise_map.2 this
  have := nodup_lt (sizeN o) _ hnd fun x hx => by
    obtain ⟨e, he, rfl⟩ := List.mem_map.1 hx
    exact num_lt (h.fit e he)
  rw [List.length_map] at this
  omega
theorem EntsOk.gd {o : List Dim} {l : List Entry} (h : EntsOk o l) (hd : ∀ d ∈ o, d.members.length ≤ 1000) : Lst Entry.gd l := by
  have hl := h.len
  refine ⟨by omega, fun e he => ?_⟩
  have hf := h.fit e he
  have hol := h.out.len
  have hv := h.val e he
  refine ⟨⟨by have := hf.len; omega, fun x hx => ?_⟩, ?_⟩
  · have hg : ∀ {o : List Dim} {p : List Int}, Fit o p → (∀ d ∈ o, d.members.length ≤ 1000) → ∀ x ∈ p, 0 ≤ x ∧ x < 1000 := by
      intro o
      induction o with
      | nil =>
        intro p hf _ x hx
        have := hf.len
        rw [List.eq_nil_of_length_eq_zero this] at hx
        cases hx
      | cons d o ih =>
        intro p hf hd x hx
        cases p with
        | nil => cases hx
        | cons m p =>
          obtain ⟨h1, h2⟩ := hf.tail
          have hdm := hd d List.mem_cons_self
          rcases List.mem_cons.1 hx with rfl | hx
          · omega
          · exact ih h2 (fun d hd' => hd d (List.mem_cons_of_mem _ hd')) x hx
    have := hg hf hd x hx
    constructor <;> omega
  · simp only [valOk, Bool.and_eq_true, decide_eq_true_eq] at hv
    constructor <;> omega
theorem OutOk.dm {o : List Dim} (ok : OutOk o) : ∀ d ∈ o, d.members.length ≤ 1000 := fun d hd => by have := (ok.dims d hd).len; omega

/-! ### what the functions come to -/

theorem half_eq {x : Nat} (h : x < 18446744073709551616) : wi (IntKind.wrap .u64 (wi ((x : Nat) : Int)) / 2) = ((x / 2 : Nat) : Int) := by
  have e : IntKind.wrap .u64 (wi ((x : Nat) : Int)) = (x : Int) := by
    simp [wi, IntKind.wrap, IntKind.bits, IntKind.signed]
    omega
  rw [e, wiid (by omega) (by omega)]
  omega
theorem P80_eq {l : List Entry} {p : List Int} (hr : Ris l) (hl : Lst Entry.gd l) (hp : p.length ≤ 9223372036854775807) : P80_61 l ⟨p, 0⟩ = some ((locL l p : Int), hasL l p) := by
  have hlen := hl.1
  have loop : ∀ (n i j : Nat), j - i = n → i ≤ locL l p → locL l p ≤ j → j ≤ l.length → lpO (S80_61_L1 P61 l ⟨p, 0⟩) ((i : Int), (j : Int)) = some (.inl ((locL l p : Int), (locL l p : Int))) := by
    intro n
    induction n using Nat.strongRecOn with
    | _ n ih =>
      intro i j hn h1 h2 h3
      by_cases hij : i < j
      · have e1 : (i : Int) < (j : Int) := by omega
        have hm : (i + j) / 2 < l.length := by omega
        have ee := List.getElem?_eq_getElem hm
        have hg := hl.2 _ (List.getElem_mem hm)
        have hc := loc_lt p hr _ _ ee
        have hh : wi (IntKind.wrap .u64 (wi ((i : Int) + (j : Int))) / 2) = (((i + j) / 2 : Nat) : Int) := by
          have := half_eq (x := i + j) (by omega)
          rwa [Int.natCast_add] at this
        by_cases c : cmpL l[(i + j) / 2].at_ p < 0
        · have hB : S80_61_L1 P61 l ⟨p, 0⟩ ((i : Int), (j : Int)) = some (.nx ((((i + j) / 2 + 1 : Nat) : Int), (j : Int))) := by
            simp only [S80_61_L1, e1, decide_true, br_true, hh, lookI_nat, ee, bno_s, P61_eq _ _ hg.1.1, c, inlO_s, jn_l, nxO_s]
            rw [wiid (by omega) (by omega)]
            rfl
          rw [lpO_nx hB]
          have := hc.1 c
          exact ih (j - ((i + j) / 2 + 1)) (by omega) _ _ rfl (by omega) h2 h3
        · have hB : S80_61_L1 P61 l ⟨p, 0⟩ ((i : Int), (j : Int)) = some (.nx ((i : Int), (((i + j) / 2 : Nat) : Int))) := by
            simp only [S80_61_L1, e1, decide_true, br_true, hh, lookI_nat, ee, bno_s, P61_eq _ _ hg.1.1, c, decide_false, br_false, inlO_s, jn_l, nxO_s]
          rw [lpO_nx hB]
          have : ¬ (i + j) / 2 < locL l p := fun h => c (hc.2 h)
          exact ih ((i + j) / 2 - i) (by omega) _ _ rfl h1 (by omega) (by omega)
      · have hi : i = locL l p := by omega
        have hj : j = locL l p := by omega
        rw [lpO_dn (y := ((i : Int), (j : Int)))]
        · rw [hi, hj]
        · have e1 : ¬ (i : Int) < (j : Int) := by omega
          simp [S80_61_L1, e1]
  have hL := loop l.length 0 l.length (by omega) (Nat.zero_le _) (loc_le l p) (Nat.le_refl _)
  simp only [P80_61, S80_61, lp_eq]
  rw [show ((0 : Int), ((l.length : Nat) : Int)) = (((0 : Nat) : Int), ((l.length : Nat) : Int)) from rfl, hL]
  simp only [jn_l]
  rw [has_loc]
  by_cases c : locL l p < l.length
  · have e1 : ((locL l p : Nat) : Int) < ((l.length : Nat) : Int) := by omega
    have ee := List.getElem?_eq_getElem c
    have hg := hl.2 _ (List.getElem_mem c)
    simp only [e1, decide_true, br_true, lookI_nat, ee, bno_s, P61_eq _ _ hg.1.1, inlO_s, jn_l]
  · have e1 : ¬ ((locL l p : Nat) : Int) < ((l.length : Nat) : Int) := by omega
    have ee : l[locL l p]? = none := List.getElem?_eq_none (by omega)
    simp [e1, ee]
theorem P73_eq {l : List Entry} {p : List Int} (hr : Ris l) (hl : Lst Entry.gd l) (hp : p.length ≤ 9223372036854775807) : P73 l p = some ((locL l p : Int), hasL l p) := by
  simp [P73, S73, P80_eq hr hl hp]
def cellL : Option Int → Cell
  | some n => ⟨1, n⟩
  | none => ⟨0, 0⟩
theorem P57_eq {l : List Entry} {p : List Int} (hr : Ris l) (hl : Lst Entry.gd l) (hp : p.length ≤ 9223372036854775807) : P57 l p = some (cellL (getL l p)) := by
  simp only [P57, S57, P73_eq hr hl hp, bno_s]
  rw [get_has]
  cases h : hasL l p with
  | false => simp [cellL]
  | true =>
    rw [has_loc] at h
    split at h
    · rename_i e he
      simp [lookI_nat, he, cellL]
    · cases h
theorem P56_eq {o : List Dim} {l : List Entry} {p : List Int} (hl : Lst Entry.gd l) (hp : p.length ≤ 9223372036854775807) : P56 o l p = some (errOf (if entsE o l = 0 then fitsE o p else entsE o l)) := by
  simp only [P56, S56, P27_eq o l hl, bno_s, errOf_nil]
  by_cases h : entsE o l = 0
  · simp [h, P58_eq o p hp]
  · simp [h]
theorem P26_eq {o : List Dim} {l : List Entry} {p : List Int} (hl : Lst Entry.gd l) (hp : p.length ≤ 9223372036854775807) :
    P26 o l p = some (if entsE o l = 0 then (if fitsE o p = 0 then (cellL (getL l p), .nil) else (⟨0, 0⟩, errOf (fitsE o p))) else (⟨0, 0⟩, errOf (entsE o l))) := by
  simp only [P26, S26, P56_eq hl hp, bno_s, errOf_nil]
  by_cases h : entsE o l = 0
  · by_cases h2 : fitsE o p = 0
    · simp [h, h2, P57_eq (ents_ok.1 h).ris hl hp]
    · simp [h, h2]
  · simp [h]

/-- What an edit of entries that are right comes to. -/
def doL (o : List Dim) (l : List Entry) (e : Edit) : List Entry × Int :=
  if fitsE o e.at_ = 0 then
    if e.clear = true then (if hasL l e.at_ = true then (eraL l e.at_, 0) else ([], 5))
    else if leafP o e.at_ = false then ([], 6) else if valOk e.n = false then ([], 1) else (putL l e.at_ e.n, 0)
  else ([], fitsE o e.at_)

theorem clone_some' {α : Type} {xs : List α} (h : xs.length ≤ roomA) : PClone xs = some xs := by simp [PClone, h]
theorem P71_eq {o : List Dim} {l : List Entry} {e : Edit} (ok : EntsOk o l) (he : e.at_.length ≤ 9223372036854775807) : P71 o l e = some ((doL o l e).1, errOf (doL o l e).2) := by
  have hl := ok.gd ok.out.dm
  have hlen := ok.len
  have hol := ok.out.len
  simp only [P71, S71, P58_eq o e.at_ he, bno_s, errOf_nil]
  unfold doL
  by_cases c1 : fitsE o e.at_ = 0
  case neg => simp [c1]
  have hf := fits_ok.1 c1
  have hfl := hf.len
  simp only [c1, decide_true, Bool.not_true, br_false, if_true, P73_eq ok.ris hl he, bno_s]
  have hloc := loc_le l e.at_
  have hone : wi (((locL l e.at_ : Nat) : Int) + 1) = ((locL l e.at_ + 1 : Nat) : Int) := by rw [wiid (by omega) (by omega)]; omega
  have hlt : hasL l e.at_ = true → locL l e.at_ < l.length ∧ ∃ e0, l[locL l e.at_]? = some e0 ∧ e0.at_ = e.at_ := fun h => by
    rw [has_loc] at h
    split at h
    · rename_i e0 he0
      exact ⟨(List.getElem?_eq_some_iff.1 he0).1, e0, he0, cmpL_eq (of_decide_eq_true h)⟩
    · cases h
  cases c2 : e.clear with
  | true =>
    cases c3 : hasL l e.at_ with
    | false => simp [errOf]
    | true =>
      have h77 : P77 l ((locL l e.at_ : Nat) : Int) ((locL l e.at_ + 1 : Nat) : Int) = some (eraL l e.at_) := by
        unfold P77
        have := (hlt c3).1
        rw [era_at l e.at_ c3, ck_pos (by omega)]
        simp
      simp [hone, errOf]
      rw [show ((locL l e.at_ : Nat) : Int) + 1 = ((locL l e.at_ + 1 : Nat) : Int) by omega, h77]
      rfl
  | false =>
    simp only [Bool.false_eq_true, if_false, br_false, inlO_s, jn_l, P59_eq hf he ok.out.dm, bno_s]
    cases c3 : leafP o e.at_ with
    | false => simp [errOf]
    | true =>
      simp only [Bool.not_true, br_false, P60_eq, bno_s]
      cases c4 : valOk e.n with
      | false => simp [errOf]
      | true =>
        simp only [Bool.not_true, br_false]
        rw [put_at]
        cases c5 : hasL l e.at_ with
        | true =>
          obtain ⟨h1, e0, h2, h3⟩ := hlt c5
          have hck : 0 ≤ ((locL l e.at_ : Nat) : Int) ∧ ((locL l e.at_ : Nat) : Int) < ((l.length : Nat) : Int) := by omega
          simp only [br_true, ck_pos hck, Int.toNat_natCast, h2, bno_s, h3]
          simp [errOf, List.set_eq_take_append_cons_drop, h1]
        | false =>
          have h76 : P76s e.at_ = some e.at_ := clone_some' (by unfold roomA; omega)
          simp only [br_false, h76, bno_s]
          have h78 : P78 l ((locL l e.at_ : Nat) : Int) [⟨e.at_, e.n⟩] = some (l.take (locL l e.at_) ++ ⟨e.at_, e.n⟩ :: l.drop (locL l e.at_)) := by
            unfold P78
            rw [ck_pos (by unfold roomA; simp; omega)]
            simp
          rw [h78]
          simp [errOf]
theorem P72_eq {l : List Entry} (hl : l.length ≤ roomA) (hp : ∀ e ∈ l, e.at_.length ≤ roomA) : P72 l = some l := by
  have h79 : P79 l = some l := clone_some' hl
  simp only [P72, S72, h79, bno_s, lp_eq]
  have hs := seq_loop (B := S72_L1 P76s l) (fun i => ((i : Int), l)) l.length (fun i hi => by
    have e : ((i : Nat) : Int) < ((l.length : Nat) : Int) := by omega
    have hck : 0 ≤ ((i : Nat) : Int) ∧ ((i : Nat) : Int) < ((l.length : Nat) : Int) := by omega
    have ee := List.getElem?_eq_getElem hi
    have h76 : P76s l[i].at_ = some l[i].at_ := clone_some' (hp _ (List.getElem_mem hi))
    have hroom : l.length ≤ 1099511627776 := hl
    simp only [S72_L1, e, decide_true, br_true, ck_pos hck, Int.toNat_natCast, ee, bno_s, h76, nxO_s]
    rw [wiid (by omega) (by omega)]
    have : l.set i ⟨l[i].at_, l[i].n⟩ = l := by
      rw [show (⟨l[i].at_, l[i].n⟩ : Entry) = l[i] from rfl]
      exact List.set_getElem_self hi
    rw [this]
    rfl)
  have e0 : lpO (S72_L1 P76s l) (0, l) = lpO (S72_L1 P76s l) ((l.length : Int), l) := hs
  rw [e0, lpO_dn (y := ((l.length : Int), l)) (by simp [S72_L1])]
  rfl
def oneL (o : List Dim) (l : List Entry) (e : Edit) : List Entry × Int := if entsE o l = 0 then doL o l e else ([], entsE o l)
theorem P55_eq {o : List Dim} {l : List Entry} {e : Edit} (hl : Lst Entry.gd l) (he : e.at_.length ≤ 9223372036854775807) : P55 o l e = some ((oneL o l e).1, errOf (oneL o l e).2) := by
  simp only [P55, S55, P27_eq o l hl, bno_s, errOf_nil]
  unfold oneL
  by_cases h : entsE o l = 0
  · have ok := ents_ok.1 h
    have h72 : P72 l = some l := P72_eq (by have := ok.len; unfold roomA; omega) fun e he => by have := (ok.fit e he).len; have := ok.out.len; unfold roomA; omega
    simp [h, h72, P71_eq ok he]
  · simp [h]
theorem P25_eq {o : List Dim} {l : List Entry} {p : List Int} {n : Int} (hl : Lst Entry.gd l) (he : p.length ≤ 9223372036854775807) : P25 o l p n = some ((oneL o l ⟨p, n, false⟩).1, errOf (oneL o l ⟨p, n, false⟩).2) := by
  simp [P25, S25, P55_eq (e := ⟨p, n, false⟩) hl he]
theorem P29_eq {o : List Dim} {l : List Entry} {p : List Int} (hl : Lst Entry.gd l) (he : p.length ≤ 9223372036854775807) : P29 o l p = some ((oneL o l ⟨p, 0, true⟩).1, errOf (oneL o l ⟨p, 0, true⟩).2) := by
  simp [P29, S29, P55_eq (e := ⟨p, 0, true⟩) hl he]
/-- What a set that goes well leaves. -/
theorem set_ok {o : List Dim} {l : List Entry} {p : List Int} {n : Int} (h : (oneL o l ⟨p, n, false⟩).2 = 0) : EntsOk o l ∧ Fit o p ∧ leafP o p = true ∧ valOk n = true ∧ (oneL o l ⟨p, n, false⟩).1 = putL l p n := by
  unfold oneL at h ⊢
  by_cases h0 : entsE o l = 0
  case neg => rw [if_neg h0] at h; exact absurd h h0
  rw [if_pos h0] at h ⊢
  unfold doL at h ⊢
  by_cases c1 : fitsE o p = 0
  case neg => simp only [c1, if_false] at h
  simp only [c1, if_true, Bool.false_eq_true, if_false] at h ⊢
  cases c3 : leafP o p with
  | false => simp [c3] at h
  | true =>
    cases c4 : valOk n with
    | false => simp [c3, c4] at h
    | true => exact ⟨ents_ok.1 h0, fits_ok.1 c1, rfl, rfl, by simp [c3, c4]⟩
end Ab
