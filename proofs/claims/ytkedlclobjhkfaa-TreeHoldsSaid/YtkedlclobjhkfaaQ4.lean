/-
  Plain law: TreeHolds answers true.
-/
import Derived.Test.YtkedlclobjhkfaaW4
import Derived.Test.YtkedlclobjhkfaaQT
namespace Ab
open Go
set_option linter.unusedVariables false
set_option linter.unusedSimpArgs false

section
variable {l : List Member}
theorem wl_mem (i : Int) (ys : List Int) : (wl l i ys).isSome = true ↔ i ∈ ys := by
  induction ys with
  | nil => simp [wl]
  | cons x r ih =>
    simp only [wl]
    by_cases h : x = i
    · simp [h]
    · rw [if_neg h, Option.isSome_map, ih]
      simp [Ne.symm h]
theorem part_get {i : Int} {p : Nat} : isPart l i p = true ↔ ∃ m, l[p]? = some m ∧ m.parent = i := by
  unfold isPart
  cases h : l[p]? with
  | none => simp
  | some m => simp
theorem mem_parts {i x : Int} : x ∈ partsOf l i ↔ ∃ p : Nat, x = p ∧ p < l.length ∧ ∃ m, l[p]? = some m ∧ m.parent = i := by
  unfold partsOf; rw [mem_idxs]; simp only [part_get]
theorem self_mem (h : Rooted l) {k : Nat} (hk : k < l.length) : (k : Int) ∈ path l k := by rw [path_eq h (List.getElem?_eq_getElem hk)]; exact List.mem_cons_self
/-- Below a member: it, or below one of its parts. -/
theorem descend (h : Rooted l) {i : Int} (hi : 0 ≤ i) : ∀ (n k : Nat), k ≤ n → k < l.length → i ∈ path l k → (k : Int) = i ∨ ∃ x ∈ partsOf l i, x ∈ path l k := by
  intro n
  induction n with
  | zero =>
    intro k hk hl hx
    have hm := List.getElem?_eq_getElem hl
    have hu := h.up _ _ hm
    rw [path_eq h hm, path_neg (by omega)] at hx
    simp at hx
    exact .inl hx.symm
  | succ n ih =>
    intro k hk hl hx
    have hm := List.getElem?_eq_getElem hl
    have hu := h.up _ _ hm
    rw [path_eq h hm] at hx ⊢
    rcases List.mem_cons.1 hx with e | hx
    · exact .inl e.symm
    · by_cases hp : (l[k]).parent < 0
      · rw [path_neg hp] at hx; cases hx
      · obtain ⟨j, hj⟩ := Int.eq_ofNat_of_zero_le (by omega : 0 ≤ (l[k]).parent)
        rw [hj] at hx hu ⊢
        rcases ih j (by omega) (by omega) hx with e | ⟨x, h1, h2⟩
        · exact .inr ⟨k, mem_parts.2 ⟨k, rfl, hl, _, hm, by rw [hj, e]⟩, List.mem_cons_self⟩
        · exact .inr ⟨x, h1, List.mem_cons_of_mem _ h2⟩
theorem part_up (h : Rooted l) {i x : Int} (hx : x ∈ partsOf l i) : i < x ∧ x < l.length := by
  obtain ⟨p, rfl, hp, m, hm, rfl⟩ := mem_parts.1 hx
  have := h.up _ _ hm
  omega
theorem unique (h : Rooted l) {i x y : Int} (hx : x ∈ partsOf l i) (hy : y ∈ partsOf l i) : ∀ (n k : Nat), k ≤ n → k < l.length → x ∈ path l k → y ∈ path l k → x = y := by
  have up : ∀ z w : Int, z ∈ partsOf l i → w ∈ partsOf l i → ∀ k : Nat, (k : Int) = z → k < l.length → w ∈ path l ((l[k]?.map Member.parent).getD 0) → False := by
    intro z w hz hw k hk hl hm
    obtain ⟨p, rfl, hp, m, hm', rfl⟩ := mem_parts.1 hz
    have e : k = p := by omega
    subst e
    rw [hm'] at hm
    simp only [Option.map_some, Option.getD_some] at hm
    by_cases hn : m.parent < 0
    · rw [path_neg hn] at hm; cases hm
    · obtain ⟨j, hj⟩ := Int.eq_ofNat_of_zero_le (by omega : 0 ≤ m.parent)
      have hu := h.up _ _ hm'
      have hw' := part_up h hw
      rw [hj] at hm hu hw'
      have := path_mem h j j (Nat.le_refl _) (by omega) w hm
      omega
  intro n
  induction n with
  | zero =>
    intro k hk hl h1 h2
    have hm := List.getElem?_eq_getElem hl
    have hu := h.up _ _ hm
    rw [path_eq h hm, path_neg (by omega)] at h1 h2
    simp at h1 h2
    rw [h1, h2]
  | succ n ih =>
    intro k hk hl h1 h2
    have hm := List.getElem?_eq_getElem hl
    have hu := h.up _ _ hm
    rw [path_eq h hm] at h1 h2
    have hg : (l[k]?.map Member.parent).getD 0 = (l[k]).parent := by rw [hm]; rfl
    rcases List.mem_cons.1 h1 with e1 | h1
    · rcases List.mem_cons.1 h2 with e2 | h2
      · rw [e1, e2]
      · exact (up x y hx hy k e1.symm hl (by rw [hg]; exact h2)).elim
    · rcases List.mem_cons.1 h2 with e2 | h2
      · exact (up y x hy hx k e2.symm hl (by rw [hg]; exact h1)).elim
      · by_cases hp : (l[k]).parent < 0
        · rw [path_neg hp] at h1; cases h1
        · obtain ⟨j, hj⟩ := Int.eq_ofNat_of_zero_le (by omega : 0 ≤ (l[k]).parent)
          rw [hj] at h1 h2 hu
          exact ih j (by omega) (by omega) h1 h2
/-- In a whole a leaf counts as in its part, times the part's sign. -/
theorem wl_part (h : Rooted l) {i x : Int} (hi : 0 ≤ i) (hx : x ∈ partsOf l i) : ∀ (n k : Nat), k ≤ n → k < l.length → ∀ v, wl l x (path l k) = some v → wl l i (path l k) = some (v * sgn l x) := by
  have hxu := part_up h hx
  intro n
  induction n with
  | zero =>
    intro k hk hl v hv
    have hm := List.getElem?_eq_getElem hl
    have hu := h.up _ _ hm
    rw [path_eq h hm, path_neg (by omega)] at hv
    simp only [wl] at hv
    split at hv
    · omega
    · cases hv
  | succ n ih =>
    intro k hk hl v hv
    have hm := List.getElem?_eq_getElem hl
    have hu := h.up _ _ hm
    rw [path_eq h hm] at hv ⊢
    simp only [wl] at hv ⊢
    by_cases hkx : (k : Int) = x
    · rw [if_pos hkx] at hv
      cases hv
      obtain ⟨p, rfl, hp, m, hm', rfl⟩ := mem_parts.1 hx
      have e : k = p := by omega
      subst e
      rw [hm] at hm'
      cases hm'
      rw [if_neg (by omega)]
      obtain ⟨j, hj⟩ := Int.eq_ofNat_of_zero_le hi
      have hjl : j < l.length := by omega
      rw [hj, path_eq h (List.getElem?_eq_getElem hjl)]
      simp [wl]
    · rw [if_neg hkx] at hv
      by_cases hp : (l[k]).parent < 0
      · rw [path_neg hp] at hv; simp [wl] at hv
      · obtain ⟨j, hj⟩ := Int.eq_ofNat_of_zero_le (by omega : 0 ≤ (l[k]).parent)
        rw [hj] at hv hu ⊢
        cases hw : wl l x (path l j) with
        | none => rw [hw] at hv; cases hv
        | some u =>
          rw [hw] at hv
          cases hv
          have hki : ¬ (k : Int) = i := by
            intro e
            have hmem : x ∈ path l j := (wl_mem x _).1 (by rw [hw]; rfl)
            have := path_mem h j j (Nat.le_refl _) (by omega) x hmem
            omega
          rw [if_neg hki, ih j (by omega) (by omega) u hw]
          simp [Int.mul_assoc]
end

theorem sum_add {α : Type} (a b : α → Nat) (P : List α) : (P.map fun p => a p + b p).sum = (P.map a).sum + (P.map b).sum := by
  induction P with
  | nil => rfl
  | cons p P ih => simp only [List.map_cons, List.sum_cons, ih]; omega
theorem sum_flt {α : Type} (φ : α → Bool) (P : List α) : (P.map fun p => if φ p = true then 1 else 0).sum = (P.filter φ).length := by
  induction P with
  | nil => rfl
  | cons p P ih => simp only [List.map_cons, List.sum_cons, ih, List.filter_cons]; cases φ p <;> simp; omega
theorem sum_zero {α : Type} (P : List α) : (P.map fun _ => 0).sum = 0 := by
  induction P with
  | nil => rfl
  | cons p P ih => simp only [List.map_cons, List.sum_cons, ih]
theorem count {α β : Type} (φ : α → β → Bool) (ψ : β → Bool) (P : List α) : ∀ (K : List β), (∀ k ∈ K, (P.filter fun p => φ p k).length = if ψ k = true then 1 else 0) → (P.map fun p => (K.filter (φ p)).length).sum = (K.filter ψ).length := by
  intro K
  induction K with
  | nil => intro _; simpa using sum_zero P
  | cons k K ih =>
    intro h
    have e : (P.map fun p => ((k :: K).filter (φ p)).length) = P.map fun p => (if φ p k = true then 1 else 0) + (K.filter (φ p)).length := by
      congr 1; funext p; rw [List.filter_cons]; cases φ p k <;> simp; omega
    rw [e, sum_add, ih fun k hk => h k (List.mem_cons_of_mem _ hk), sum_flt (fun p => φ p k), h k List.mem_cons_self, List.filter_cons]
    cases ψ k <;> simp; omega
theorem one_of {α : Type} (φ : α → Bool) (p0 : α) : ∀ (P : List α), P.Nodup → p0 ∈ P → φ p0 = true → (∀ p ∈ P, φ p = true → p = p0) → (P.filter φ).length = 1 := by
  intro P
  induction P with
  | nil => intro _ h; cases h
  | cons p P ih =>
    intro hn hm h0 hu
    obtain ⟨hn1, hn2⟩ := List.nodup_cons.1 hn
    rcases List.mem_cons.1 hm with rfl | hm
    · have : P.filter φ = [] := List.filter_eq_nil_iff.2 fun q hq hφ => hn1 (hu q (List.mem_cons_of_mem _ hq) hφ ▸ hq)
      simp [List.filter_cons, h0, this]
    · have : ¬ φ p = true := fun e => hn1 (hu p List.mem_cons_self e ▸ hm)
      simp only [List.filter_cons, this, if_false]
      exact ih hn2 hm h0 fun q hq => hu q (List.mem_cons_of_mem _ hq)
theorem idxs_nodup (p : Nat → Bool) (n : Nat) : (idxs p n).Nodup := by
  unfold idxs
  exact List.Pairwise.map _ (fun a b (h : a ≠ b) => by omega) ((List.nodup_range).filter _)
theorem idxs_single {p : Nat → Bool} {i : Nat} : ∀ {n : Nat}, (∀ k, k < n → p k = decide (k = i)) → idxs p n = if i < n then [(i : Int)] else []
  | 0, _ => by simp [idxs]
  | n + 1, h => by
    rw [idxs_succ, idxs_single (i := i) (n := n) fun k hk => h k (by omega), h n (by omega)]
    by_cases e : n = i
    · subst e; simp
    · simp only [e, decide_false]
      by_cases hi : i < n
      · rw [if_pos hi, if_pos (by omega)]
      · rw [if_neg hi, if_neg (by omega)]

section
variable {l : List Member} (h : Rooted l)
include h
theorem leaf_leafs {i : Nat} (hi : i < l.length) (hf : leafB l i = true) : partsOf l i = [] ∧ leafsOf l i = [(i : Int)] := by
  have hp : partsOf l i = [] := by
    unfold leafB at hf
    rw [List.getElem?_eq_getElem hi] at hf
    simp only [Bool.and_eq_true, decide_eq_true_eq] at hf
    exact hf.2
  refine ⟨hp, ?_⟩
  unfold leafsOf
  rw [idxs_single (i := i) fun k hk => ?_, if_pos hi]
  by_cases e : k = i
  · subst e
    have := (wl_mem (l := l) (k : Int) (path l k)).2 (self_mem h hk)
    simp [this, hf]
  · have : (wl l (i : Int) (path l k)).isSome = false := by
      cases hw : (wl l (i : Int) (path l k)).isSome with
      | false => rfl
      | true =>
        rcases descend h (by omega) k k (Nat.le_refl _) hk ((wl_mem _ _).1 hw) with e' | ⟨x, hx, _⟩
        · omega
        · rw [hp] at hx; cases hx
    simp [this, e]
theorem leafs_sum {i : Nat} (hi : i < l.length) (hf : leafB l i = false) : ((partsOf l i).map fun p => (leafsOf l p).length).sum = (leafsOf l i).length := by
  have e : ∀ p, (leafsOf l p).length = ((List.range l.length).filter fun (k : Nat) => (wl l p (path l k)).isSome && leafB l k).length := fun p => by unfold leafsOf idxs; rw [List.length_map]
  simp only [e]
  refine count (fun (p : Int) (k : Nat) => (wl l p (path l k)).isSome && leafB l k) (fun (k : Nat) => (wl l i (path l k)).isSome && leafB l k) (partsOf l i) (List.range l.length) fun k hk => ?_
  have hk : k < l.length := by simpa using hk
  cases hl : leafB l k with
  | false => simp
  | true =>
    simp only [Bool.and_true]
    cases hw : (wl l i (path l k)).isSome with
    | true =>
      rw [if_pos rfl]
      rcases descend h (by omega) k k (Nat.le_refl _) hk ((wl_mem _ _).1 hw) with e' | ⟨x, hx, hx'⟩
      · have : k = i := by omega
        subst this
        rw [hf] at hl; cases hl
      · refine one_of _ x _ (idxs_nodup _ _) hx ((wl_mem _ _).2 hx') fun y hy hy' => ?_
        exact unique h hy hx k k (Nat.le_refl _) hk ((wl_mem _ _).1 hy') hx'
    | false =>
      have : (partsOf l i).filter (fun p => (wl l p (path l k)).isSome) = [] := List.filter_eq_nil_iff.2 fun p hp hφ => by
        cases hv : wl l p (path l k) with
        | none => rw [hv] at hφ; cases hφ
        | some v =>
          have := wl_part h (by omega) hp k k (Nat.le_refl _) hk v hv
          rw [this] at hw; cases hw
      simp [this]
end

theorem fold_le {P : List Int} (f : Int → Nat) (c : Nat) (hf : ∀ p, f p ≤ c) (s : Nat) : P.foldl (fun m p => m + f p) s ≤ s + c * P.length ∧ P.foldl (fun m p => m + f p) s = s + (P.map f).sum := by
  induction P generalizing s with
  | nil => simp
  | cons p P ih =>
    obtain ⟨h1, h2⟩ := ih (s + f p)
    have := hf p
    simp only [List.foldl_cons, List.map_cons, List.sum_cons, List.length_cons, Nat.mul_add, Nat.mul_one]
    omega
theorem leafs_len (l : List Member) (i : Int) : (leafsOf l i).length ≤ l.length := idxs_len _ _
theorem leafs_mem {l : List Member} {i x : Int} : x ∈ leafsOf l i ↔ ∃ k : Nat, x = k ∧ k < l.length ∧ (wl l i (path l k)).isSome = true ∧ leafB l k = true := by
  unfold leafsOf; rw [mem_idxs]; simp only [Bool.and_eq_true]

theorem p4 (d : Dim) (hd : Dim.gd d) (i : Int) (hi : I64 i) : P4 d i = some true := by
  simp only [P4, S4, P16_eq, P17_eq, P18_eq, P19_eq, P20_eq, bno_s]
  have f1 : treeErr (Dim.mk (⟨#[97]⟩ : ByteArray) (0 : Int) ([Member.mk (⟨#[98]⟩ : ByteArray) (-1 : Int) (0 : Int) (⟨#[]⟩ : ByteArray), Member.mk (⟨#[99]⟩ : ByteArray) (0 : Int) (-1 : Int) (⟨#[]⟩ : ByteArray)] : List Member)) [0, 1] = 0 := by decide +kernel
  have f2 : leafB ([Member.mk (⟨#[98]⟩ : ByteArray) (-1 : Int) (0 : Int) (⟨#[]⟩ : ByteArray), Member.mk (⟨#[99]⟩ : ByteArray) (0 : Int) (-1 : Int) (⟨#[]⟩ : ByteArray)] : List Member) (Int.toNat 1) = true := by decide +kernel
  have f3 : (wOf ([Member.mk (⟨#[98]⟩ : ByteArray) (-1 : Int) (0 : Int) (⟨#[]⟩ : ByteArray), Member.mk (⟨#[99]⟩ : ByteArray) (0 : Int) (-1 : Int) (⟨#[]⟩ : ByteArray)] : List Member) 0 (Int.toNat 1)).1 = -1 := by decide +kernel
  simp only [f1, f2, f3, if_true, nil_isNil, Bool.not_true, br_false, inlO_s, jn_l, not_true, decide_false]
  by_cases he : treeErr d [i] = 0
  case neg =>
    have : ¬ (errOf (treeErr d [i])).isNil = true := by rw [errOf_nil]; simpa using he
    simp [he, this]
  obtain ⟨ok, hin⟩ := treeErr_ok.1 he
  have hr := ok.rooted
  have hlen := ok.len
  have hi' := hin i (by simp)
  obtain ⟨n, rfl⟩ := Int.eq_ofNat_of_zero_le hi'.1
  have hn : n < d.members.length := by omega
  have hm := List.getElem?_eq_getElem hn
  have hpath := path_eq hr hm
  have hplen : (path d.members (n : Int)).length ≤ n + 1 := path_len hr n n (Nat.le_refl _) hn
  have hne : ¬ ((path d.members (n : Int)).length : Int) = 0 := by rw [hpath]; simp; omega
  have h0 : lookI (path d.members (n : Int)) 0 = some (n : Int) := by rw [hpath]; rfl
  have hneg : ¬ ((n : Int) < 0) := by omega
  have hge : ¬ ((d.members.length : Int) ≤ (n : Int)) := by omega
  simp only [he, if_true, nil_isNil, Bool.not_true, br_false, inlO_s, jn_l, hne, decide_false, h0, bno_s, not_true, hneg, hge, Int.toNat_natCast]
  cases hl : leafB d.members n with
  | true =>
    obtain ⟨e1, e2⟩ := leaf_leafs hr hn hl
    simp [e1, e2, lookI]
  | false =>
    simp only [br_false]
    -- the inner loop
    have inner : ∀ (j : Nat) (x : Int) (y4 y5 : List Int × Err) (m : Int), y4.1[j]? = some x → x ∈ partsOf d.members n → lpO (S4_L1 P16 d (n : Int) y4 (m, (j : Int)) (leafsOf d.members x, .nil)) 0 = some (.inl ((leafsOf d.members x).length : Int)) := by
      intro j x y4 y5 m hj hx
      have hxu := part_up hr hx
      have hll := leafs_len d.members x
      obtain ⟨p, rfl, hp, mp, hmp, hpar⟩ := mem_parts.1 hx
      rw [nat_loop (leafsOf d.members p).length fun q hq => ?_, lpO_dn (y := ((leafsOf d.members p).length : Int))]
      · simp [S4_L1]
      · have hq' := List.getElem?_eq_getElem hq
        obtain ⟨k, hk, hkl, hw, hlk⟩ := leafs_mem.1 (List.getElem_mem hq)
        rw [hk] at hq'
        have e : ((q : Nat) : Int) < (((leafsOf d.members (p : Int)).length : Nat) : Int) := by omega
        have t1 : treeErr d [(n : Int), (k : Int)] = 0 := treeErr_ok.2 ⟨ok, by simp; omega⟩
        have t2 : treeErr d [(p : Int), (k : Int)] = 0 := treeErr_ok.2 ⟨ok, by simp; omega⟩
        obtain ⟨v, hv⟩ := Option.isSome_iff_exists.1 hw
        have hv2 := wl_part hr (by omega : (0 : Int) ≤ n) hx k k (Nat.le_refl _) hkl v hv
        have hvb := wl_in hr _ _ _ hv
        have hs : mp.sign = sgn d.members p := by unfold sgn; rw [Int.toNat_natCast, hmp]
        have hb := mul_sgn hvb (sgn_in hr p)
        simp only [S4_L1, e, decide_true, br_true, lookI_nat, hq', bno_s, P16_eq, hj, t1, t2, if_true, Int.toNat_natCast, hlk, nil_isNil, Bool.not_true, br_false, hmp, wOf, hv, hv2, hs]
        rw [wiid (n := v * sgn d.members p) (by omega) (by omega), wiid (by omega) (by omega)]
        simp
    have hpl : (partsOf d.members (n : Int)).length ≤ d.members.length := idxs_len _ _
    have outer : lpO (S4_L2 P16 P17 P19 d (n : Int) (partsOf d.members n, .nil) (path d.members n, .nil)) (0, 0) = some (.inl (((leafsOf d.members n).length : Int), ((partsOf d.members n).length : Int))) := by
      have hs := seq_loop (B := S4_L2 P16 P17 P19 d (n : Int) (partsOf d.members n, .nil) (path d.members n, .nil)) (fun j => ((((partsOf d.members n).take j).foldl (fun m p => m + (leafsOf d.members p).length) 0 : Nat), (j : Int))) (partsOf d.members n).length (fun j hj => by
        have hj' := List.getElem?_eq_getElem hj
        have hx := List.getElem_mem hj
        have hxu := part_up hr hx
        obtain ⟨p, hpe, hp, mp, hmp, hpar⟩ := mem_parts.1 hx
        rw [hpe] at hj'
        have hx' : (p : Int) ∈ partsOf d.members (n : Int) := hpe ▸ hx
        have e : ((j : Nat) : Int) < (((partsOf d.members (n : Int)).length : Nat) : Int) := by omega
        have t1 : treeErr d [(p : Int)] = 0 := treeErr_ok.2 ⟨ok, by simp; omega⟩
        have hpp := path_eq hr hmp
        rw [hpar] at hpp
        have hl1 : ((path d.members (p : Int)).length : Int) = wi (((path d.members (n : Int)).length : Int) + 1) := by
          rw [wiid (by omega) (by omega), hpp]; simp
        have hl2 : lookI (path d.members (p : Int)) 1 = some (n : Int) := by rw [hpp, hpath]; rfl
        have n1 : ¬ ((p : Int) < 0) := by omega
        have n2 : ¬ ((d.members.length : Int) ≤ (p : Int)) := by omega
        have hb := (fold_le (P := (partsOf d.members n).take j) (fun p => (leafsOf d.members p).length) 12 (fun p => by have := leafs_len d.members p; omega) 0).1
        have hb2 : ((partsOf d.members n).take j).length ≤ 12 := by simp; omega
        have hll := leafs_len d.members (p : Int)
        simp only [S4_L2, e, decide_true, br_true, lookI_nat, hj', bno_s, P19_eq, P17_eq, t1, if_true, nil_isNil, Bool.not_true, br_false, ← hl1, not_true, decide_false, hl2, n1, n2, inlO_s, jn_l, lp_eq, inner j p (partsOf d.members n, .nil) (path d.members n, .nil) _ hj' hx', nxO_s]
        rw [wiid (by omega) (by omega), wiid (by omega) (by omega), fold_take _ _ _ hj']
        simp)
      have hsum := (fold_le (P := partsOf d.members n) (fun p => (leafsOf d.members p).length) 12 (fun p => by have := leafs_len d.members p; omega) 0).2
      rw [leafs_sum hr hn hl, Nat.zero_add] at hsum
      have e1 : S4_L2 P16 P17 P19 d (n : Int) (partsOf d.members n, .nil) (path d.members n, .nil) (((leafsOf d.members n).length : Int), ((partsOf d.members n).length : Int)) = some (.dn (((leafsOf d.members n).length : Int), ((partsOf d.members n).length : Int))) := by simp [S4_L2]
      simp only [List.take_length, hsum] at hs
      exact hs.trans (lpO_dn e1)
    simp [lp_eq, outer]
end Ab
