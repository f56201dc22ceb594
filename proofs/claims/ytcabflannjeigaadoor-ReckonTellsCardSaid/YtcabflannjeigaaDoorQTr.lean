/-
  Plain laws: a formula that is right is a tree: each node but the last is used once.
-/
import Derived.Test.YtcabflannjeigaaDoorQFm
import Derived.Test.YtcabflannjeigaaDoorMSr
namespace Ab
open Go
set_option linter.unusedVariables false
set_option linter.unusedSimpArgs false

/-- How often a node uses the j-th. -/
def par (x : Node) (j : Nat) : Nat := if 3 ≤ x.op then (if x.left = (j : Int) then 1 else 0) + (if x.right = (j : Int) then 1 else 0) else 0
def cntP (l : List Node) (j : Nat) : Nat := (l.map fun x => par x j).sum
theorem par_le (x : Node) (j : Nat) : par x j ≤ 2 := by unfold par; repeat' split
                                                        all_goals omega
theorem cntP_le : ∀ (l : List Node) (j : Nat), cntP l j ≤ 2 * l.length
  | [], _ => by simp [cntP]
  | x :: l, j => by
    have h1 := cntP_le l j
    have h2 := par_le x j
    simp only [cntP, List.map_cons, List.sum_cons, List.length_cons] at h1 ⊢
    omega
theorem cntP_app (a b : List Node) (j : Nat) : cntP (a ++ b) j = cntP a j + cntP b j := by simp [cntP]
section
variable {l : List Node}
theorem use_cnt (ok : FormOk l) : ∀ (i : Nat), i ≤ l.length → ∀ j, j < l.length → (useL l i).getD j 0 = ((cntP (l.take i) j : Nat) : Int)
  | 0, _, j, hj => by
    simp [useL, cntP, List.getD_eq_getElem?_getD, List.getElem?_replicate, hj]
  | i + 1, hi, j, hj => by
    have hx := List.getElem?_eq_getElem (l := l) (i := i) (by omega)
    have hnode := ok.node i _ hx
    have hmost := ok.most
    have ih := use_cnt ok i (by omega)
    rw [useL_succ hx, List.take_add_one, hx]
    generalize l[i] = x at hx hnode
    have e1 : cntP (l.take i ++ (some x).toList) j = cntP (l.take i) j + par x j := by rw [cntP_app]; simp [cntP]
    rw [e1]
    have bnd : ∀ k, cntP (l.take i) k ≤ 60 := fun k => Nat.le_trans (cntP_le _ _) (by rw [List.length_take]; omega)
    unfold useN par
    by_cases h3 : 3 ≤ x.op
    · obtain ⟨a1, a2, a3, a4, _⟩ := nodeE_two hnode h3
      obtain ⟨m, hm⟩ := Int.eq_ofNat_of_zero_le a1
      obtain ⟨k, hk⟩ := Int.eq_ofNat_of_zero_le a3
      rw [if_pos h3, if_pos h3, hm, hk, Int.toNat_natCast, Int.toNat_natCast]
      have hm' : m < l.length := by omega
      have hk' : k < l.length := by omega
      have set_get : ∀ (u : List Int) (a b : Nat) (v : Int), u.length = l.length → a < l.length → (u.set a v).getD b 0 = if a = b then v else u.getD b 0 := by
        intro u a b v hu ha
        simp only [List.getD_eq_getElem?_getD, List.getElem?_set]
        by_cases e : a = b
        · rw [if_pos e, if_pos e, if_pos (by omega)]; rfl
        · rw [if_neg e, if_neg e]
      have hU := useL_len l i
      rw [set_get _ _ _ _ (by rw [List.length_set]; exact hU) hk', set_get _ _ _ _ hU hm', set_get _ _ _ _ hU hm', ih m hm', ih j hj, ih k hk']
      have b1 := bnd m
      have b2 := bnd k
      have b3 := bnd j
      have w1 : wi (((cntP (l.take i) m : Nat) : Int) + 1) = ((cntP (l.take i) m + 1 : Nat) : Int) := by rw [wiid (by omega) (by omega)]; omega
      rw [w1]
      by_cases e1 : m = k
      · subst e1
        rw [if_pos rfl]
        by_cases e2 : m = j
        · subst e2
          rw [if_pos rfl, wiid (by omega) (by omega), if_pos rfl]
          omega
        · rw [if_neg e2, if_neg e2, if_neg (by omega)]
          omega
      · rw [if_neg e1]
        by_cases e2 : k = j
        · subst e2
          rw [if_pos rfl, wiid (by omega) (by omega), if_neg (by omega), if_pos rfl]
          omega
        · rw [if_neg e2]
          by_cases e3 : m = j
          · subst e3
            rw [if_pos rfl, if_pos rfl, if_neg (by omega)]
          · rw [if_neg e3, if_neg (by omega), if_neg (by omega)]
            omega
    · rw [if_neg h3, if_neg h3, ih j hj]
      omega
theorem par_one (ok : FormOk l) {j : Nat} (hj : j < l.length - 1) : cntP l j = 1 := by
  have h1 := use_cnt ok l.length (Nat.le_refl _) j (by omega)
  rw [List.take_length, ok.use j hj] at h1
  omega
theorem par_at : ∀ {l : List Node} {k j : Nat} {x : Node}, l[k]? = some x → par x j ≤ cntP l j
  | [], k, _, x, h => by simp at h
  | y :: l, 0, j, x, h => by
    obtain rfl : y = x := by simpa using h
    simp only [cntP, List.map_cons, List.sum_cons]
    omega
  | y :: l, k + 1, j, x, h => by
    have := par_at (l := l) (k := k) (j := j) (x := x) (by simpa using h)
    simp only [cntP, List.map_cons, List.sum_cons] at this ⊢
    omega
theorem par_two : ∀ {l : List Node} {k k' j : Nat} {x y : Node}, k < k' → l[k]? = some x → l[k']? = some y → par x j + par y j ≤ cntP l j
  | [], k, _, _, x, _, _, h, _ => by simp at h
  | z :: l, 0, k' + 1, j, x, y, _, h, h' => by
    obtain rfl : z = x := by simpa using h
    have := par_at (l := l) (k := k') (j := j) (x := y) (by simpa using h')
    simp only [cntP, List.map_cons, List.sum_cons] at this ⊢
    omega
  | z :: l, k + 1, k' + 1, j, x, y, hk, h, h' => by
    have := par_two (l := l) (k := k) (k' := k') (j := j) (x := x) (y := y) (by omega) (by simpa using h) (by simpa using h')
    simp only [cntP, List.map_cons, List.sum_cons] at this ⊢
    omega
/-- Who uses a node is one alone. -/
theorem par_uniq (ok : FormOk l) {k k' j : Nat} {x y : Node} (hj : j < l.length - 1) (h : l[k]? = some x) (h' : l[k']? = some y) (p : 1 ≤ par x j) (p' : 1 ≤ par y j) : k = k' := by
  have h1 := par_one ok hj
  rcases Nat.lt_trichotomy k k' with hk | hk | hk
  · have := par_two (j := j) hk h h'
    omega
  · exact hk
  · have := par_two (j := j) hk h' h
    omega

/-- A node, and those under it, by their places. -/
def exN (l : List Node) : Nat → Nat → List Nat
  | 0, _ => []
  | f + 1, i => match l[i]? with
    | none => []
    | some x => if 3 ≤ x.op then exN l f x.left.toNat ++ exN l f x.right.toNat ++ [i] else [i]
theorem ex_le (ok : FormOk l) : ∀ (f i : Nat), ∀ j ∈ exN l f i, j ≤ i ∧ j < l.length
  | 0, i, j, h => by simp [exN] at h
  | f + 1, i, j, h => by
    simp only [exN] at h
    split at h
    · cases h
    · rename_i x hx
      have hi := (List.getElem?_eq_some_iff.1 hx).1
      split at h
      · rename_i h3
        obtain ⟨a1, a2, a3, a4, _⟩ := nodeE_two (ok.node i x hx) h3
        rcases List.mem_append.1 h with h | h
        · rcases List.mem_append.1 h with h | h
          · have := ex_le ok f _ j h; omega
          · have := ex_le ok f _ j h; omega
        · obtain rfl := List.mem_singleton.1 h
          exact ⟨Nat.le_refl _, hi⟩
      · obtain rfl := List.mem_singleton.1 h
        exact ⟨Nat.le_refl _, hi⟩
/-- Each but the first has who uses it. -/
theorem ex_up (ok : FormOk l) : ∀ (f i : Nat), ∀ j ∈ exN l f i, j ≠ i → ∃ k ∈ exN l f i, ∃ x, l[k]? = some x ∧ 1 ≤ par x j ∧ j < k
  | 0, i, j, h, _ => by simp [exN] at h
  | f + 1, i, j, h, hne => by
    simp only [exN] at h ⊢
    split at h
    · cases h
    · rename_i x hx
      split at h
      · rename_i h3
        try simp only [hx]
        try rw [if_pos h3]
        obtain ⟨a1, a2, a3, a4, _⟩ := nodeE_two (ok.node i x hx) h3
        obtain ⟨m, hm⟩ := Int.eq_ofNat_of_zero_le a1
        obtain ⟨k, hk⟩ := Int.eq_ofNat_of_zero_le a3
        rcases List.mem_append.1 h with h | h
        · rcases List.mem_append.1 h with h | h
          · by_cases e : j = x.left.toNat
            · refine ⟨i, by simp, x, hx, ?_, by omega⟩
              unfold par
              rw [if_pos h3, if_pos (by omega)]
              omega
            · obtain ⟨q, q1, q2⟩ := ex_up ok f _ j h e
              exact ⟨q, List.mem_append.2 (.inl (List.mem_append.2 (.inl q1))), q2⟩
          · by_cases e : j = x.right.toNat
            · refine ⟨i, by simp, x, hx, ?_, by omega⟩
              unfold par
              rw [if_pos h3, if_pos (show x.right = (j : Int) by omega)]
              omega
            · obtain ⟨q, q1, q2⟩ := ex_up ok f _ j h e
              exact ⟨q, List.mem_append.2 (.inl (List.mem_append.2 (.inr q1))), q2⟩
        · exact absurd (List.mem_singleton.1 h) hne
      · exact absurd (List.mem_singleton.1 h) hne
/-- Two under one node have none in common. -/
theorem ex_apart (ok : FormOk l) {f i : Nat} {x : Node} (hx : l[i]? = some x) (h3 : 3 ≤ x.op) : ∀ (n j : Nat), l.length - j ≤ n → j ∈ exN l f x.left.toNat → j ∈ exN l f x.right.toNat → False := by
  obtain ⟨a1, a2, a3, a4, _⟩ := nodeE_two (ok.node i x hx) h3
  have hi := (List.getElem?_eq_some_iff.1 hx).1
  have pl : 1 ≤ par x x.left.toNat := by unfold par; rw [if_pos h3, if_pos (by omega)]; omega
  have pr : 1 ≤ par x x.right.toNat := by unfold par; rw [if_pos h3, if_pos (show x.right = ((x.right.toNat : Nat) : Int) by omega)]; omega
  intro n
  induction n with
  | zero => intro j hn h; have := ex_le ok f _ j h; omega
  | succ n ih =>
    intro j hn h1 h2
    have l1 := ex_le ok f _ j h1
    have l2 := ex_le ok f _ j h2
    have hj : j < l.length - 1 := by omega
    by_cases e1 : j = x.left.toNat
    · by_cases e2 : j = x.right.toNat
      · have h4 := par_at (j := j) hx
        rw [par_one ok hj] at h4
        unfold par at h4
        rw [if_pos h3, if_pos (by omega), if_pos (by omega)] at h4
        omega
      · obtain ⟨k, k1, y, k2, k3, k4⟩ := ex_up ok f _ j h2 e2
        have := par_uniq ok hj hx k2 (by rw [e1]; exact pl) k3
        have := ex_le ok f _ k k1
        omega
    · obtain ⟨k, k1, y, k2, k3, k4⟩ := ex_up ok f _ j h1 e1
      by_cases e2 : j = x.right.toNat
      · have := par_uniq ok hj hx k2 (by rw [e2]; exact pr) k3
        have := ex_le ok f _ k k1
        omega
      · obtain ⟨k', q1, y', q2, q3, q4⟩ := ex_up ok f _ j h2 e2
        have := par_uniq ok hj k2 q2 k3 q3
        subst this
        exact ih k (by omega) k1 q1
theorem ex_nodup (ok : FormOk l) : ∀ (f i : Nat), (exN l f i).Nodup
  | 0, i => by simp [exN]
  | f + 1, i => by
    simp only [exN]
    split
    · simp
    · rename_i x hx
      split
      · rename_i h3
        obtain ⟨a1, a2, a3, a4, _⟩ := nodeE_two (ok.node i x hx) h3
        refine List.nodup_append.2 ⟨List.nodup_append.2 ⟨ex_nodup ok f _, ex_nodup ok f _, fun a ha b hb e => ?_⟩, by simp, fun a ha b hb e => ?_⟩
        · subst e
          exact ex_apart ok hx h3 _ a (Nat.le_refl _) ha hb
        · obtain rfl := List.mem_singleton.1 hb
          subst e
          rcases List.mem_append.1 ha with ha | ha
          · have := ex_le ok f _ a ha; omega
          · have := ex_le ok f _ a ha; omega
      · simp
theorem nodup_len : ∀ (n : Nat) (r : List Nat), r.Nodup → (∀ x ∈ r, x < n) → r.length ≤ n
  | 0, r, _, h => by
    cases r with
    | nil => simp
    | cons a r => exact absurd (h a (by simp)) (by omega)
  | n + 1, r, hn, h => by
    have h1 := nodup_len n (r.erase n) (hn.erase n) fun x hx => by
      have h2 := h x (List.mem_of_mem_erase hx)
      have h3 : x ≠ n := fun e => by
        subst e
        exact (List.Nodup.mem_erase_iff hn).1 hx |>.1 rfl
      omega
    by_cases hm : n ∈ r
    · rw [List.length_erase_of_mem hm] at h1
      omega
    · rw [List.erase_of_not_mem hm] at h1
      omega
theorem ex_len (ok : FormOk l) (f i : Nat) : (exN l f i).length ≤ l.length := nodup_len _ _ (ex_nodup ok f i) fun x hx => (ex_le ok f i x hx).2

/-- What swapping gives is there, and as long. -/
theorem swN_some (ok : FormOk l) : ∀ (f i : Nat) (out : List Node), i < f → i < l.length → ∃ y, swN l f (i : Int) out = some y ∧ y.length = out.length + (exN l f i).length
  | 0, i, out, h, _ => by omega
  | f + 1, i, out, hf, hi => by
    have hx := List.getElem?_eq_getElem hi
    have hnode := ok.node i _ hx
    have hop := nodeE_op hnode
    simp only [swN, lookI_nat, exN, hx]
    generalize l[i] = x at hx hnode hop
    by_cases h3 : 3 ≤ x.op
    · obtain ⟨a1, a2, a3, a4, _⟩ := nodeE_two hnode h3
      obtain ⟨m, hm⟩ := Int.eq_ofNat_of_zero_le a1
      obtain ⟨k, hk⟩ := Int.eq_ofNat_of_zero_le a3
      rw [if_pos h3, if_pos hop.2, if_pos h3, hm, hk, Int.toNat_natCast, Int.toNat_natCast]
      by_cases c : x.op = 3 ∨ x.op = 5
      · simp only [if_pos c]
        obtain ⟨y1, e1, l1⟩ := swN_some ok f k out (by omega) (by omega)
        obtain ⟨y2, e2, l2⟩ := swN_some ok f m y1 (by omega) (by omega)
        simp only [e1, e2]
        refine ⟨_, rfl, ?_⟩
        simp only [List.length_append, List.length_cons, List.length_nil]
        omega
      · simp only [if_neg c]
        obtain ⟨y1, e1, l1⟩ := swN_some ok f m out (by omega) (by omega)
        obtain ⟨y2, e2, l2⟩ := swN_some ok f k y1 (by omega) (by omega)
        simp only [e1, e2]
        refine ⟨_, rfl, ?_⟩
        simp only [List.length_append, List.length_cons, List.length_nil]
        omega
    · rw [if_neg h3, if_neg h3]
      exact ⟨_, rfl, by simp⟩
end
end Ab
