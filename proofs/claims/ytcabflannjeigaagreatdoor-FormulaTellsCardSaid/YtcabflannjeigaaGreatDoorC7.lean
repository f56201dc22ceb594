import Derived.Test.YtcabflannjeigaaGreatDoorMFm
import Derived.Test.YtcabflannjeigaaGreatDoorMR4
import Derived.Test.YtcabflannjeigaaGreatDoorQR
import Derived.Test.YtcabflannjeigaaGreatDoorMSr
import Derived.Test.YtcabflannjeigaaGreatDoorQRd
import Derived.Test.YtcabflannjeigaaGreatDoorMRk
section
namespace Ab
open Go
set_option linter.unusedVariables false
set_option linter.unusedSimpArgs false

/-- A loop over places that may stop at the first that is wrong. -/
theorem stop_loop {σ α : Type} {B : σ → Option (LR σ α)} (st : Nat → σ) (n : Nat) (g : Nat → Option α) {d : σ} (h : ∀ i, i < n → (∀ j, j < i → g j = none) → B (st i) = some (match g i with | some r => .fin r | none => .nx (st (i + 1))))
    (hn : (∀ j, j < n → g j = none) → B (st n) = some (.dn d)) : lpO B (st 0) = some (match (List.range n).findSome? g with | some r => .inr r | none => .inl d) := by
  have key : ∀ (m k : Nat), k + m = n → (∀ j, j < k → g j = none) → lpO B (st k) = some (match (List.range' k m).findSome? g with | some r => .inr r | none => .inl d) := by
    intro m
    induction m with
    | zero =>
      intro k hk hg
      obtain rfl : k = n := by omega
      rw [lpO_dn (hn hg)]
      rfl
    | succ m ih =>
      intro k hk hg
      have hs := h k (by omega) hg
      rw [List.range'_succ, List.findSome?_cons]
      cases hgk : g k with
      | some r => rw [hgk] at hs; rw [lpO_fin hs]
      | none =>
        rw [hgk] at hs
        rw [lpO_nx hs]
        exact ih (k + 1) (by omega) fun j hj => by
          by_cases e : j = k
          · rw [e]; exact hgk
          · exact hg j (by omega)
  rw [key n 0 (by omega) (fun j hj => by omega), List.range_eq_range']

/-- How often each node is used by those that were gone through. -/
def useN (u : List Int) (x : Node) : List Int :=
  if 3 ≤ x.op then (u.set x.left.toNat (wi (u.getD x.left.toNat 0 + 1))).set x.right.toNat (wi ((u.set x.left.toNat (wi (u.getD x.left.toNat 0 + 1))).getD x.right.toNat 0 + 1)) else u
def useL (l : List Node) (i : Nat) : List Int := (l.take i).foldl useN (List.replicate l.length 0)
theorem useN_len (u : List Int) (x : Node) : (useN u x).length = u.length := by unfold useN; split <;> simp
theorem useL_len (l : List Node) (i : Nat) : (useL l i).length = l.length := by
  unfold useL
  generalize l.take i = r
  have : ∀ (r : List Node) (u : List Int), (r.foldl useN u).length = u.length := by
    intro r
    induction r with
    | nil => intro u; rfl
    | cons x r ih => intro u; rw [List.foldl_cons, ih, useN_len]
  rw [this, List.length_replicate]
theorem useL_succ {l : List Node} {i : Nat} {x : Node} (h : l[i]? = some x) : useL l (i + 1) = useN (useL l i) x := fold_take _ _ _ h
def nodeErr (l : List Node) (i : Nat) : Option Int := match l[i]? with | some x => if nodeE i x = 0 then none else some (nodeE i x) | none => none
def useErr (l : List Node) (i : Nat) : Option Int := if (useL l l.length).getD i 0 = 1 then none else some 3
/-- The fault of a formula. -/
def formE (l : List Node) : Int :=
  if l.length = 0 then 5 else if 30 < l.length then 4 else
    match (List.range l.length).findSome? (nodeErr l) with
    | some e => e
    | none => match (List.range (l.length - 1)).findSome? (useErr l) with
      | some e => e
      | none => 0

theorem P251_eq {l : List Node} {i : Nat} {x : Node} (h : l[i]? = some x) (hi : i ≤ 9223372036854775807) : P251 l (i : Int) = some (errOf (nodeE i x)) := by
  simp only [P251, lookI_nat, h, Int.toNat_natCast]
  rw [ck_pos (by omega)]
theorem P252_eq (n : Int) : P252 n = some (decide (3 ≤ n) && decide (n ≤ 6)) := by
  by_cases h1 : 3 ≤ n <;> by_cases h2 : n ≤ 6 <;> simp [P252, S252, h1, h2]
theorem nodeE_op {i : Nat} {x : Node} (h : nodeE i x = 0) : 1 ≤ x.op ∧ x.op ≤ 6 := by
  unfold nodeE at h
  split at h
  · cases h
  · omega
theorem nodeE_two {i : Nat} {x : Node} (h : nodeE i x = 0) (h3 : 3 ≤ x.op) : 0 ≤ x.left ∧ x.left < i ∧ 0 ≤ x.right ∧ x.right < i ∧ x.n = 0 ∧ x.name = ⟨#[]⟩ := by
  have := nodeE_op h
  unfold nodeE at h
  rw [if_neg (by omega), if_neg (by omega), if_neg (by omega)] at h
  split at h
  · cases h
  · split at h
    · rename_i h1 h2
      exact ⟨by omega, by omega, by omega, by omega, h2.1, h2.2⟩
    · cases h
theorem nodeErr_none {l : List Node} {i : Nat} {x : Node} (h : l[i]? = some x) (hn : nodeErr l i = none) : nodeE i x = 0 := by
  unfold nodeErr at hn
  rw [h] at hn
  simp only at hn
  split at hn
  · assumption
  · cases hn
theorem getElem_getD {u : List Int} {k : Nat} (h : k < u.length) : u[k]? = some (u.getD k 0) := by
  rw [List.getD_eq_getElem?_getD, List.getElem?_eq_getElem h]
  rfl
/-- What a sound node of two does to the counts. -/
theorem use_step {α : Type} {u : List Int} {x : Node} {n : Nat} (hu : u.length = n) (h0 : 0 ≤ x.left) (h1 : x.left < n) (h2 : 0 ≤ x.right) (h3 : x.right < n) (h4 : 3 ≤ x.op) (k : List Int → Option α) :
    (ck (decide (0 ≤ Node.left x ∧ Node.left x < ((List.length u : Nat) : Int))) <|
      bno (u[(Int.toNat (Node.left x))]?) fun y5 =>
      ck (decide (0 ≤ Node.left x ∧ Node.left x < ((List.length u : Nat) : Int))) <|
      bno (u[(Int.toNat (Node.left x))]?) fun y6 =>
      ck (decide (0 ≤ Node.right x ∧ Node.right x < ((List.length (List.set u (Int.toNat (Node.left x)) (wi (y5 + (1 : Int)))) : Nat) : Int))) <|
      bno ((List.set u (Int.toNat (Node.left x)) (wi (y5 + (1 : Int))))[(Int.toNat (Node.right x))]?) fun y7 =>
      ck (decide (0 ≤ Node.right x ∧ Node.right x < ((List.length (List.set u (Int.toNat (Node.left x)) (wi (y5 + (1 : Int)))) : Nat) : Int))) <|
      bno ((List.set u (Int.toNat (Node.left x)) (wi (y5 + (1 : Int))))[(Int.toNat (Node.right x))]?) fun y8 =>
      k (List.set (List.set u (Int.toNat (Node.left x)) (wi (y5 + (1 : Int)))) (Int.toNat (Node.right x)) (wi (y7 + (1 : Int))))) = k (useN u x) := by
  have e1 : u[x.left.toNat]? = some (u.getD x.left.toNat 0) := getElem_getD (by omega)
  have c1 : 0 ≤ x.left ∧ x.left < ((u.length : Nat) : Int) := ⟨h0, by omega⟩
  rw [ck_pos c1, e1]
  simp only [bno_s]
  rw [ck_pos c1]
  have e2 : (u.set x.left.toNat (wi (u.getD x.left.toNat 0 + 1)))[x.right.toNat]? = some ((u.set x.left.toNat (wi (u.getD x.left.toNat 0 + 1))).getD x.right.toNat 0) := getElem_getD (by rw [List.length_set]; omega)
  have c2 : 0 ≤ x.right ∧ x.right < (((u.set x.left.toNat (wi (u.getD x.left.toNat 0 + 1))).length : Nat) : Int) := ⟨h2, by rw [List.length_set]; omega⟩
  rw [ck_pos c2, e2]
  simp only [bno_s]
  rw [ck_pos c2]
  unfold useN
  rw [if_pos h4]

theorem P241_eq (l : List Node) : P241 l = some (errOf (formE l)) := by
  simp only [P241, S241]
  unfold formE
  by_cases h0 : l.length = 0
  · simp [h0, errOf]
  by_cases h1 : 30 < l.length
  · have : (30 : Int) < ((l.length : Nat) : Int) := by omega
    simp [h0, h1, this, errOf]
  rw [br_dec, if_neg (by omega), br_dec, if_neg (by omega), ck_pos ⟨by omega, Int.le_refl _, by unfold roomA; omega⟩, if_neg h0, if_neg h1]
  have L1 := stop_loop (B := S241_L1 P251 P252 l) (fun i => ((i : Int), useL l i)) l.length (fun i => (nodeErr l i).map errOf) (d := ((l.length : Int), useL l l.length)) (fun i hi hg => by
    have hx := List.getElem?_eq_getElem hi
    simp only [S241_L1]
    rw [br_dec, if_pos (by omega)]
    simp only [lookI_nat, hx, bno_s, P251_eq hx (by omega), errOf_nil, nodeErr, P252_eq]
    by_cases hz : nodeE i l[i] = 0
    · have hop := nodeE_op hz
      have e4 : wi ((i : Int) + 1) = ((i + 1 : Nat) : Int) := by rw [wiid (by omega) (by omega)]; omega
      rw [useL_succ hx]
      simp only [hz, decide_true, Bool.not_true, br_false, if_true, Option.map_none, e4]
      by_cases h3 : 3 ≤ l[i].op
      · obtain ⟨a1, a2, a3, a4, _⟩ := nodeE_two hz h3
        have e6 : (decide (3 ≤ l[i].op) && decide (l[i].op ≤ 6)) = true := by simp [h3, hop.2]
        simp only [e6, br_true]
        have := use_step (α := Sum (List Int) (LR (Int × List Int) Err)) (u := useL l i) (x := l[i]) (n := l.length) (useL_len l i) a1 (by omega) a3 (by omega) h3 (fun z => inlO (some z))
        rw [this]
        rfl
      · have e6 : (decide (3 ≤ l[i].op) && decide (l[i].op ≤ 6)) = false := by simp [h3]
        simp only [e6, br_false, inlO_s, jn_l, useN, if_neg h3]
        rfl
    · simp only [hz, decide_false, Bool.not_false, br_true, if_false, Option.map_some]
      rfl) (fun _ => by
    simp only [S241_L1]
    rw [br_dec, if_neg (by omega)]
    rfl)
  have e0 : ((0 : Int), List.replicate (Int.toNat ((l.length : Nat) : Int)) (0 : Int)) = (((0 : Nat) : Int), useL l 0) := by simp [useL]
  rw [lp_eq, e0, L1, findSome_map]
  cases hs : (List.range l.length).findSome? (nodeErr l) with
  | some e => rfl
  | none =>
    simp only [Option.map_none, jn_l]
    have L2 := stop_loop (B := S241_L2 l ((l.length : Int), useL l l.length)) (fun i => (i : Int)) l.length (fun i => if i < l.length - 1 then (useErr l i).map errOf else none) (d := ((l.length : Nat) : Int)) (fun i hi hg => by
      simp only [S241_L2, useL_len]
      have e4 : wi ((i : Int) + 1) = ((i + 1 : Nat) : Int) := by rw [wiid (by omega) (by omega)]; omega
      have e5 : wi (((l.length : Nat) : Int) - 1) = ((l.length - 1 : Nat) : Int) := by rw [wiid (by omega) (by omega)]; omega
      rw [br_dec, if_pos (by omega), ck_pos ⟨by omega, by omega⟩, Int.toNat_natCast, getElem_getD (by rw [useL_len]; exact hi)]
      simp only [bno_s, e4, e5, useErr]
      by_cases c : (useL l l.length).getD i 0 = 1
      · simp only [c, not_true, decide_false, br_false, inlO_s, jn_l, if_true, Option.map_none, ite_self]
        rfl
      · by_cases d : i < l.length - 1
        · have : (i : Int) < ((l.length - 1 : Nat) : Int) := by omega
          simp only [c, d, this, not_false_eq_true, decide_true, br_true, inlO_s, jn_l, if_false, if_true, Option.map_some]
          rfl
        · have : ¬ (i : Int) < ((l.length - 1 : Nat) : Int) := by omega
          simp only [c, d, this, not_false_eq_true, decide_true, decide_false, br_true, inlO_s, jn_l, br_false, if_false]
          rfl) (fun _ => by
      simp only [S241_L2, useL_len]
      rw [br_dec, if_neg (by omega)]
      rfl)
    rw [lp_eq, show (0 : Int) = ((0 : Nat) : Int) from rfl, L2]
    have e3 : (List.range l.length).findSome? (fun i => if i < l.length - 1 then (useErr l i).map errOf else none) = ((List.range (l.length - 1)).findSome? (useErr l)).map errOf := by
      obtain ⟨n, hn⟩ : ∃ n, l.length = n + 1 := ⟨l.length - 1, by omega⟩
      rw [← findSome_map, hn, List.range_succ, List.findSome?_append]
      simp only [Nat.add_sub_cancel]
      have : ∀ (r : List Nat), (∀ i ∈ r, i < n) → r.findSome? (fun i => if i < n then (useErr l i).map errOf else none) = r.findSome? fun i => (useErr l i).map errOf := by
        intro r
        induction r with
        | nil => intro _; rfl
        | cons a r ih =>
          intro h
          rw [List.findSome?_cons, List.findSome?_cons, if_pos (h a (by simp)), ih fun i hi => h i (List.mem_cons_of_mem _ hi)]
      rw [this _ fun i hi => List.mem_range.1 hi]
      simp
    rw [e3]
    cases (List.range (l.length - 1)).findSome? (useErr l) with
    | some e => rfl
    | none => rfl
theorem P240_eq (l : List Node) : P240 l = some (formE l) := by
  simp only [P240, S240]
  unfold formE
  by_cases h0 : l.length = 0
  · simp [h0]
  by_cases h1 : 30 < l.length
  · have : (30 : Int) < ((l.length : Nat) : Int) := by omega
    simp [h0, h1, this]
  rw [br_dec, if_neg (by omega), br_dec, if_neg (by omega), ck_pos ⟨by omega, Int.le_refl _, by unfold roomA; omega⟩, if_neg h0, if_neg h1]
  have L1 := stop_loop (B := S240_L1 P97 l) (fun i => ((i : Int), useL l i)) l.length (fun i => nodeErr l i) (d := ((l.length : Int), useL l l.length)) (fun i hi hg => by
    have hx := List.getElem?_eq_getElem hi
    have e4 : wi ((i : Int) + 1) = ((i + 1 : Nat) : Int) := by rw [wiid (by omega) (by omega)]; omega
    simp only [S240_L1]
    rw [br_dec, if_pos (by omega)]
    simp only [lookI_nat, hx, bno_s, nodeErr, P97_eq]
    rw [useL_succ hx]
    generalize l[i] = x at hx
    by_cases c1 : x.op < 1
    · simp [nodeE, c1]
    by_cases c2 : 6 < x.op
    · simp [nodeE, c1, c2]
    by_cases c3 : x.op = 1
    · have hu : useN (useL l i) x = useL l i := by unfold useN; rw [if_neg (by omega)]
      by_cases c4 : x.n < 0
      · simp [nodeE, c3, c4]
      by_cases c5 : 1000000 < x.n
      · simp [nodeE, c3, c4, c5]
      by_cases d1 : x.name = ⟨#[]⟩ <;> by_cases d2 : x.left = 0 <;> by_cases d3 : x.right = 0 <;> simp [nodeE, c3, c4, c5, d1, d2, d3, hu, e4]
    by_cases c4 : x.op = 2
    · have hu : useN (useL l i) x = useL l i := by unfold useN; rw [if_neg (by omega)]
      by_cases c5 : nameBad x.name = true
      · simp [nodeE, c4, c5]
      simp only [Bool.not_eq_true] at c5
      by_cases d1 : x.n = 0 <;> by_cases d2 : x.left = 0 <;> by_cases d3 : x.right = 0 <;> simp [nodeE, c4, c5, d1, d2, d3, hu, e4]
    by_cases c5 : x.left < 0
    · simp [nodeE, c1, c2, c3, c4, c5]
    by_cases c6 : (i : Int) ≤ x.left
    · simp [nodeE, c1, c2, c3, c4, c5, c6]
    by_cases c7 : x.right < 0
    · simp [nodeE, c1, c2, c3, c4, c5, c6, c7]
    by_cases c8 : (i : Int) ≤ x.right
    · simp [nodeE, c1, c2, c3, c4, c5, c6, c7, c8]
    by_cases d1 : x.n = 0
    · by_cases d2 : x.name = ⟨#[]⟩
      · have := use_step (α := Sum (List Int) (LR (Int × List Int) Int)) (u := useL l i) (x := x) (n := l.length) (useL_len l i) (by omega) (by omega) (by omega) (by omega) (by omega) (fun z => inlO (some z))
        simp only [c1, c2, c3, c4, c5, c6, c7, c8, d1, d2, decide_true, decide_false, br_true, br_false, inlO_s, jn_l, not_true, nodeE, or_self, and_self, if_true, if_false]
        simp only [inlO_s] at this
        rw [this]
        simp [e4]
      · simp [nodeE, c1, c2, c3, c4, c5, c6, c7, c8, d1, d2]
    · simp [nodeE, c1, c2, c3, c4, c5, c6, c7, c8, d1]) (fun _ => by
    simp only [S240_L1]
    rw [br_dec, if_neg (by omega)]
    rfl)
  have e0 : ((0 : Int), List.replicate (Int.toNat ((l.length : Nat) : Int)) (0 : Int)) = (((0 : Nat) : Int), useL l 0) := by simp [useL]
  rw [lp_eq, e0, L1]
  cases hs : (List.range l.length).findSome? (nodeErr l) with
  | some e => rfl
  | none =>
    simp only [jn_l]
    have e5 : wi (((l.length : Nat) : Int) - 1) = ((l.length - 1 : Nat) : Int) := by rw [wiid (by omega) (by omega)]; omega
    have L2 := stop_loop (B := S240_L2 l ((l.length : Int), useL l l.length)) (fun i => (i : Int)) (l.length - 1) (useErr l) (d := ((l.length - 1 : Nat) : Int)) (fun i hi hg => by
      simp only [S240_L2, useL_len, e5]
      have e4 : wi ((i : Int) + 1) = ((i + 1 : Nat) : Int) := by rw [wiid (by omega) (by omega)]; omega
      rw [br_dec, if_pos (by omega), ck_pos ⟨by omega, by omega⟩, Int.toNat_natCast, getElem_getD (by rw [useL_len]; omega)]
      simp only [bno_s, e4, useErr]
      by_cases c : (useL l l.length).getD i 0 = 1
      · simp only [c, not_true, decide_false, br_false, if_true]
        rfl
      · simp only [c, not_false_eq_true, decide_true, br_true, if_false]
        rfl) (fun _ => by
      simp only [S240_L2, e5]
      rw [br_dec, if_neg (by omega)]
      rfl)
    rw [lp_eq, show (0 : Int) = ((0 : Nat) : Int) from rfl, L2]
    cases (List.range (l.length - 1)).findSome? (useErr l) with
    | some e => rfl
    | none => rfl

/-- A formula that is right. -/
structure FormOk (l : List Node) : Prop where
  pos : 0 < l.length
  most : l.length ≤ 30
  node : ∀ (i : Nat) (x : Node), l[i]? = some x → nodeE i x = 0
  use : ∀ i, i < l.length - 1 → (useL l l.length).getD i 0 = 1
theorem form_ok {l : List Node} : formE l = 0 ↔ FormOk l := by
  unfold formE
  by_cases h0 : l.length = 0
  · rw [if_pos h0]
    exact ⟨fun h => (by cases h), fun h => by have := h.pos; omega⟩
  by_cases h1 : 30 < l.length
  · rw [if_neg h0, if_pos h1]
    exact ⟨fun h => (by cases h), fun h => by have := h.most; omega⟩
  rw [if_neg h0, if_neg h1]
  cases hs : (List.range l.length).findSome? (nodeErr l) with
  | some e =>
    obtain ⟨i, hi, he⟩ := List.exists_of_findSome?_eq_some hs
    have hi := List.mem_range.1 hi
    have hx := List.getElem?_eq_getElem hi
    unfold nodeErr at he
    rw [hx] at he
    simp only at he
    refine ⟨fun h => ?_, fun h => ?_⟩
    · split at he
      · cases he
      · rename_i hn
        cases he
        exact absurd h hn
    · rw [if_pos (h.node i _ hx)] at he
      cases he
  | none =>
    have hnode : ∀ (i : Nat) (x : Node), l[i]? = some x → nodeE i x = 0 := fun i x hx =>
      nodeErr_none hx (List.findSome?_eq_none_iff.1 hs i (List.mem_range.2 (List.getElem?_eq_some_iff.1 hx).1))
    simp only
    cases hs2 : (List.range (l.length - 1)).findSome? (useErr l) with
    | some e =>
      obtain ⟨i, hi, he⟩ := List.exists_of_findSome?_eq_some hs2
      unfold useErr at he
      refine ⟨fun h => ?_, fun h => ?_⟩
      · split at he
        · cases he
        · cases he; cases h
      · rw [if_pos (h.use i (List.mem_range.1 hi))] at he
        cases he
    | none =>
      refine ⟨fun _ => ⟨by omega, by omega, hnode, fun i hi => ?_⟩, fun _ => rfl⟩
      have := List.findSome?_eq_none_iff.1 hs2 i (List.mem_range.2 hi)
      unfold useErr at this
      split at this
      · assumption
      · cases this
end Ab
end

section
namespace Ab
open Go
set_option linter.unusedVariables false
set_option linter.unusedSimpArgs false

theorem bless_eq : ∀ (x y : List UInt8), Op.bytesLess x y = decide (x < y)
  | [], [] => by simp [Op.bytesLess]
  | _ :: _, [] => by simp [Op.bytesLess]
  | [], _ :: _ => by simp [Op.bytesLess]
  | a :: x, b :: y => by
    rw [Op.bytesLess, bless_eq x y]
    simp only [List.cons_lt_cons_iff]
    by_cases h1 : a < b <;> by_cases h2 : a = b <;> by_cases h3 : x < y <;> simp [h1, h2, h3]
theorem toL_eq (s : ByteArray) : s.toList = s.data.toList := ByteArray.toList_eq s
theorem l8_irrefl (x : List UInt8) : ¬ x < x := List.lt_irrefl x
theorem l8_trans {x y z : List UInt8} (h : x < y) (k : y < z) : x < z := List.lt_trans h k
theorem l8_le {x y : List UInt8} : x ≤ y ↔ x < y ∨ x = y := by
  refine ⟨fun h => ?_, fun h => ?_⟩
  · by_cases e : x = y
    · exact .inr e
    · exact .inl (Decidable.byContradiction fun hn => e (List.le_antisymm h (List.not_lt.1 hn)))
  · rcases h with h | rfl
    · exact List.le_of_lt h
    · exact List.le_refl x

/-- Two lists that rise strictly and have the same elements are the same. -/
theorem strict_ext : ∀ {as bs : List (List UInt8)}, as.Pairwise (· < ·) → bs.Pairwise (· < ·) → (∀ x, x ∈ as ↔ x ∈ bs) → as = bs
  | [], [], _, _, _ => rfl
  | [], b :: bs, _, _, h => absurd ((h b).2 (by simp)) (by simp)
  | a :: as, [], _, _, h => absurd ((h a).1 (by simp)) (by simp)
  | a :: as, b :: bs, ha, hb, h => by
    obtain ⟨ha1, ha2⟩ := List.pairwise_cons.1 ha
    obtain ⟨hb1, hb2⟩ := List.pairwise_cons.1 hb
    have e : a = b := by
      rcases List.mem_cons.1 ((h a).1 (by simp)) with e | hm
      · exact e
      · rcases List.mem_cons.1 ((h b).2 (by simp)) with e | hm2
        · exact e.symm
        · exact absurd (l8_trans (hb1 a hm) (ha1 b hm2)) (l8_irrefl b)
    subst e
    congr 1
    refine strict_ext ha2 hb2 fun x => ?_
    have hx := h x
    simp only [List.mem_cons] at hx
    refine ⟨fun hm => ?_, fun hm => ?_⟩
    · rcases hx.1 (.inr hm) with rfl | hm2
      · exact absurd (ha1 x hm) (l8_irrefl x)
      · exact hm2
    · rcases hx.2 (.inr hm) with rfl | hm2
      · exact absurd (hb1 x hm) (l8_irrefl x)
      · exact hm2

/-- Of a list that rises each once. -/
theorem comp_strict (zs : List (List UInt8)) (hz : zs.Pairwise (· ≤ ·)) : ∀ m, m ≤ zs.length → (Lib.compactUpTo zs.toArray m).Pairwise (· < ·) ∧ (∀ x, x ∈ Lib.compactUpTo zs.toArray m ↔ x ∈ zs.take m) ∧ ∀ k y, m = k + 1 → zs[k]? = some y → ∀ x ∈ Lib.compactUpTo zs.toArray m, x ≤ y := by
  intro m
  induction m with
  | zero => intro _; exact ⟨by simp [Lib.compactUpTo], by simp [Lib.compactUpTo], fun k y e => by omega⟩
  | succ m ih =>
    intro hm
    obtain ⟨i1, i2, i3⟩ := ih (by omega)
    have hg : zs[m]? = some zs[m] := List.getElem?_eq_getElem (by omega)
    have e1 : zs.toArray[m]! = zs[m] := by simp [getElem!_pos, show m < zs.length by omega]
    have ht : zs.take (m + 1) = zs.take m ++ [zs[m]] := by rw [List.take_add_one, hg]; rfl
    rw [Lib.compactUpTo_succ, e1]
    by_cases hk : Lib.keeps zs.toArray m = true
    · rw [if_pos hk]
      have hlt : ∀ x ∈ Lib.compactUpTo zs.toArray m, x < zs[m] := by
        intro x hx
        cases m with
        | zero => simp [Lib.compactUpTo] at hx
        | succ k =>
          have h1 := i3 k zs[k] rfl (List.getElem?_eq_getElem (by omega)) x hx
          have h2 : zs[k] ≤ zs[k + 1] := (List.pairwise_iff_getElem.1 hz) k (k + 1) (by omega) (by omega) (by omega)
          have e2 : zs.toArray[k]! = zs[k] := by simp [getElem!_pos, show k < zs.length by omega]
          have h3 : zs[k + 1] ≠ zs[k] := by
            unfold Lib.keeps at hk
            have := of_decide_eq_true hk
            rcases this with h | h
            · omega
            · rw [Nat.add_sub_cancel, e2, e1] at h
              exact h
          rcases l8_le.1 h2 with h2 | h2
          · rcases l8_le.1 h1 with h1 | rfl
            · exact l8_trans h1 h2
            · exact h2
          · exact absurd h2.symm h3
      refine ⟨List.pairwise_append.2 ⟨i1, by simp, fun x hx y hy => ?_⟩, fun x => ?_, fun k y e hy x hx => ?_⟩
      · obtain rfl := List.mem_singleton.1 hy
        exact hlt x hx
      · rw [ht, List.mem_append, List.mem_append, i2]
      · obtain rfl : k = m := by omega
        rw [hg] at hy
        cases hy
        rcases List.mem_append.1 hx with hx | hx
        · exact l8_le.2 (.inl (hlt x hx))
        · obtain rfl := List.mem_singleton.1 hx
          exact List.le_refl _
    · rw [if_neg hk, List.append_nil]
      cases m with
      | zero => exact absurd (Lib.keeps_lt_one _ 0 (by omega)) hk
      | succ k =>
        have e2 : zs.toArray[k]! = zs[k] := by simp [getElem!_pos, show k < zs.length by omega]
        have h3 : zs[k + 1] = zs[k] := by
          unfold Lib.keeps at hk
          have h := hk
          rw [decide_eq_true_eq] at h
          have h := not_or.1 h
          have := Decidable.not_not.1 h.2
          rw [Nat.add_sub_cancel, e2, e1] at this
          exact this
        refine ⟨i1, fun x => ?_, fun k' y e hy x hx => ?_⟩
        · rw [ht, List.mem_append, i2, List.mem_singleton]
          refine ⟨.inl, fun h => ?_⟩
          rcases h with h | rfl
          · exact h
          · rw [h3]
            exact List.mem_take_iff_getElem.2 ⟨k, by omega, rfl⟩
        · obtain rfl : k' = k + 1 := by omega
          rw [hg] at hy
          cases hy
          rw [h3]
          exact i3 k zs[k] rfl (List.getElem?_eq_getElem (by omega)) x hx
theorem sort8 (l : List (List UInt8)) : (l.mergeSort fun x y => decide (x ≤ y)).Pairwise (· ≤ ·) := by
  have h := List.pairwise_mergeSort (le := fun (x y : List UInt8) => decide (x ≤ y)) (fun a b c h1 h2 => by simp only [decide_eq_true_eq] at *; exact List.le_trans h1 h2) (fun a b => by simp only [Bool.or_eq_true, decide_eq_true_eq]; exact List.le_total a b) l
  exact h.imp fun h => by simpa using h
/-- The names that are sorted, each once. -/
theorem compS_sL (l : List ByteArray) : (sL (compS (sortS l))).Pairwise (· < ·) ∧ ∀ x, x ∈ sL (compS (sortS l)) ↔ x ∈ sL l := by
  have sb : ∀ z : List (List UInt8), sL (bL z) = z := by
    intro z
    unfold sL bL
    rw [List.map_map]
    conv => rhs; rw [← List.map_id z]
    exact List.map_congr_left fun s _ => by simp
  have e : sL (compS (sortS l)) = Lib.compact ((sL l).mergeSort fun x y => decide (x ≤ y)) := by
    unfold compS sortS
    rw [sb, sb]
  obtain ⟨h1, h2, _⟩ := comp_strict _ (sort8 (sL l)) _ (Nat.le_refl _)
  rw [e]
  unfold Lib.compact
  refine ⟨h1, fun x => ?_⟩
  rw [h2, List.take_length]
  exact (List.mergeSort_perm _ _).mem_iff

/-- Names that rise: one more, if it is not there. -/
def cntB (out : List ByteArray) (s : ByteArray) : Nat := (out.takeWhile fun a => Op.bytesLess a.toList s.toList).length
def insB (out : List ByteArray) (s : ByteArray) : List ByteArray := if out[cntB out s]? = some s then out else out.take (cntB out s) ++ [s] ++ out.drop (cntB out s)
theorem takeW {α : Type} (p : α → Bool) : ∀ (l : List α), (∀ x ∈ l.take (l.takeWhile p).length, p x = true) ∧ (∀ y, l[(l.takeWhile p).length]? = some y → p y = false) ∧ (l.takeWhile p).length ≤ l.length
  | [] => by simp
  | a :: l => by
    obtain ⟨h1, h2, h3⟩ := takeW p l
    cases hp : p a with
    | true =>
      simp only [List.takeWhile_cons, hp, if_true, List.length_cons, List.take_succ_cons, List.getElem?_cons_succ]
      refine ⟨fun x hx => ?_, h2, by omega⟩
      rcases List.mem_cons.1 hx with rfl | hx
      · exact hp
      · exact h1 x hx
    | false =>
      simp [List.takeWhile_cons, hp]
theorem sL_app (a b : List ByteArray) : sL (a ++ b) = sL a ++ sL b := by simp [sL]
theorem insB_ok {out : List ByteArray} {s : ByteArray} (h : (sL out).Pairwise (· < ·)) : (sL (insB out s)).Pairwise (· < ·) ∧ ∀ x, x ∈ sL (insB out s) ↔ x ∈ sL out ∨ x = s.data.toList := by
  obtain ⟨t1, t2, t3⟩ := takeW (fun a : ByteArray => Op.bytesLess a.toList s.toList) out
  have hin : ∀ {x}, x ∈ sL out ↔ ∃ b ∈ out, b.data.toList = x := by intro x; simp [sL]
  have hinj : ∀ {a b : ByteArray}, a.data.toList = b.data.toList → a = b := fun {a b} h => by
    obtain ⟨⟨a⟩⟩ := a; obtain ⟨⟨b⟩⟩ := b; simp at h; subst h; rfl
  unfold insB
  by_cases c : out[cntB out s]? = some s
  · rw [if_pos c]
    refine ⟨h, fun x => ⟨.inl, fun hx => ?_⟩⟩
    rcases hx with hx | rfl
    · exact hx
    · exact hin.2 ⟨s, List.mem_of_getElem? c, rfl⟩
  · rw [if_neg c]
    have ha : ∀ x ∈ sL (out.take (cntB out s)), x < s.data.toList := by
      intro x hx
      obtain ⟨b, hb, rfl⟩ : ∃ b ∈ out.take (cntB out s), b.data.toList = x := List.mem_map.1 hx
      have := t1 b hb
      rw [bless_eq, toL_eq, toL_eq] at this
      exact of_decide_eq_true this
    have hd : out = out.take (cntB out s) ++ out.drop (cntB out s) := (List.take_append_drop _ _).symm
    have hp : (sL (out.take (cntB out s)) ++ sL (out.drop (cntB out s))).Pairwise (· < ·) := by rw [← sL_app, ← hd]; exact h
    obtain ⟨p1, p2, p3⟩ := List.pairwise_append.1 hp
    have hb : ∀ x ∈ sL (out.drop (cntB out s)), s.data.toList < x := by
      intro x hx
      cases hdr : out.drop (cntB out s) with
      | nil => rw [hdr] at hx; simp [sL] at hx
      | cons y r =>
        have hy : out[cntB out s]? = some y := by rw [← List.head?_drop, hdr]; rfl
        have h1 := t2 y hy
        rw [bless_eq, toL_eq, toL_eq] at h1
        have h1 : ¬ y.data.toList < s.data.toList := of_decide_eq_false h1
        have hlt : s.data.toList < y.data.toList := by
          rcases l8_le.1 (List.not_lt.1 h1) with h | h
          · exact h
          · exact absurd (by rw [hy, hinj h]) c
        rw [hdr] at hx p2
        have e : sL (y :: r) = y.data.toList :: sL r := rfl
        rw [e] at hx p2
        rcases List.mem_cons.1 hx with rfl | hx
        · exact hlt
        · exact l8_trans hlt ((List.pairwise_cons.1 p2).1 x hx)
    rw [sL_app, sL_app]
    refine ⟨List.pairwise_append.2 ⟨List.pairwise_append.2 ⟨p1, by simp [sL], fun x hx y hy => ?_⟩, p2, fun x hx y hy => ?_⟩, fun x => ?_⟩
    · obtain rfl : y = s.data.toList := by simpa [sL] using hy
      exact ha x hx
    · rcases List.mem_append.1 hx with hx | hx
      · exact p3 x hx y hy
      · obtain rfl : x = s.data.toList := by simpa [sL] using hx
        exact hb y hy
    · rw [List.mem_append, List.mem_append]
      conv => rhs; rw [hd, sL_app, List.mem_append]
      have : x ∈ sL [s] ↔ x = s.data.toList := by simp [sL]
      rw [this]
      constructor
      · rintro ((h | h) | h)
        · exact .inl (.inl h)
        · exact .inr h
        · exact .inl (.inr h)
      · rintro ((h | h) | h)
        · exact .inl (.inl h)
        · exact .inr h
        · exact .inl (.inr h)

/-- To whom a formula refers, one by one; rising, each once. -/
def refL (l : List Node) : List ByteArray := (l.filter fun x => decide (x.op = 2)).map Node.name
def refsOf (l : List Node) : List ByteArray := compS (sortS (refL l))
def insL (l : List Node) : List ByteArray := l.foldl (fun out x => if x.op = 2 then insB out x.name else out) []
theorem insL_ok (l : List Node) : (sL (insL l)).Pairwise (· < ·) ∧ ∀ x, x ∈ sL (insL l) ↔ x ∈ sL (refL l) := by
  unfold insL
  have : ∀ (l : List Node) (out : List ByteArray), (sL out).Pairwise (· < ·) → (sL (l.foldl (fun out x => if x.op = 2 then insB out x.name else out) out)).Pairwise (· < ·) ∧ ∀ x, x ∈ sL (l.foldl (fun out x => if x.op = 2 then insB out x.name else out) out) ↔ x ∈ sL out ∨ x ∈ sL (refL l) := by
    intro l
    induction l with
    | nil => intro out h; exact ⟨h, fun x => by simp [refL, sL]⟩
    | cons y l ih =>
      intro out h
      rw [List.foldl_cons]
      by_cases c : y.op = 2
      · rw [if_pos c]
        obtain ⟨k1, k2⟩ := insB_ok (s := y.name) h
        obtain ⟨j1, j2⟩ := ih _ k1
        refine ⟨j1, fun x => ?_⟩
        rw [j2, k2]
        have : refL (y :: l) = y.name :: refL l := by simp [refL, c]
        rw [this]
        have e : sL (y.name :: refL l) = y.name.data.toList :: sL (refL l) := rfl
        rw [e, List.mem_cons, or_assoc]
      · rw [if_neg c]
        obtain ⟨j1, j2⟩ := ih _ h
        refine ⟨j1, fun x => ?_⟩
        rw [j2]
        have : refL (y :: l) = refL l := by simp [refL, c]
        rw [this]
  obtain ⟨h1, h2⟩ := this l [] (by simp [sL])
  exact ⟨h1, fun x => by rw [h2]; simp [sL]⟩
theorem insL_eq (l : List Node) : insL l = refsOf l := by
  obtain ⟨a1, a2⟩ := insL_ok l
  obtain ⟨b1, b2⟩ := compS_sL (refL l)
  have := strict_ext a1 b1 fun x => (a2 x).trans (b2 x).symm
  have := congrArg bL this
  rwa [bL_sL, bL_sL] at this
theorem refL_len (l : List Node) : (refL l).length ≤ l.length := by unfold refL; rw [List.length_map]; exact List.length_filter_le _ _
theorem refsOf_len (l : List Node) : (refsOf l).length ≤ l.length := by
  unfold refsOf compS
  rw [bL_length]
  refine Nat.le_trans ?_ (refL_len l)
  unfold Lib.compact Lib.compactUpTo
  rw [List.length_map]
  refine Nat.le_trans (List.length_filter_le _ _) ?_
  rw [List.length_range, sL_length, sortS_length]
  exact Nat.le_refl _

theorem refL_app (a b : List Node) : refL (a ++ b) = refL a ++ refL b := by unfold refL; rw [List.filter_append, List.map_append]
theorem P245_eq (l : List Node) : P245 l = some (if formE l = 0 then (refsOf l, .nil) else ([], errOf (formE l))) := by
  simp only [P245, S245, P241_eq, bno_s, errOf_nil]
  by_cases h : formE l = 0
  · have hok := form_ok.1 h
    have hm := hok.most
    rw [if_pos h]
    simp only [h, decide_true, Bool.not_true, br_false]
    have hs := seq_loop (B := S245_L1 l) (fun i => (refL (l.take i), (i : Int))) l.length (fun i hi => by
      have hg := List.getElem?_eq_getElem hi
      have e4 : wi ((i : Int) + 1) = ((i + 1 : Nat) : Int) := by rw [wiid (by omega) (by omega)]; omega
      have et : l.take (i + 1) = l.take i ++ [l[i]] := by rw [List.take_add_one, hg]; rfl
      have hlen : (refL (l.take i)).length ≤ 30 := Nat.le_trans (refL_len _) (by rw [List.length_take]; omega)
      simp only [S245_L1]
      rw [br_dec, if_pos (by omega)]
      simp only [lookI_nat, hg, bno_s, et]
      by_cases c : l[i].op = 2
      · have er : refL (l.take i ++ [l[i]]) = refL (l.take i) ++ [l[i].name] := by rw [refL_app]; simp [refL, c]
        simp only [c, decide_true, br_true]
        rw [ck_pos (by unfold roomA; simp; omega), er]
        simp only [inlO_s, jn_l, e4]
        rfl
      · have er : refL (l.take i ++ [l[i]]) = refL (l.take i) := by rw [refL_app]; simp [refL, c]
        simp only [c, decide_false, br_false, inlO_s, jn_l, e4, er]
        rfl)
    have e0 : (([] : List ByteArray), (0 : Int)) = (refL (l.take 0), ((0 : Nat) : Int)) := rfl
    rw [lp_eq, e0, hs, lpO_dn (y := (refL (l.take l.length), ((l.length : Nat) : Int))) (by simp only [S245_L1]; rw [br_dec, if_neg (by omega)]; rfl), List.take_length]
    have hlen := refL_len l
    simp only [jn_l, P255, P256]
    rw [ck_pos (by unfold roomA; omega)]
    simp only [bno_s, sortS_length]
    rw [ck_pos trivial, ck_pos (by unfold roomA; omega)]
    rfl
  · rw [if_neg h]
    simp only [h, decide_false, Bool.not_false, br_true]
theorem P243_eq (l : List Node) (hl : l.length ≤ 1000000) : P243 l = some (refsOf l) := by
  have ilen : ∀ (r : List Node) (out : List ByteArray), (r.foldl (fun out x => if x.op = 2 then insB out x.name else out) out).length ≤ out.length + r.length := by
    intro r
    induction r with
    | nil => intro out; simp
    | cons y r ih =>
      intro out
      rw [List.foldl_cons]
      refine Nat.le_trans (ih _) ?_
      have : (if y.op = 2 then insB out y.name else out).length ≤ out.length + 1 := by
        split
        · unfold insB
          split
          · omega
          · simp; omega
        · omega
      simp only [List.length_cons]
      omega
  have ins_succ : ∀ {i : Nat} {x : Node}, l[i]? = some x → insL (l.take (i + 1)) = if x.op = 2 then insB (insL (l.take i)) x.name else insL (l.take i) := fun h => fold_take _ _ _ h
  have blen : ∀ i, (insL (l.take i)).length ≤ l.length := fun i => Nat.le_trans (ilen _ _) (by simp; omega)
  have hs := seq_loop (B := S243_L2 l) (fun i => (insL (l.take i), (i : Int))) l.length (fun i hi => by
    have hg := List.getElem?_eq_getElem hi
    have e4 : wi ((i : Int) + 1) = ((i + 1 : Nat) : Int) := by rw [wiid (by omega) (by omega)]; omega
    have hb := blen i
    simp only [S243_L2]
    rw [br_dec, if_pos (by omega)]
    simp only [lookI_nat, hg, bno_s, ins_succ hg]
    by_cases c : l[i].op = 2
    · simp only [c, not_true, decide_false, br_false, if_true]
      generalize hout : insL (l.take i) = out at hb
      obtain ⟨t1, t2, t3⟩ := takeW (fun a : ByteArray => Op.bytesLess a.toList l[i].name.toList) out
      have hc : cntB out l[i].name ≤ out.length := t3
      have hk := seq_loop (B := S243_L1 l (out, (i : Int))) (fun k => (k : Int)) (cntB out l[i].name) (fun k hk => by
        have hgk := List.getElem?_eq_getElem (l := out) (i := k) (by omega)
        have e4 : wi ((k : Int) + 1) = ((k + 1 : Nat) : Int) := by rw [wiid (by omega) (by omega)]; omega
        have ht : Op.bytesLess out[k].toList l[i].name.toList = true := t1 _ (List.mem_take_iff_getElem.2 ⟨k, by have h5 : k < (out.takeWhile fun a => Op.bytesLess a.toList l[i].name.toList).length := hk; omega, rfl⟩)
        simp only [S243_L1]
        rw [br_dec, if_pos (by omega)]
        simp only [lookI_nat, hgk, hg, bno_s, ht, inlO_s, jn_l, br_true, e4]
        rfl)
      have hdn : S243_L1 l (out, (i : Int)) ((cntB out l[i].name : Nat) : Int) = some (.dn ((cntB out l[i].name : Nat) : Int)) := by
        simp only [S243_L1]
        by_cases h1 : cntB out l[i].name < out.length
        · have hgk := List.getElem?_eq_getElem h1
          have ht : Op.bytesLess out[cntB out l[i].name].toList l[i].name.toList = false := t2 _ hgk
          rw [br_dec, if_pos (by omega)]
          simp only [lookI_nat, hgk, hg, bno_s, ht, inlO_s, jn_l, br_false]
          rfl
        · rw [br_dec, if_neg (by omega)]
          rfl
      rw [lp_eq, show (0 : Int) = ((0 : Nat) : Int) from rfl, hk, lpO_dn hdn]
      simp only [jn_l, insB]
      by_cases h1 : cntB out l[i].name < out.length
      · have hgk := List.getElem?_eq_getElem h1
        rw [br_dec, if_pos (by omega)]
        simp only [lookI_nat, hgk, hg, bno_s, inlO_s, jn_l, Option.some.injEq]
        by_cases h2 : out[cntB out l[i].name] = l[i].name
        · simp only [h2, decide_true, br_true, if_true, inlO_s, jn_l, e4]
          rfl
        · simp only [h2, decide_false, br_false, if_false]
          rw [ck_pos ⟨by omega, by omega, by omega⟩, ck_pos (by unfold roomA; simp; omega), ck_pos (by unfold roomA; simp; omega), ck_pos ⟨by omega, by omega, by omega⟩, ck_pos (by unfold roomA; simp; omega)]
          simp only [inlO_s, jn_l, e4]
          simp
          exact List.take_of_length_le (by simp)
      · have h2 : ¬ out[cntB out l[i].name]? = some l[i].name := by rw [List.getElem?_eq_none (by omega)]; simp
        rw [br_dec, if_neg (by omega)]
        simp only [inlO_s, jn_l, br_false, if_neg h2, lookI_nat, hg, bno_s]
        rw [ck_pos ⟨by omega, by omega, by omega⟩, ck_pos (by unfold roomA; simp; omega), ck_pos (by unfold roomA; simp; omega), ck_pos ⟨by omega, by omega, by omega⟩, ck_pos (by unfold roomA; simp; omega)]
        simp only [inlO_s, jn_l, e4]
        simp
        exact List.take_of_length_le (by simp)
    · simp only [c, not_false_eq_true, decide_true, br_true, inlO_s, jn_l, if_false, e4]
      rfl)
  have e0 : (([] : List ByteArray), (0 : Int)) = (insL (l.take 0), ((0 : Nat) : Int)) := rfl
  simp only [P243, S243]
  rw [lp_eq, e0, hs, lpO_dn (y := (insL (l.take l.length), ((l.length : Nat) : Int))) (by simp only [S243_L2]; rw [br_dec, if_neg (by omega)]; rfl), List.take_length]
  simp only [jn_l, insL_eq]
end Ab
end

section
namespace Ab
open Go
set_option linter.unusedVariables false
set_option linter.unusedSimpArgs false

/-- How often a node uses the j-th. -/
def par (x : Node) (j : Nat) : Nat := if 3 ≤ x.op then (if x.left = (j : Int) then 1 else 0) + (if x.right = (j : Int) then 1 else 0) else 0
def cntP (l : List Node) (j : Nat) : Nat := (l.map fun x => par x j).sum
theorem par_le (x : Node) (j : Nat) : par x j ≤ 2 := by unfold par; repeat' split
                                                        all_goals omega
theorem cntP_le : ∀ (l : List Node) (j : Nat), cntP l j ≤ 2 * l.length
  | [], _ => by simp [cntP]
  | x :: l, j => by
    have h1 := cntP_le l j
    have h2 := par_le x j
    simp only [cntP, List.map_cons, List.sum_cons, List.length_cons] at h1 ⊢
    omega
theorem cntP_app (a b : List Node) (j : Nat) : cntP (a ++ b) j = cntP a j + cntP b j := by simp [cntP]
section
variable {l : List Node}
theorem use_cnt0 (okn : ∀ (i : Nat) (x : Node), l[i]? = some x → nodeE i x = 0) (okm : l.length ≤ 30) : ∀ (i : Nat), i ≤ l.length → ∀ j, j < l.length → (useL l i).getD j 0 = ((cntP (l.take i) j : Nat) : Int)
  | 0, _, j, hj => by
    simp [useL, cntP, List.getD_eq_getElem?_getD, List.getElem?_replicate, hj]
  | i + 1, hi, j, hj => by
    have hx := List.getElem?_eq_getElem (l := l) (i := i) (by omega)
    have hnode := okn i _ hx
    have hmost := okm
    have ih := use_cnt0 okn okm i (by omega)
    rw [useL_succ hx, List.take_add_one, hx]
    generalize l[i] = x at hx hnode
    have e1 : cntP (l.take i ++ (some x).toList) j = cntP (l.take i) j + par x j := by rw [cntP_app]; simp [cntP]
    rw [e1]
    have bnd : ∀ k, cntP (l.take i) k ≤ 60 := fun k => Nat.le_trans (cntP_le _ _) (by rw [List.length_take]; omega)
    unfold useN par
    by_cases h3 : 3 ≤ x.op
    · obtain ⟨a1, a2, a3, a4, _⟩ := nodeE_two hnode h3
      obtain ⟨m, hm⟩ := Int.eq_ofNat_of_zero_le a1
      obtain ⟨k, hk⟩ := Int.eq_ofNat_of_zero_le a3
      rw [if_pos h3, if_pos h3, hm, hk, Int.toNat_natCast, Int.toNat_natCast]
      have hm' : m < l.length := by omega
      have hk' : k < l.length := by omega
      have set_get : ∀ (u : List Int) (a b : Nat) (v : Int), u.length = l.length → a < l.length → (u.set a v).getD b 0 = if a = b then v else u.getD b 0 := by
        intro u a b v hu ha
        simp only [List.getD_eq_getElem?_getD, List.getElem?_set]
        by_cases e : a = b
        · rw [if_pos e, if_pos e, if_pos (by omega)]; rfl
        · rw [if_neg e, if_neg e]
      have hU := useL_len l i
      rw [set_get _ _ _ _ (by rw [List.length_set]; exact hU) hk', set_get _ _ _ _ hU hm', set_get _ _ _ _ hU hm', ih m hm', ih j hj, ih k hk']
      have b1 := bnd m
      have b2 := bnd k
      have b3 := bnd j
      have w1 : wi (((cntP (l.take i) m : Nat) : Int) + 1) = ((cntP (l.take i) m + 1 : Nat) : Int) := by rw [wiid (by omega) (by omega)]; omega
      rw [w1]
      by_cases e1 : m = k
      · subst e1
        rw [if_pos rfl]
        by_cases e2 : m = j
        · subst e2
          rw [if_pos rfl, wiid (by omega) (by omega), if_pos rfl]
          omega
        · rw [if_neg e2, if_neg e2, if_neg (by omega)]
          omega
      · rw [if_neg e1]
        by_cases e2 : k = j
        · subst e2
          rw [if_pos rfl, wiid (by omega) (by omega), if_neg (by omega), if_pos rfl]
          omega
        · rw [if_neg e2]
          by_cases e3 : m = j
          · subst e3
            rw [if_pos rfl, if_pos rfl, if_neg (by omega)]
          · rw [if_neg e3, if_neg (by omega), if_neg (by omega)]
            omega
    · rw [if_neg h3, if_neg h3, ih j hj]
      omega
theorem use_cnt (ok : FormOk l) : ∀ (i : Nat), i ≤ l.length → ∀ j, j < l.length → (useL l i).getD j 0 = ((cntP (l.take i) j : Nat) : Int) := use_cnt0 ok.node ok.most
theorem par_one (ok : FormOk l) {j : Nat} (hj : j < l.length - 1) : cntP l j = 1 := by
  have h1 := use_cnt ok l.length (Nat.le_refl _) j (by omega)
  rw [List.take_length, ok.use j hj] at h1
  omega
theorem par_at : ∀ {l : List Node} {k j : Nat} {x : Node}, l[k]? = some x → par x j ≤ cntP l j
  | [], k, _, x, h => by simp at h
  | y :: l, 0, j, x, h => by
    obtain rfl : y = x := by simpa using h
    simp only [cntP, List.map_cons, List.sum_cons]
    omega
  | y :: l, k + 1, j, x, h => by
    have := par_at (l := l) (k := k) (j := j) (x := x) (by simpa using h)
    simp only [cntP, List.map_cons, List.sum_cons] at this ⊢
    omega
theorem par_two : ∀ {l : List Node} {k k' j : Nat} {x y : Node}, k < k' → l[k]? = some x → l[k']? = some y → par x j + par y j ≤ cntP l j
  | [], k, _, _, x, _, _, h, _ => by simp at h
  | z :: l, 0, k' + 1, j, x, y, _, h, h' => by
    obtain rfl : z = x := by simpa using h
    have := par_at (l := l) (k := k') (j := j) (x := y) (by simpa using h')
    simp only [cntP, List.map_cons, List.sum_cons] at this ⊢
    omega
  | z :: l, k + 1, k' + 1, j, x, y, hk, h, h' => by
    have := par_two (l := l) (k := k) (k' := k') (j := j) (x := x) (y := y) (by omega) (by simpa using h) (by simpa using h')
    simp only [cntP, List.map_cons, List.sum_cons] at this ⊢
    omega
/-- Who uses a node is one alone. -/
theorem par_uniq (ok : FormOk l) {k k' j : Nat} {x y : Node} (hj : j < l.length - 1) (h : l[k]? = some x) (h' : l[k']? = some y) (p : 1 ≤ par x j) (p' : 1 ≤ par y j) : k = k' := by
  have h1 := par_one ok hj
  rcases Nat.lt_trichotomy k k' with hk | hk | hk
  · have := par_two (j := j) hk h h'
    omega
  · exact hk
  · have := par_two (j := j) hk h' h
    omega

/-- A node, and those under it, by their places. -/
def exN (l : List Node) : Nat → Nat → List Nat
  | 0, _ => []
  | f + 1, i => match l[i]? with
    | none => []
    | some x => if 3 ≤ x.op then exN l f x.left.toNat ++ exN l f x.right.toNat ++ [i] else [i]
theorem ex_le (ok : FormOk l) : ∀ (f i : Nat), ∀ j ∈ exN l f i, j ≤ i ∧ j < l.length
  | 0, i, j, h => by simp [exN] at h
  | f + 1, i, j, h => by
    simp only [exN] at h
    split at h
    · cases h
    · rename_i x hx
      have hi := (List.getElem?_eq_some_iff.1 hx).1
      split at h
      · rename_i h3
        obtain ⟨a1, a2, a3, a4, _⟩ := nodeE_two (ok.node i x hx) h3
        rcases List.mem_append.1 h with h | h
        · rcases List.mem_append.1 h with h | h
          · have := ex_le ok f _ j h; omega
          · have := ex_le ok f _ j h; omega
        · obtain rfl := List.mem_singleton.1 h
          exact ⟨Nat.le_refl _, hi⟩
      · obtain rfl := List.mem_singleton.1 h
        exact ⟨Nat.le_refl _, hi⟩
/-- Each but the first has who uses it. -/
theorem ex_up (ok : FormOk l) : ∀ (f i : Nat), ∀ j ∈ exN l f i, j ≠ i → ∃ k ∈ exN l f i, ∃ x, l[k]? = some x ∧ 1 ≤ par x j ∧ j < k
  | 0, i, j, h, _ => by simp [exN] at h
  | f + 1, i, j, h, hne => by
    simp only [exN] at h ⊢
    split at h
    · cases h
    · rename_i x hx
      split at h
      · rename_i h3
        try simp only [hx]
        try rw [if_pos h3]
        obtain ⟨a1, a2, a3, a4, _⟩ := nodeE_two (ok.node i x hx) h3
        obtain ⟨m, hm⟩ := Int.eq_ofNat_of_zero_le a1
        obtain ⟨k, hk⟩ := Int.eq_ofNat_of_zero_le a3
        rcases List.mem_append.1 h with h | h
        · rcases List.mem_append.1 h with h | h
          · by_cases e : j = x.left.toNat
            · refine ⟨i, by simp, x, hx, ?_, by omega⟩
              unfold par
              rw [if_pos h3, if_pos (by omega)]
              omega
            · obtain ⟨q, q1, q2⟩ := ex_up ok f _ j h e
              exact ⟨q, List.mem_append.2 (.inl (List.mem_append.2 (.inl q1))), q2⟩
          · by_cases e : j = x.right.toNat
            · refine ⟨i, by simp, x, hx, ?_, by omega⟩
              unfold par
              rw [if_pos h3, if_pos (show x.right = (j : Int) by omega)]
              omega
            · obtain ⟨q, q1, q2⟩ := ex_up ok f _ j h e
              exact ⟨q, List.mem_append.2 (.inl (List.mem_append.2 (.inr q1))), q2⟩
        · exact absurd (List.mem_singleton.1 h) hne
      · exact absurd (List.mem_singleton.1 h) hne
/-- Two under one node have none in common. -/
theorem ex_apart (ok : FormOk l) {f i : Nat} {x : Node} (hx : l[i]? = some x) (h3 : 3 ≤ x.op) : ∀ (n j : Nat), l.length - j ≤ n → j ∈ exN l f x.left.toNat → j ∈ exN l f x.right.toNat → False := by
  obtain ⟨a1, a2, a3, a4, _⟩ := nodeE_two (ok.node i x hx) h3
  have hi := (List.getElem?_eq_some_iff.1 hx).1
  have pl : 1 ≤ par x x.left.toNat := by unfold par; rw [if_pos h3, if_pos (by omega)]; omega
  have pr : 1 ≤ par x x.right.toNat := by unfold par; rw [if_pos h3, if_pos (show x.right = ((x.right.toNat : Nat) : Int) by omega)]; omega
  intro n
  induction n with
  | zero => intro j hn h; have := ex_le ok f _ j h; omega
  | succ n ih =>
    intro j hn h1 h2
    have l1 := ex_le ok f _ j h1
    have l2 := ex_le ok f _ j h2
    have hj : j < l.length - 1 := by omega
    by_cases e1 : j = x.left.toNat
    · by_cases e2 : j = x.right.toNat
      · have h4 := par_at (j := j) hx
        rw [par_one ok hj] at h4
        unfold par at h4
        rw [if_pos h3, if_pos (by omega), if_pos (by omega)] at h4
        omega
      · obtain ⟨k, k1, y, k2, k3, k4⟩ := ex_up ok f _ j h2 e2
        have := par_uniq ok hj hx k2 (by rw [e1]; exact pl) k3
        have := ex_le ok f _ k k1
        omega
    · obtain ⟨k, k1, y, k2, k3, k4⟩ := ex_up ok f _ j h1 e1
      by_cases e2 : j = x.right.toNat
      · have := par_uniq ok hj hx k2 (by rw [e2]; exact pr) k3
        have := ex_le ok f _ k k1
        omega
      · obtain ⟨k', q1, y', q2, q3, q4⟩ := ex_up ok f _ j h2 e2
        have := par_uniq ok hj k2 q2 k3 q3
        subst this
        exact ih k (by omega) k1 q1
theorem ex_nodup (ok : FormOk l) : ∀ (f i : Nat), (exN l f i).Nodup
  | 0, i => by simp [exN]
  | f + 1, i => by
    simp only [exN]
    split
    · simp
    · rename_i x hx
      split
      · rename_i h3
        obtain ⟨a1, a2, a3, a4, _⟩ := nodeE_two (ok.node i x hx) h3
        refine List.nodup_append.2 ⟨List.nodup_append.2 ⟨ex_nodup ok f _, ex_nodup ok f _, fun a ha b hb e => ?_⟩, by simp, fun a ha b hb e => ?_⟩
        · subst e
          exact ex_apart ok hx h3 _ a (Nat.le_refl _) ha hb
        · obtain rfl := List.mem_singleton.1 hb
          subst e
          rcases List.mem_append.1 ha with ha | ha
          · have := ex_le ok f _ a ha; omega
          · have := ex_le ok f _ a ha; omega
      · simp
theorem nodup_len : ∀ (n : Nat) (r : List Nat), r.Nodup → (∀ x ∈ r, x < n) → r.length ≤ n
  | 0, r, _, h => by
    cases r with
    | nil => simp
    | cons a r => exact absurd (h a (by simp)) (by omega)
  | n + 1, r, hn, h => by
    have h1 := nodup_len n (r.erase n) (hn.erase n) fun x hx => by
      have h2 := h x (List.mem_of_mem_erase hx)
      have h3 : x ≠ n := fun e => by
        subst e
        exact (List.Nodup.mem_erase_iff hn).1 hx |>.1 rfl
      omega
    by_cases hm : n ∈ r
    · rw [List.length_erase_of_mem hm] at h1
      omega
    · rw [List.erase_of_not_mem hm] at h1
      omega
theorem ex_len (ok : FormOk l) (f i : Nat) : (exN l f i).length ≤ l.length := nodup_len _ _ (ex_nodup ok f i) fun x hx => (ex_le ok f i x hx).2

end
end Ab
end

section
namespace Ab
open Go
set_option linter.unusedVariables false
set_option linter.unusedSimpArgs false

end Ab
end

section
namespace Ab
open Go
set_option linter.unusedVariables false
set_option linter.unusedSimpArgs false

def nmI (names : List ByteArray) (s : ByteArray) : Int := idxOf (fun y => decide (y = s)) names
section
variable {l : List Node} {names : List ByteArray} {cells : List Cell}
end
end Ab
end

section
namespace Ab
open Go
set_option linter.unusedVariables false
set_option linter.unusedSimpArgs false

end Ab
end
