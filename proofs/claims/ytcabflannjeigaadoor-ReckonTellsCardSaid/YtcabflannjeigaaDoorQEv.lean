/-
  Plain laws: what a formula comes to.
-/
import Derived.Test.YtcabflannjeigaaDoorQRf
import Derived.Test.YtcabflannjeigaaDoorQRd
import Derived.Test.YtcabflannjeigaaDoorMRk
namespace Ab
open Go
set_option linter.unusedVariables false
set_option linter.unusedSimpArgs false

def nmI (names : List ByteArray) (s : ByteArray) : Int := idxOf (fun y => decide (y = s)) names
theorem P300_eq (names : List ByteArray) (s : ByteArray) (h : names.length ≤ 9223372036854775807) : P300 names s = some (nmI names s) := by
  refine find_loop _ names (fun i y hy => ?_) (by simp [S300_L1])
  have hi := (List.getElem?_eq_some_iff.1 hy).1
  have e : (((i : Nat) : Int) < ((names.length : Nat) : Int)) := by omega
  simp only [S300_L1, lookI_nat, hy, bno_s, e, decide_true, br_true]
  rw [wiid (by omega) (by omega)]
  by_cases c : y = s
  · simp [c]
  · have c' : ¬ s = y := fun e => c e.symm
    simp [c, c']
theorem P291_eq (names : List ByteArray) (s : ByteArray) (h : names.length ≤ 9223372036854775807) : P291 names s = some (nmI names s) := by
  refine find_loop _ names (fun i y hy => ?_) (by simp [S291_L1])
  have hi := (List.getElem?_eq_some_iff.1 hy).1
  have e : (((i : Nat) : Int) < ((names.length : Nat) : Int)) := by omega
  simp only [S291_L1, lookI_nat, hy, bno_s, e, decide_true, br_true]
  rw [wiid (by omega) (by omega)]
  by_cases c : y = s <;> simp [c]
theorem nmI_in {names : List ByteArray} {s : ByteArray} (h : s ∈ names) : ∃ i : Nat, nmI names s = (i : Int) ∧ i < names.length := by
  unfold nmI idxOf
  cases hf : names.findIdx? (fun y => decide (y = s)) with
  | none =>
    have := List.findIdx?_eq_none_iff.1 hf s h
    simp at this
  | some i => exact ⟨i, rfl, (List.findIdx?_eq_some_iff_getElem.1 hf).1⟩
theorem nmI_neg {names : List ByteArray} {s : ByteArray} : nmI names s < 0 ↔ s ∉ names := by
  unfold nmI
  rw [idxOf_neg, ← Bool.not_eq_true, List.any_eq_true]
  simp
def hasB (names : List ByteArray) (s : ByteArray) : Bool := names.any fun y => decide (y = s)
theorem hasB_mem {names : List ByteArray} {s : ByteArray} : hasB names s = true ↔ s ∈ names := by simp [hasB]
theorem P297_eq (names : List ByteArray) (s : ByteArray) (h : names.length ≤ 9223372036854775807) : P297 names s = some (hasB names s) := by
  simp only [P297, S297, P300_eq names s h, bno_s]
  congr 1
  exact any_idx _ _

/-- The cell of a node, by the cells of those ahead of it. -/
def cellN (names : List ByteArray) (cells out : List Cell) (x : Node) : Cell :=
  if x.op = 1 then cellOf x.n
  else if x.op = 2 then cells.getD (nmI names x.name).toNat ⟨0, 0⟩
  else if x.op = 3 then cplus (out.getD x.left.toNat ⟨0, 0⟩) (out.getD x.right.toNat ⟨0, 0⟩) 1
  else if x.op = 4 then cplus (out.getD x.left.toNat ⟨0, 0⟩) (out.getD x.right.toNat ⟨0, 0⟩) (-1)
  else if x.op = 5 then ctimes (out.getD x.left.toNat ⟨0, 0⟩) (out.getD x.right.toNat ⟨0, 0⟩)
  else cover (out.getD x.left.toNat ⟨0, 0⟩) (out.getD x.right.toNat ⟨0, 0⟩)
/-- All nodes' cells, one by one. -/
def evL (l : List Node) (names : List ByteArray) (cells : List Cell) (k : Nat) : List Cell := (l.take k).foldl (fun out x => out ++ [cellN names cells out x]) []
section
variable {l : List Node} {names : List ByteArray} {cells : List Cell}
theorem evL_succ {i : Nat} {x : Node} (h : l[i]? = some x) : evL l names cells (i + 1) = evL l names cells i ++ [cellN names cells (evL l names cells i) x] := fold_take _ _ _ h
theorem evL_len : ∀ (k : Nat), k ≤ l.length → (evL l names cells k).length = k
  | 0, _ => rfl
  | k + 1, h => by rw [evL_succ (List.getElem?_eq_getElem (by omega)), List.length_append, evL_len k (by omega)]; rfl
theorem evL_pre : ∀ (m k j : Nat), j < k → k + m ≤ l.length → (evL l names cells (k + m)).getD j ⟨0, 0⟩ = (evL l names cells k).getD j ⟨0, 0⟩
  | 0, k, j, _, _ => rfl
  | m + 1, k, j, hj, h => by
    rw [← Nat.add_assoc, evL_succ (List.getElem?_eq_getElem (by omega)), ← evL_pre m k j hj (by omega)]
    simp only [List.getD_eq_getElem?_getD]
    rw [List.getElem?_append_left (by rw [evL_len _ (by omega)]; omega)]
theorem evL_at {i : Nat} {x : Node} (h : l[i]? = some x) (k : Nat) (hk : i < k) (hl : k ≤ l.length) : (evL l names cells k).getD i ⟨0, 0⟩ = cellN names cells (evL l names cells i) x := by
  obtain ⟨m, rfl⟩ : ∃ m, k = (i + 1) + m := ⟨k - (i + 1), by omega⟩
  rw [evL_pre m (i + 1) i (by omega) hl, evL_succ h]
  simp only [List.getD_eq_getElem?_getD]
  rw [List.getElem?_append_right (by rw [evL_len _ (by omega)]; omega), evL_len _ (by omega)]
  simp
theorem cellOf_in (n : Int) : within (cellOf n).n = true := by
  unfold cellOf
  split
  · assumption
  · rfl
theorem cellN_in (hc : ∀ c ∈ cells, within c.n = true) (out : List Cell) (x : Node) : within (cellN names cells out x).n = true := by
  have h0 : within 0 = true := rfl
  unfold cellN
  split
  · exact cellOf_in _
  · split
    · rw [List.getD_eq_getElem?_getD]
      cases h : cells[(nmI names x.name).toNat]? with
      | none => exact h0
      | some c => exact hc c (List.mem_of_getElem? h)
    · have hp : ∀ a b s, within (cplus a b s).n = true := by
        intro a b s
        unfold cplus
        repeat' split
        all_goals first | exact h0 | exact cellOf_in _
      split
      · exact hp _ _ _
      · split
        · exact hp _ _ _
        · split
          · unfold ctimes
            repeat' split
            all_goals first | exact h0 | exact cellOf_in _
          · unfold cover
            repeat' split
            all_goals first | exact h0 | exact cellOf_in _
theorem evL_in (hc : ∀ c ∈ cells, within c.n = true) : ∀ (k : Nat), k ≤ l.length → ∀ j, within ((evL l names cells k).getD j ⟨0, 0⟩).n = true
  | 0, _, j => rfl
  | k + 1, h, j => by
    rw [evL_succ (List.getElem?_eq_getElem (by omega))]
    simp only [List.getD_eq_getElem?_getD]
    by_cases hj : j < k
    · rw [List.getElem?_append_left (by rw [evL_len _ (by omega)]; omega)]
      have := evL_in hc k (by omega) j
      rw [List.getD_eq_getElem?_getD] at this
      exact this
    · rw [List.getElem?_append_right (by rw [evL_len _ (by omega)]; omega), evL_len _ (by omega)]
      by_cases e : j = k
      · subst e
        simpa using cellN_in hc _ _
      · rw [List.getElem?_eq_none (by simp; omega)]
        rfl

/-- What the program reckons. -/
theorem P298_eq (ok : FormOk l) (hn : names.length ≤ 9223372036854775807) (hlen : names.length = cells.length) (hc : ∀ c ∈ cells, within c.n = true) (hr : ∀ x ∈ l, x.op = 2 → x.name ∈ names) :
    P298_299 l (cells, names) = some ((evL l names cells l.length).getD (l.length - 1) ⟨0, 0⟩) := by
  have hpos := ok.pos
  have hmost := ok.most
  simp only [P298_299, S298_299]
  rw [ck_pos ⟨by omega, Int.le_refl _, by unfold roomA; omega⟩]
  have hs := seq_loop (B := S298_299_L1 P299 P33 P34 P35 P8 l (cells, names)) (fun i => ((i : Int), evL l names cells i ++ List.replicate (l.length - i) (Cell.mk 0 0))) l.length (fun i hi => by
    have hg := List.getElem?_eq_getElem hi
    have hE := evL_len (l := l) (names := names) (cells := cells) i (by omega)
    have hnode := ok.node i _ hg
    have hop := nodeE_op hnode
    have e4 : wi ((i : Int) + 1) = ((i + 1 : Nat) : Int) := by rw [wiid (by omega) (by omega)]; omega
    have hL : (evL l names cells i ++ List.replicate (l.length - i) (Cell.mk 0 0)).length = l.length := by rw [List.length_append, hE, List.length_replicate]; omega
    have hck : 0 ≤ (i : Int) ∧ (i : Int) < (((evL l names cells i ++ List.replicate (l.length - i) (Cell.mk 0 0)).length : Nat) : Int) := ⟨by omega, by rw [hL]; omega⟩
    have hat : (evL l names cells i ++ List.replicate (l.length - i) (Cell.mk 0 0))[i]? = some ⟨0, 0⟩ := by
      have hle : (evL l names cells i).length ≤ i := by omega
      rw [List.getElem?_append_right hle, hE, Nat.sub_self, List.getElem?_replicate]
      rw [if_pos (by omega)]
    have hset : ∀ c : Cell, (evL l names cells i ++ List.replicate (l.length - i) (Cell.mk 0 0)).set i c = evL l names cells i ++ [c] ++ List.replicate (l.length - (i + 1)) (Cell.mk 0 0) := by
      intro c
      obtain ⟨m, hm⟩ : ∃ m, l.length - i = m + 1 := ⟨l.length - i - 1, by omega⟩
      have hle : (evL l names cells i).length ≤ i := by omega
      rw [List.set_append_right _ _ hle, hE, Nat.sub_self, hm, List.replicate_succ, List.set_cons_zero, List.append_assoc, show l.length - (i + 1) = m by omega]
      rfl
    have get : ∀ a : Int, 0 ≤ a → a < i → (0 ≤ a ∧ a < (((evL l names cells i ++ List.replicate (l.length - i) (Cell.mk 0 0)).length : Nat) : Int)) ∧ (evL l names cells i ++ List.replicate (l.length - i) (Cell.mk 0 0))[a.toNat]? = some ((evL l names cells i).getD a.toNat ⟨0, 0⟩) := by
      intro a h0 h1
      refine ⟨⟨h0, by rw [hL]; omega⟩, ?_⟩
      rw [List.getElem?_append_left (by omega), List.getD_eq_getElem?_getD, List.getElem?_eq_getElem (by omega)]
      rfl
    rw [evL_succ hg]
    simp only [S298_299_L1]
    rw [br_dec, if_pos (by omega)]
    simp only [lookI_nat, hg, bno_s]
    generalize hx : l[i] = x at hg hnode hop
    have hmem : x ∈ l := List.mem_of_getElem? hg
    by_cases c1 : x.op = 1
    · simp only [c1, decide_true, br_true, P8_eq, bno_s]
      rw [ck_pos hck, Int.toNat_natCast, hat]
      simp only [bno_s, hset, inlO_s, jn_l, e4, cellN, c1, if_true]
      rfl
    by_cases c2 : x.op = 2
    · obtain ⟨k, hk1, hk2⟩ := nmI_in (hr x hmem c2)
      have hcell : lookI cells (nmI names x.name) = some (cells.getD (nmI names x.name).toNat ⟨0, 0⟩) := by
        rw [hk1, lookI_nat, Int.toNat_natCast, List.getD_eq_getElem?_getD, List.getElem?_eq_getElem (by omega)]
        rfl
      simp only [c1, c2, decide_true, decide_false, br_true, br_false, P299, S299, P300_eq names _ hn, bno_s, hcell]
      rw [ck_pos hck, Int.toNat_natCast, hat]
      simp only [bno_s, hset, inlO_s, jn_l, e4, cellN, c1, c2, if_true, if_false, decide_false, br_false]
      simp
    have d1 : decide (x.op = 1) = false := decide_eq_false c1
    have d2 : decide (x.op = 2) = false := decide_eq_false c2
    obtain ⟨a1, a2, a3, a4, _⟩ := nodeE_two hnode (by omega)
    obtain ⟨g1, g2⟩ := get x.left a1 a2
    obtain ⟨g3, g4⟩ := get x.right a3 a4
    have w1 := evL_in (l := l) (names := names) hc i (by omega) x.left.toNat
    by_cases c3 : x.op = 3
    · simp only [d1, d2, decide_eq_true c3, br_true, br_false]
      rw [ck_pos g1, g2]
      simp only [bno_s]
      rw [ck_pos g3, g4]
      simp only [bno_s, P33_eq]
      rw [ck_pos hck, Int.toNat_natCast, hat]
      simp [hset, inlO_s, jn_l, e4, cellN, c1, c2, c3]
    by_cases c4 : x.op = 4
    · simp only [d1, d2, decide_eq_false c3, decide_eq_true c4, br_true, br_false]
      rw [ck_pos g1, g2]
      simp only [bno_s]
      rw [ck_pos g3, g4]
      simp only [bno_s, P33_eq]
      rw [ck_pos hck, Int.toNat_natCast, hat]
      simp [hset, inlO_s, jn_l, e4, cellN, c1, c2, c3, c4]
    by_cases c5 : x.op = 5
    · simp only [d1, d2, decide_eq_false c3, decide_eq_false c4, decide_eq_true c5, br_true, br_false]
      rw [ck_pos g1, g2]
      simp only [bno_s]
      rw [ck_pos g3, g4]
      simp only [bno_s, P34_eq _ w1]
      rw [ck_pos hck, Int.toNat_natCast, hat]
      simp [hset, inlO_s, jn_l, e4, cellN, c1, c2, c3, c4, c5]
    · simp only [d1, d2, decide_eq_false c3, decide_eq_false c4, decide_eq_false c5, br_true, br_false]
      rw [ck_pos g1, g2]
      simp only [bno_s]
      rw [ck_pos g3, g4]
      simp only [bno_s, P35_eq]
      rw [ck_pos hck, Int.toNat_natCast, hat]
      simp [hset, inlO_s, jn_l, e4, cellN, c1, c2, c3, c4, c5])
  have e0 : ((0 : Int), List.replicate (Int.toNat ((l.length : Nat) : Int)) (Cell.mk (0 : Int) (0 : Int))) = (((0 : Nat) : Int), evL l names cells 0 ++ List.replicate (l.length - 0) (Cell.mk 0 0)) := rfl
  have e5 : wi (((l.length : Nat) : Int) - 1) = ((l.length - 1 : Nat) : Int) := by rw [wiid (by omega) (by omega)]; omega
  rw [lp_eq, e0, hs, lpO_dn (y := (((l.length : Nat) : Int), evL l names cells l.length ++ List.replicate (l.length - l.length) (Cell.mk 0 0))) (by simp only [S298_299_L1]; rw [br_dec, if_neg (by omega)]; rfl)]
  simp only [jn_l, e5, Nat.sub_self, List.replicate_zero, List.append_nil]
  have hE := evL_len (l := l) (names := names) (cells := cells) l.length (Nat.le_refl _)
  rw [ck_pos ⟨by omega, by rw [hE]; omega⟩, Int.toNat_natCast, List.getD_eq_getElem?_getD, List.getElem?_eq_getElem (by omega)]
  rfl

/-- What the document reckons. -/
theorem P292n_eq (ok : FormOk l) (hn : names.length ≤ 9223372036854775807) (hlen : names.length = cells.length) (hc : ∀ c ∈ cells, within c.n = true) (hr : ∀ x ∈ l, x.op = 2 → x.name ∈ names) :
    ∀ (f i : Nat), i < f → i < l.length → P292n f l (i : Int) names cells = some ((evL l names cells l.length).getD i ⟨0, 0⟩) := by
  intro f
  induction f with
  | zero => intro i h; omega
  | succ f ih =>
    intro i hif hil
    have hg := List.getElem?_eq_getElem hil
    have hnode := ok.node i _ hg
    have hop := nodeE_op hnode
    show S292 P146 P147 P148 P150 P291 (P292n f) l (i : Int) names cells = _
    rw [evL_at hg l.length hil (Nat.le_refl _)]
    simp only [S292, lookI_nat, hg, bno_s]
    generalize hx : l[i] = x at hg hnode hop
    have hmem : x ∈ l := List.mem_of_getElem? hg
    by_cases c1 : x.op = 1
    · simp [c1, P150_eq, cellN]
    by_cases c2 : x.op = 2
    · obtain ⟨k, hk1, hk2⟩ := nmI_in (hr x hmem c2)
      have hcell : lookI cells (nmI names x.name) = some (cells.getD (nmI names x.name).toNat ⟨0, 0⟩) := by
        rw [hk1, lookI_nat, Int.toNat_natCast, List.getD_eq_getElem?_getD, List.getElem?_eq_getElem (by omega)]
        rfl
      simp only [c1, c2, decide_true, decide_false, br_true, br_false, P291_eq names _ hn, bno_s, hcell, cellN, if_true, if_false]
      simp
    obtain ⟨a1, a2, a3, a4, _⟩ := nodeE_two hnode (by omega)
    have get : ∀ a : Int, 0 ≤ a → a < i → P292n f l a names cells = some ((evL l names cells i).getD a.toNat ⟨0, 0⟩) := by
      intro a h0 h1
      obtain ⟨n, rfl⟩ := Int.eq_ofNat_of_zero_le h0
      rw [ih n (by omega) (by omega), Int.toNat_natCast]
      obtain ⟨m, hm⟩ : ∃ m, l.length = i + m := ⟨l.length - i, by omega⟩
      have := evL_pre (l := l) (names := names) (cells := cells) m i n (by omega) (by omega)
      rw [← hm] at this
      rw [this]
    have w1 := evL_in (l := l) (names := names) hc i (by omega) x.left.toNat
    have w2 := evL_in (l := l) (names := names) hc i (by omega) x.right.toNat
    simp only [c1, c2, decide_false, br_false, get _ a1 a2, get _ a3 a4, bno_s]
    by_cases c3 : x.op = 3
    · simp [c3, P146_eq, cellN]
    by_cases c4 : x.op = 4
    · simp [c4, P146_eq, cellN]
    by_cases c5 : x.op = 5
    · simp only [decide_eq_false c3, decide_eq_false c4, decide_eq_true c5, br_true, br_false, P147_eq w1 w2, bno_s]
      simp [c5, cellN]
    · simp only [decide_eq_false c3, decide_eq_false c4, decide_eq_false c5, br_false, P148_eq w1 w2, bno_s]
      simp [c1, c2, c3, c4, c5, cellN]
end
end Ab
