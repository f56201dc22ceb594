/-
  Plain laws: to whom a formula refers.
-/
import Derived.Test.YtcabflannjeigaaDoorQFm
namespace Ab
open Go
set_option linter.unusedVariables false
set_option linter.unusedSimpArgs false

theorem bless_eq : ∀ (x y : List UInt8), Op.bytesLess x y = decide (x < y)
  | [], [] => by simp [Op.bytesLess]
  | _ :: _, [] => by simp [Op.bytesLess]
  | [], _ :: _ => by simp [Op.bytesLess]
  | a :: x, b :: y => by
    rw [Op.bytesLess, bless_eq x y]
    simp only [List.cons_lt_cons_iff]
    by_cases h1 : a < b <;> by_cases h2 : a = b <;> by_cases h3 : x < y <;> simp [h1, h2, h3]
theorem toL_eq (s : ByteArray) : s.toList = s.data.toList := ByteArray.toList_eq s
theorem l8_irrefl (x : List UInt8) : ¬ x < x := List.lt_irrefl x
theorem l8_trans {x y z : List UInt8} (h : x < y) (k : y < z) : x < z := List.lt_trans h k
theorem l8_le {x y : List UInt8} : x ≤ y ↔ x < y ∨ x = y := by
  refine ⟨fun h => ?_, fun h => ?_⟩
  · by_cases e : x = y
    · exact .inr e
    · exact .inl (Decidable.byContradiction fun hn => e (List.le_antisymm h (List.not_lt.1 hn)))
  · rcases h with h | rfl
    · exact List.le_of_lt h
    · exact List.le_refl x

/-- Two lists that rise strictly and have the same elements are the same. -/
theorem strict_ext : ∀ {as bs : List (List UInt8)}, as.Pairwise (· < ·) → bs.Pairwise (· < ·) → (∀ x, x ∈ as ↔ x ∈ bs) → as = bs
  | [], [], _, _, _ => rfl
  | [], b :: bs, _, _, h => absurd ((h b).2 (by simp)) (by simp)
  | a :: as, [], _, _, h => absurd ((h a).1 (by simp)) (by simp)
  | a :: as, b :: bs, ha, hb, h => by
    obtain ⟨ha1, ha2⟩ := List.pairwise_cons.1 ha
    obtain ⟨hb1, hb2⟩ := List.pairwise_cons.1 hb
    have e : a = b := by
      rcases List.mem_cons.1 ((h a).1 (by simp)) with e | hm
      · exact e
      · rcases List.mem_cons.1 ((h b).2 (by simp)) with e | hm2
        · exact e.symm
        · exact absurd (l8_trans (hb1 a hm) (ha1 b hm2)) (l8_irrefl b)
    subst e
    congr 1
    refine strict_ext ha2 hb2 fun x => ?_
    have hx := h x
    simp only [List.mem_cons] at hx
    refine ⟨fun hm => ?_, fun hm => ?_⟩
    · rcases hx.1 (.inr hm) with rfl | hm2
      · exact absurd (ha1 x hm) (l8_irrefl x)
      · exact hm2
    · rcases hx.2 (.inr hm) with rfl | hm2
      · exact absurd (hb1 x hm) (l8_irrefl x)
      · exact hm2

/-- Of a list that rises each once. -/
theorem comp_strict (zs : List (List UInt8)) (hz : zs.Pairwise (· ≤ ·)) : ∀ m, m ≤ zs.length → (Lib.compactUpTo zs.toArray m).Pairwise (· < ·) ∧ (∀ x, x ∈ Lib.compactUpTo zs.toArray m ↔ x ∈ zs.take m) ∧ ∀ k y, m = k + 1 → zs[k]? = some y → ∀ x ∈ Lib.compactUpTo zs.toArray m, x ≤ y := by
  intro m
  induction m with
  | zero => intro _; exact ⟨by simp [Lib.compactUpTo], by simp [Lib.compactUpTo], fun k y e => by omega⟩
  | succ m ih =>
    intro hm
    obtain ⟨i1, i2, i3⟩ := ih (by omega)
    have hg : zs[m]? = some zs[m] := List.getElem?_eq_getElem (by omega)
    have e1 : zs.toArray[m]! = zs[m] := by simp [getElem!_pos, show m < zs.length by omega]
    have ht : zs.take (m + 1) = zs.take m ++ [zs[m]] := by rw [List.take_add_one, hg]; rfl
    rw [Lib.compactUpTo_succ, e1]
    by_cases hk : Lib.keeps zs.toArray m = true
    · rw [if_pos hk]
      have hlt : ∀ x ∈ Lib.compactUpTo zs.toArray m, x < zs[m] := by
        intro x hx
        cases m with
        | zero => simp [Lib.compactUpTo] at hx
        | succ k =>
          have h1 := i3 k zs[k] rfl (List.getElem?_eq_getElem (by omega)) x hx
          have h2 : zs[k] ≤ zs[k + 1] := (List.pairwise_iff_getElem.1 hz) k (k + 1) (by omega) (by omega) (by omega)
          have e2 : zs.toArray[k]! = zs[k] := by simp [getElem!_pos, show k < zs.length by omega]
          have h3 : zs[k + 1] ≠ zs[k] := by
            unfold Lib.keeps at hk
            have := of_decide_eq_true hk
            rcases this with h | h
            · omega
            · rw [Nat.add_sub_cancel, e2, e1] at h
              exact h
          rcases l8_le.1 h2 with h2 | h2
          · rcases l8_le.1 h1 with h1 | rfl
            · exact l8_trans h1 h2
            · exact h2
          · exact absurd h2.symm h3
      refine ⟨List.pairwise_append.2 ⟨i1, by simp, fun x hx y hy => ?_⟩, fun x => ?_, fun k y e hy x hx => ?_⟩
      · obtain rfl := List.mem_singleton.1 hy
        exact hlt x hx
      · rw [ht, List.mem_append, List.mem_append, i2]
      · obtain rfl : k = m := by omega
        rw [hg] at hy
        cases hy
        rcases List.mem_append.1 hx with hx | hx
        · exact l8_le.2 (.inl (hlt x hx))
        · obtain rfl := List.mem_singleton.1 hx
          exact List.le_refl _
    · rw [if_neg hk, List.append_nil]
      cases m with
      | zero => exact absurd (Lib.keeps_lt_one _ 0 (by omega)) hk
      | succ k =>
        have e2 : zs.toArray[k]! = zs[k] := by simp [getElem!_pos, show k < zs.length by omega]
        have h3 : zs[k + 1] = zs[k] := by
          unfold Lib.keeps at hk
          have h := hk
          rw [decide_eq_true_eq] at h
          have h := not_or.1 h
          have := Decidable.not_not.1 h.2
          rw [Nat.add_sub_cancel, e2, e1] at this
          exact this
        refine ⟨i1, fun x => ?_, fun k' y e hy x hx => ?_⟩
        · rw [ht, List.mem_append, i2, List.mem_singleton]
          refine ⟨.inl, fun h => ?_⟩
          rcases h with h | rfl
          · exact h
          · rw [h3]
            exact List.mem_take_iff_getElem.2 ⟨k, by omega, rfl⟩
        · obtain rfl : k' = k + 1 := by omega
          rw [hg] at hy
          cases hy
          rw [h3]
          exact i3 k zs[k] rfl (List.getElem?_eq_getElem (by omega)) x hx
theorem sort8 (l : List (List UInt8)) : (l.mergeSort fun x y => decide (x ≤ y)).Pairwise (· ≤ ·) := by
  have h := List.pairwise_mergeSort (le := fun (x y : List UInt8) => decide (x ≤ y)) (fun a b c h1 h2 => by simp only [decide_eq_true_eq] at *; exact List.le_trans h1 h2) (fun a b => by simp only [Bool.or_eq_true, decide_eq_true_eq]; exact List.le_total a b) l
  exact h.imp fun h => by simpa using h
/-- The names that are sorted, each once. -/
theorem compS_sL (l : List ByteArray) : (sL (compS (sortS l))).Pairwise (· < ·) ∧ ∀ x, x ∈ sL (compS (sortS l)) ↔ x ∈ sL l := by
  have sb : ∀ z : List (List UInt8), sL (bL z) = z := by
    intro z
    unfold sL bL
    rw [List.map_map]
    conv => rhs; rw [← List.map_id z]
    exact List.map_congr_left fun s _ => by simp
  have e : sL (compS (sortS l)) = Lib.compact ((sL l).mergeSort fun x y => decide (x ≤ y)) := by
    unfold compS sortS
    rw [sb, sb]
  obtain ⟨h1, h2, _⟩ := comp_strict _ (sort8 (sL l)) _ (Nat.le_refl _)
  rw [e]
  unfold Lib.compact
  refine ⟨h1, fun x => ?_⟩
  rw [h2, List.take_length]
  exact (List.mergeSort_perm _ _).mem_iff

/-- Names that rise: one more, if it is not there. -/
def cntB (out : List ByteArray) (s : ByteArray) : Nat := (out.takeWhile fun a => Op.bytesLess a.toList s.toList).length
def insB (out : List ByteArray) (s : ByteArray) : List ByteArray := if out[cntB out s]? = some s then out else out.take (cntB out s) ++ [s] ++ out.drop (cntB out s)
theorem takeW {α : Type} (p : α → Bool) : ∀ (l : List α), (∀ x ∈ l.take (l.takeWhile p).length, p x = true) ∧ (∀ y, l[(l.takeWhile p).length]? = some y → p y = false) ∧ (l.takeWhile p).length ≤ l.length
  | [] => by simp
  | a :: l => by
    obtain ⟨h1, h2, h3⟩ := takeW p l
    cases hp : p a with
    | true =>
      simp only [List.takeWhile_cons, hp, if_true, List.length_cons, List.take_succ_cons, List.getElem?_cons_succ]
      refine ⟨fun x hx => ?_, h2, by omega⟩
      rcases List.mem_cons.1 hx with rfl | hx
      · exact hp
      · exact h1 x hx
    | false =>
      simp [List.takeWhile_cons, hp]
theorem sL_app (a b : List ByteArray) : sL (a ++ b) = sL a ++ sL b := by simp [sL]
theorem insB_ok {out : List ByteArray} {s : ByteArray} (h : (sL out).Pairwise (· < ·)) : (sL (insB out s)).Pairwise (· < ·) ∧ ∀ x, x ∈ sL (insB out s) ↔ x ∈ sL out ∨ x = s.data.toList := by
  obtain ⟨t1, t2, t3⟩ := takeW (fun a : ByteArray => Op.bytesLess a.toList s.toList) out
  have hin : ∀ {x}, x ∈ sL out ↔ ∃ b ∈ out, b.data.toList = x := by intro x; simp [sL]
  have hinj : ∀ {a b : ByteArray}, a.data.toList = b.data.toList → a = b := fun {a b} h => by
    obtain ⟨⟨a⟩⟩ := a; obtain ⟨⟨b⟩⟩ := b; simp at h; subst h; rfl
  unfold insB
  by_cases c : out[cntB out s]? = some s
  · rw [if_pos c]
    refine ⟨h, fun x => ⟨.inl, fun hx => ?_⟩⟩
    rcases hx with hx | rfl
    · exact hx
    · exact hin.2 ⟨s, List.mem_of_getElem? c, rfl⟩
  · rw [if_neg c]
    have ha : ∀ x ∈ sL (out.take (cntB out s)), x < s.data.toList := by
      intro x hx
      obtain ⟨b, hb, rfl⟩ : ∃ b ∈ out.take (cntB out s), b.data.toList = x := List.mem_map.1 hx
      have := t1 b hb
      rw [bless_eq, toL_eq, toL_eq] at this
      exact of_decide_eq_true this
    have hd : out = out.take (cntB out s) ++ out.drop (cntB out s) := (List.take_append_drop _ _).symm
    have hp : (sL (out.take (cntB out s)) ++ sL (out.drop (cntB out s))).Pairwise (· < ·) := by rw [← sL_app, ← hd]; exact h
    obtain ⟨p1, p2, p3⟩ := List.pairwise_append.1 hp
    have hb : ∀ x ∈ sL (out.drop (cntB out s)), s.data.toList < x := by
      intro x hx
      cases hdr : out.drop (cntB out s) with
      | nil => rw [hdr] at hx; simp [sL] at hx
      | cons y r =>
        have hy : out[cntB out s]? = some y := by rw [← List.head?_drop, hdr]; rfl
        have h1 := t2 y hy
        rw [bless_eq, toL_eq, toL_eq] at h1
        have h1 : ¬ y.data.toList < s.data.toList := of_decide_eq_false h1
        have hlt : s.data.toList < y.data.toList := by
          rcases l8_le.1 (List.not_lt.1 h1) with h | h
          · exact h
          · exact absurd (by rw [hy, hinj h]) c
        rw [hdr] at hx p2
        have e : sL (y :: r) = y.data.toList :: sL r := rfl
        rw [e] at hx p2
        rcases List.mem_cons.1 hx with rfl | hx
        · exact hlt
        · exact l8_trans hlt ((List.pairwise_cons.1 p2).1 x hx)
    rw [sL_app, sL_app]
    refine ⟨List.pairwise_append.2 ⟨List.pairwise_append.2 ⟨p1, by simp [sL], fun x hx y hy => ?_⟩, p2, fun x hx y hy => ?_⟩, fun x => ?_⟩
    · obtain rfl : y = s.data.toList := by simpa [sL] using hy
      exact ha x hx
    · rcases List.mem_append.1 hx with hx | hx
      · exact p3 x hx y hy
      · obtain rfl : x = s.data.toList := by simpa [sL] using hx
        exact hb y hy
    · rw [List.mem_append, List.mem_append]
      conv => rhs; rw [hd, sL_app, List.mem_append]
      have : x ∈ sL [s] ↔ x = s.data.toList := by simp [sL]
      rw [this]
      constructor
      · rintro ((h | h) | h)
        · exact .inl (.inl h)
        · exact .inr h
        · exact .inl (.inr h)
      · rintro ((h | h) | h)
        · exact .inl (.inl h)
        · exact .inr h
        · exact .inl (.inr h)

/-- To whom a formula refers, one by one; rising, each once. -/
def refL (l : List Node) : List ByteArray := (l.filter fun x => decide (x.op = 2)).map Node.name
def refsOf (l : List Node) : List ByteArray := compS (sortS (refL l))
def insL (l : List Node) : List ByteArray := l.foldl (fun out x => if x.op = 2 then insB out x.name else out) []
theorem insL_ok (l : List Node) : (sL (insL l)).Pairwise (· < ·) ∧ ∀ x, x ∈ sL (insL l) ↔ x ∈ sL (refL l) := by
  unfold insL
  have : ∀ (l : List Node) (out : List ByteArray), (sL out).Pairwise (· < ·) → (sL (l.foldl (fun out x => if x.op = 2 then insB out x.name else out) out)).Pairwise (· < ·) ∧ ∀ x, x ∈ sL (l.foldl (fun out x => if x.op = 2 then insB out x.name else out) out) ↔ x ∈ sL out ∨ x ∈ sL (refL l) := by
    intro l
    induction l with
    | nil => intro out h; exact ⟨h, fun x => by simp [refL, sL]⟩
    | cons y l ih =>
      intro out h
      rw [List.foldl_cons]
      by_cases c : y.op = 2
      · rw [if_pos c]
        obtain ⟨k1, k2⟩ := insB_ok (s := y.name) h
        obtain ⟨j1, j2⟩ := ih _ k1
        refine ⟨j1, fun x => ?_⟩
        rw [j2, k2]
        have : refL (y :: l) = y.name :: refL l := by simp [refL, c]
        rw [this]
        have e : sL (y.name :: refL l) = y.name.data.toList :: sL (refL l) := rfl
        rw [e, List.mem_cons, or_assoc]
      · rw [if_neg c]
        obtain ⟨j1, j2⟩ := ih _ h
        refine ⟨j1, fun x => ?_⟩
        rw [j2]
        have : refL (y :: l) = refL l := by simp [refL, c]
        rw [this]
  obtain ⟨h1, h2⟩ := this l [] (by simp [sL])
  exact ⟨h1, fun x => by rw [h2]; simp [sL]⟩
theorem insL_eq (l : List Node) : insL l = refsOf l := by
  obtain ⟨a1, a2⟩ := insL_ok l
  obtain ⟨b1, b2⟩ := compS_sL (refL l)
  have := strict_ext a1 b1 fun x => (a2 x).trans (b2 x).symm
  have := congrArg bL this
  rwa [bL_sL, bL_sL] at this
theorem refL_len (l : List Node) : (refL l).length ≤ l.length := by unfold refL; rw [List.length_map]; exact List.length_filter_le _ _
theorem refsOf_mem {l : List Node} {s : ByteArray} : s ∈ refsOf l ↔ ∃ x ∈ l, x.op = 2 ∧ x.name = s := by
  have hinj : ∀ {a b : ByteArray}, a.data.toList = b.data.toList → a = b := fun {a b} h => by
    obtain ⟨⟨a⟩⟩ := a; obtain ⟨⟨b⟩⟩ := b; simp at h; subst h; rfl
  have h := (compS_sL (refL l)).2 s.data.toList
  have m : ∀ (r : List ByteArray), s.data.toList ∈ sL r ↔ s ∈ r := fun r => by
    unfold sL
    rw [List.mem_map]
    exact ⟨fun ⟨b, hb, e⟩ => hinj e ▸ hb, fun h => ⟨s, h, rfl⟩⟩
  rw [m, m] at h
  unfold refsOf
  rw [h]
  simp only [refL, List.mem_map, List.mem_filter, decide_eq_true_eq]
  exact ⟨fun ⟨x, ⟨h1, h2⟩, h3⟩ => ⟨x, h1, h2, h3⟩, fun ⟨x, h1, h2, h3⟩ => ⟨x, ⟨h1, h2⟩, h3⟩⟩
theorem refsOf_len (l : List Node) : (refsOf l).length ≤ l.length := by
  unfold refsOf compS
  rw [bL_length]
  refine Nat.le_trans ?_ (refL_len l)
  unfold Lib.compact Lib.compactUpTo
  rw [List.length_map]
  refine Nat.le_trans (List.length_filter_le _ _) ?_
  rw [List.length_range, sL_length, sortS_length]
  exact Nat.le_refl _

theorem refL_app (a b : List Node) : refL (a ++ b) = refL a ++ refL b := by unfold refL; rw [List.filter_append, List.map_append]
theorem P245_eq (l : List Node) : P245 l = some (if formE l = 0 then (refsOf l, .nil) else ([], errOf (formE l))) := by
  simp only [P245, S245, P241_eq, bno_s, errOf_nil]
  by_cases h : formE l = 0
  · have hok := form_ok.1 h
    have hm := hok.most
    rw [if_pos h]
    simp only [h, decide_true, Bool.not_true, br_false]
    have hs := seq_loop (B := S245_L1 l) (fun i => (refL (l.take i), (i : Int))) l.length (fun i hi => by
      have hg := List.getElem?_eq_getElem hi
      have e4 : wi ((i : Int) + 1) = ((i + 1 : Nat) : Int) := by rw [wiid (by omega) (by omega)]; omega
      have et : l.take (i + 1) = l.take i ++ [l[i]] := by rw [List.take_add_one, hg]; rfl
      have hlen : (refL (l.take i)).length ≤ 30 := Nat.le_trans (refL_len _) (by rw [List.length_take]; omega)
      simp only [S245_L1]
      rw [br_dec, if_pos (by omega)]
      simp only [lookI_nat, hg, bno_s, et]
      by_cases c : l[i].op = 2
      · have er : refL (l.take i ++ [l[i]]) = refL (l.take i) ++ [l[i].name] := by rw [refL_app]; simp [refL, c]
        simp only [c, decide_true, br_true]
        rw [ck_pos (by unfold roomA; simp; omega), er]
        simp only [inlO_s, jn_l, e4]
        rfl
      · have er : refL (l.take i ++ [l[i]]) = refL (l.take i) := by rw [refL_app]; simp [refL, c]
        simp only [c, decide_false, br_false, inlO_s, jn_l, e4, er]
        rfl)
    have e0 : (([] : List ByteArray), (0 : Int)) = (refL (l.take 0), ((0 : Nat) : Int)) := rfl
    rw [lp_eq, e0, hs, lpO_dn (y := (refL (l.take l.length), ((l.length : Nat) : Int))) (by simp only [S245_L1]; rw [br_dec, if_neg (by omega)]; rfl), List.take_length]
    have hlen := refL_len l
    simp only [jn_l, P255, P256]
    rw [ck_pos (by unfold roomA; omega)]
    simp only [bno_s, sortS_length]
    rw [ck_pos trivial, ck_pos (by unfold roomA; omega)]
    rfl
  · rw [if_neg h]
    simp only [h, decide_false, Bool.not_false, br_true]
theorem P243_eq (l : List Node) (hl : l.length ≤ 1000000) : P243 l = some (refsOf l) := by
  have ilen : ∀ (r : List Node) (out : List ByteArray), (r.foldl (fun out x => if x.op = 2 then insB out x.name else out) out).length ≤ out.length + r.length := by
    intro r
    induction r with
    | nil => intro out; simp
    | cons y r ih =>
      intro out
      rw [List.foldl_cons]
      refine Nat.le_trans (ih _) ?_
      have : (if y.op = 2 then insB out y.name else out).length ≤ out.length + 1 := by
        split
        · unfold insB
          split
          · omega
          · simp; omega
        · omega
      simp only [List.length_cons]
      omega
  have ins_succ : ∀ {i : Nat} {x : Node}, l[i]? = some x → insL (l.take (i + 1)) = if x.op = 2 then insB (insL (l.take i)) x.name else insL (l.take i) := fun h => fold_take _ _ _ h
  have blen : ∀ i, (insL (l.take i)).length ≤ l.length := fun i => Nat.le_trans (ilen _ _) (by simp; omega)
  have hs := seq_loop (B := S243_L2 l) (fun i => (insL (l.take i), (i : Int))) l.length (fun i hi => by
    have hg := List.getElem?_eq_getElem hi
    have e4 : wi ((i : Int) + 1) = ((i + 1 : Nat) : Int) := by rw [wiid (by omega) (by omega)]; omega
    have hb := blen i
    simp only [S243_L2]
    rw [br_dec, if_pos (by omega)]
    simp only [lookI_nat, hg, bno_s, ins_succ hg]
    by_cases c : l[i].op = 2
    · simp only [c, not_true, decide_false, br_false, if_true]
      generalize hout : insL (l.take i) = out at hb
      obtain ⟨t1, t2, t3⟩ := takeW (fun a : ByteArray => Op.bytesLess a.toList l[i].name.toList) out
      have hc : cntB out l[i].name ≤ out.length := t3
      have hk := seq_loop (B := S243_L1 l (out, (i : Int))) (fun k => (k : Int)) (cntB out l[i].name) (fun k hk => by
        have hgk := List.getElem?_eq_getElem (l := out) (i := k) (by omega)
        have e4 : wi ((k : Int) + 1) = ((k + 1 : Nat) : Int) := by rw [wiid (by omega) (by omega)]; omega
        have ht : Op.bytesLess out[k].toList l[i].name.toList = true := t1 _ (List.mem_take_iff_getElem.2 ⟨k, by have h5 : k < (out.takeWhile fun a => Op.bytesLess a.toList l[i].name.toList).length := hk; omega, rfl⟩)
        simp only [S243_L1]
        rw [br_dec, if_pos (by omega)]
        simp only [lookI_nat, hgk, hg, bno_s, ht, inlO_s, jn_l, br_true, e4]
        rfl)
      have hdn : S243_L1 l (out, (i : Int)) ((cntB out l[i].name : Nat) : Int) = some (.dn ((cntB out l[i].name : Nat) : Int)) := by
        simp only [S243_L1]
        by_cases h1 : cntB out l[i].name < out.length
        · have hgk := List.getElem?_eq_getElem h1
          have ht : Op.bytesLess out[cntB out l[i].name].toList l[i].name.toList = false := t2 _ hgk
          rw [br_dec, if_pos (by omega)]
          simp only [lookI_nat, hgk, hg, bno_s, ht, inlO_s, jn_l, br_false]
          rfl
        · rw [br_dec, if_neg (by omega)]
          rfl
      rw [lp_eq, show (0 : Int) = ((0 : Nat) : Int) from rfl, hk, lpO_dn hdn]
      simp only [jn_l, insB]
      by_cases h1 : cntB out l[i].name < out.length
      · have hgk := List.getElem?_eq_getElem h1
        rw [br_dec, if_pos (by omega)]
        simp only [lookI_nat, hgk, hg, bno_s, inlO_s, jn_l, Option.some.injEq]
        by_cases h2 : out[cntB out l[i].name] = l[i].name
        · simp only [h2, decide_true, br_true, if_true, inlO_s, jn_l, e4]
          rfl
        · simp only [h2, decide_false, br_false, if_false]
          rw [ck_pos ⟨by omega, by omega, by omega⟩, ck_pos (by unfold roomA; simp; omega), ck_pos (by unfold roomA; simp; omega), ck_pos ⟨by omega, by omega, by omega⟩, ck_pos (by unfold roomA; simp; omega)]
          simp only [inlO_s, jn_l, e4]
          simp
          exact List.take_of_length_le (by simp)
      · have h2 : ¬ out[cntB out l[i].name]? = some l[i].name := by rw [List.getElem?_eq_none (by omega)]; simp
        rw [br_dec, if_neg (by omega)]
        simp only [inlO_s, jn_l, br_false, if_neg h2, lookI_nat, hg, bno_s]
        rw [ck_pos ⟨by omega, by omega, by omega⟩, ck_pos (by unfold roomA; simp; omega), ck_pos (by unfold roomA; simp; omega), ck_pos ⟨by omega, by omega, by omega⟩, ck_pos (by unfold roomA; simp; omega)]
        simp only [inlO_s, jn_l, e4]
        simp
        exact List.take_of_length_le (by simp)
    · simp only [c, not_false_eq_true, decide_true, br_true, inlO_s, jn_l, if_false, e4]
      rfl)
  have e0 : (([] : List ByteArray), (0 : Int)) = (insL (l.take 0), ((0 : Nat) : Int)) := rfl
  simp only [P243, S243]
  rw [lp_eq, e0, hs, lpO_dn (y := (insL (l.take l.length), ((l.length : Nat) : Int))) (by simp only [S243_L2]; rw [br_dec, if_neg (by omega)]; rfl), List.take_length]
  simp only [jn_l, insL_eq]
end Ab
