/-
  Plain laws: what the functions of package tallyref1 come to (names, dims, outlines, trees).
-/
import Derived.Test.YtchidgkpkhloeaaGreatDoorC3
import Derived.Test.YtchidgkpkhloeaaGreatDoorQT
namespace Ab
open Go
set_option linter.unusedVariables false
set_option linter.unusedSimpArgs false
theorem P97_eq (s : ByteArray) : P97 s = some (if nameBad s = true then 2 else 0) := by
  by_cases h1 : s = ⟨#[]⟩
  · subst h1; simp [P97, S97, nameBad]
  by_cases h2 : 8 < s.size
  · have : (8 : Int) < ((s.size : Nat) : Int) := by omega
    simp [P97, S97, nameBad, h1, h2, this]
  have h3 : ¬ (8 : Int) < ((s.size : Nat) : Int) := by omega
  have hsz : s.data.toList.length = s.size := rfl
  simp only [P97, S97, h1, h3, decide_false, br_false, inlO_s, jn_l]
  rw [any_loop (fun c : UInt8 => decide (c.toNat < 97) || decide (122 < c.toNat)) s.data.toList 2 0 (fun i y hy => ?_) (by rw [hsz]; simp [S97_L1])]
  · simp [nameBad, h1, h2]
  · have hi := (List.getElem?_eq_some_iff.1 hy).1
    have e : ((i : Nat) : Int) < ((s.size : Nat) : Int) := by omega
    simp only [S97_L1, e, decide_true, br_true, lookI_nat, hy, bno_s]
    rw [wiid (by omega) (by omega)]
    have e1 : ((y.toNat : Nat) : Int) < 97 ↔ y.toNat < 97 := by omega
    have e2 : 122 < ((y.toNat : Nat) : Int) ↔ 122 < y.toNat := by omega
    by_cases c1 : y.toNat < 97 <;> by_cases c2 : 122 < y.toNat <;> simp [e1, e2, c1, c2]
theorem P96_eq (d : Dim) (s : ByteArray) (h : d.members.length ≤ 9223372036854775807) : P96 d s = some (whereM d.members s) := by
  refine find_loop _ d.members (fun i y hy => ?_) (by simp [S96_L1])
  have hi := (List.getElem?_eq_some_iff.1 hy).1
  have e : (((i : Nat) : Int) < ((d.members.length : Nat) : Int)) := by omega
  simp only [S96_L1, lookI_nat, hy, bno_s, e, decide_true, br_true]
  rw [wiid (by omega) (by omega)]
  cases decide (y.name = s) <;> rfl
theorem where_lt {l : List Member} {i : Nat} {m : Member} (hi : l[i]? = some m) : whereM l m.name < i ↔ ((l.take i).any fun x => decide (x.name = m.name)) = true := by
  obtain ⟨hlt, rfl⟩ := List.getElem?_eq_some_iff.1 hi
  unfold whereM idxOf
  cases hf : l.findIdx? (fun x => decide (x.name = l[i].name)) with
  | none =>
    have := List.findIdx?_eq_none_iff.1 hf _ (List.getElem_mem hlt)
    simp at this
  | some k =>
    obtain ⟨hk, h1, h2⟩ := List.findIdx?_eq_some_iff_getElem.1 hf
    simp only [List.any_eq_true]
    constructor
    · intro h
      have hki : k < i := by have h' : (k : Int) < i := h; omega
      exact ⟨l[k], by rw [List.mem_take_iff_getElem]; exact ⟨k, by omega, rfl⟩, h1⟩
    · rintro ⟨x, hx, hn⟩
      rw [List.mem_take_iff_getElem] at hx
      obtain ⟨j, hj, rfl⟩ := hx
      show (k : Int) < i
      have : ¬ j < k := fun hjk => h2 j hjk hn
      omega
theorem P95_eq (d : Dim) : P95 d = some (dimErr d) := by
  simp only [P95, S95, P97_eq, bno_s]
  unfold dimErr
  by_cases h1 : nameBad d.name = true
  · simp [h1]
  rw [if_neg h1, if_neg h1]
  simp only [not_true, decide_false, br_false, inlO_s, br_inl, jn_l, cond_dec]
  by_cases h2 : d.solve < 0 ∨ 9 < d.solve
  · rw [if_pos h2]
    rcases h2 with h2 | h2
    · simp [h2]
    · by_cases h2' : d.solve < 0 <;> simp [h2, h2']
  rw [if_neg h2]
  have h2a : ¬ d.solve < 0 := fun h => h2 (.inl h)
  have h2b : ¬ 9 < d.solve := fun h => h2 (.inr h)
  simp only [h2a, h2b, if_false, decide_false, br_false]
  by_cases h3 : 12 < d.members.length
  · have : (12 : Int) < ((d.members.length : Nat) : Int) := by omega
    simp [h3, this]
  have h3' : ¬ (12 : Int) < ((d.members.length : Nat) : Int) := by omega
  rw [if_neg h3]
  simp only [h3', decide_false, br_false]
  by_cases h4 : d.members = []
  · simp [h4]
  have h4' : ¬ ((d.members.length : Nat) : Int) = 0 := by
    intro h
    exact h4 (List.length_eq_zero_iff.1 (by omega))
  rw [if_neg h4]
  simp only [h4', decide_false, br_false]
  have hlen : d.members.length ≤ 9223372036854775807 := by omega
  have := range_loop (B := S95_L1 P96 P97 d) d.members.length (fun i => match d.members[i]? with
    | some m => if memErr d.members i m = 0 then none else some ((i : Int), memErr d.members i m)
    | none => none) (fun i hi => by
      have e : ((i : Nat) : Int) < ((d.members.length : Nat) : Int) := by omega
      have hm := List.getElem?_eq_getElem hi
      generalize d.members[i] = m at hm
      have hw := where_lt hm
      simp only [S95_L1, e, decide_true, br_true, lookI_nat, hm, bno_s, P97_eq, P96_eq d _ hlen]
      rw [wiid (by omega) (by omega)]
      unfold memErr
      by_cases c1 : nameBad m.name = true
      · simp [c1]
      simp only [c1, if_false, not_true, decide_false, br_false]
      by_cases c2 : ((d.members.take i).any fun x => decide (x.name = m.name)) = true
      · have := hw.2 c2
        simp [this, c2]
      have c2' : ¬ whereM d.members m.name < i := fun h => c2 (hw.1 h)
      simp only [c2, c2', if_false, decide_false, br_false]
      by_cases c3 : m.parent < -1 ∨ (i : Int) ≤ m.parent
      · rw [if_pos c3]
        rcases c3 with c3 | c3
        · simp [c3]
        · by_cases c3' : m.parent < -1 <;> simp [c3, c3']
      rw [if_neg c3]
      have c3a : ¬ m.parent < -1 := fun h => c3 (.inl h)
      have c3b : ¬ (i : Int) ≤ m.parent := fun h => c3 (.inr h)
      simp only [c3a, c3b, decide_false, br_false, inlO_s, jn_l]
      have h4 : jn (σ := Bool) (α := LR Int (Int × Int)) (br (decide ((0 : Int) ≤ (Member.parent m))) (bno (lookI d.members (Member.parent m)) fun y5 => some (.inl (decide (¬ (Member.formula y5) = (⟨#[]⟩ : ByteArray))))) (some (.inl false))) = fun k => k (decide (0 ≤ m.parent ∧ hasF d.members m.parent = true)) := by
        funext k
        by_cases h : 0 ≤ m.parent
        · have hb : m.parent < d.members.length := by omega
          have hh : hasF d.members m.parent = decide (¬ (d.members[m.parent.toNat]'(by omega)).formula = ⟨#[]⟩) := by
            unfold hasF; rw [List.getElem?_eq_getElem (by omega)]
          rw [lookI_in h hb]
          simp [h, hh]
        · simp [h]
      rw [h4]
      by_cases h5 : 0 ≤ m.parent ∧ hasF d.members m.parent = true
      · rw [if_pos h5]; simp [h5]
      rw [if_neg h5]
      simp only [h5, decide_false, br_false]
      by_cases h6 : m.sign < -1 ∨ 1 < m.sign
      · rw [if_pos h6]
        rcases h6 with h6 | h6
        · simp [h6]
        · by_cases h6' : m.sign < -1 <;> simp [h6, h6']
      rw [if_neg h6]
      have h6a : ¬ m.sign < -1 := fun h => h6 (.inl h)
      have h6b : ¬ 1 < m.sign := fun h => h6 (.inr h)
      simp only [h6a, h6b, decide_false, br_false, inlO_s, jn_l]
      by_cases h7 : 100 < m.formula.size
      · have : (100 : Int) < ((m.formula.size : Nat) : Int) := by omega
        simp [h7, this]
      · have : ¬ (100 : Int) < ((m.formula.size : Nat) : Int) := by omega
        simp [h7, this]) (by simp [S95_L1])
  unfold lp
  rw [this]
  have e2 : ((List.range d.members.length).findSome? fun i => match d.members[i]? with
    | some m => if memErr d.members i m = 0 then none else some ((i : Int), memErr d.members i m)
    | none => none) = memsErr d.members := rfl
  rw [e2]
  cases memsErr d.members with
  | none => simp
  | some r => rfl
theorem P106_eq (o : List Dim) (h : o.length ≤ 9223372036854775807) : P106 o = some (sizeW o) := by
  have hs := seq_loop (B := S106_L1 o) (fun i => ((o.take i).foldl (fun n d => wi (n * ((d.members.length : Nat) : Int))) 1, (i : Int))) o.length (fun i hi => by
    have e : ((i : Nat) : Int) < ((o.length : Nat) : Int) := by omega
    simp only [S106_L1, e, decide_true, br_true, lookI_nat, List.getElem?_eq_getElem hi, bno_s, nxO_s]
    rw [wiid (n := (i : Int) + 1) (by omega) (by omega), fold_take _ _ _ (List.getElem?_eq_getElem hi)]; rfl)
  simp only [List.take_zero, List.foldl_nil, List.take_length] at hs
  have hs : lpO (S106_L1 o) (1, 0) = some (.inl (sizeW o, (o.length : Int))) := hs.trans (lpO_dn (by simp [S106_L1, sizeW]))
  simp only [P106, S106, lp_eq, hs, jn_l]
theorem P94_eq (o : List Dim) : P94 o = some (outErr o) := by
  simp only [P94, S94]
  unfold outErr
  by_cases h1 : 4 < o.length
  · have : (4 : Int) < ((o.length : Nat) : Int) := by omega
    simp [h1, this]
  have h1' : ¬ (4 : Int) < ((o.length : Nat) : Int) := by omega
  rw [if_neg h1]
  simp only [h1', decide_false, br_false]
  by_cases h2 : o = []
  · simp [h2]
  have h2' : ¬ ((o.length : Nat) : Int) = 0 := fun h => h2 (List.length_eq_zero_iff.1 (by omega))
  rw [if_neg h2]
  simp only [h2', decide_false, br_false]
  -- the names ahead
  have names : ∀ (i : Nat) (d : Dim), o[i]? = some d → ∀ (j : Nat), j ≤ i → ∃ k : Int, lpO (S94_L1 o (i : Int)) (if outIn (o.take j) d = true then 7 else 0, (j : Int)) = some (.inl (if outIn (o.take i) d = true then 7 else 0, k)) := by
    intro i d hi j hj
    have hlt := (List.getElem?_eq_some_iff.1 hi).1
    induction h : i - j generalizing j with
    | zero =>
      obtain rfl : j = i := by omega
      refine ⟨(j : Int), ?_⟩
      rw [lpO_dn (y := (if outIn (o.take j) d = true then 7 else 0, (j : Int)))]
      simp [S94_L1]
    | succ n ih =>
      have hjl : j < o.length := by omega
      have hj' := List.getElem?_eq_getElem hjl
      have hlt' : ((j : Nat) : Int) < ((i : Nat) : Int) := by omega
      have htk : outIn (o.take (j + 1)) d = (outIn (o.take j) d || decide (o[j].name = d.name)) := by
        unfold outIn
        rw [List.take_succ_eq_append_getElem hjl, List.any_append]
        simp
      by_cases hb : outIn (o.take j) d = true
      · refine ⟨(j : Int), ?_⟩
        have hbi : outIn (o.take i) d = true := by
          unfold outIn at hb ⊢
          rw [List.any_eq_true] at hb ⊢
          obtain ⟨x, hx, hn⟩ := hb
          refine ⟨x, ?_, hn⟩
          rw [List.mem_take_iff_getElem] at hx ⊢
          obtain ⟨q, hq, rfl⟩ := hx
          exact ⟨q, by omega, rfl⟩
        rw [if_pos hb, if_pos hbi, lpO_dn (y := (7, (j : Int)))]
        simp [S94_L1]
      · rw [if_neg hb]
        obtain ⟨k, hk⟩ := ih (j + 1) (by omega) (by omega)
        refine ⟨k, ?_⟩
        rw [lpO_nx (y := (if outIn (o.take (j + 1)) d = true then 7 else 0, ((j + 1 : Nat) : Int)))]
        · exact hk
        · simp only [S94_L1, hlt', decide_true, br_true, inlO_s, jn_l, lookI_nat, hj', hi, bno_s, htk]
          rw [wiid (by omega) (by omega)]
          have hb' : outIn (o.take j) d = false := by simpa using hb
          by_cases hn : o[j].name = d.name <;> simp [hn, hb']
  have := range_loop (B := S94_L2 P95 o) o.length (fun i => match o[i]? with
    | some d => if (dimErr d).2 = 0 then (if outIn (o.take i) d = true then some ((i : Int), (dimErr d).1, 7) else none) else some ((i : Int), (dimErr d).1, (dimErr d).2)
    | none => none) (fun i hi => by
      have e : ((i : Nat) : Int) < ((o.length : Nat) : Int) := by omega
      have hd := List.getElem?_eq_getElem hi
      simp only [S94_L2, e, decide_true, br_true, lookI_nat, hd, bno_s, P95_eq, lp_eq]
      rw [wiid (by omega) (by omega)]
      by_cases h : (dimErr o[i]).2 = 0
      · obtain ⟨k, hk⟩ := names i _ hd 0 (Nat.zero_le _)
        have e0 : outIn (o.take 0) o[i] = false := rfl
        rw [e0] at hk
        simp only [Bool.false_eq_true, if_false] at hk
        have hk' : lpO (S94_L1 o (i : Int)) (0, 0) = some (.inl (if outIn (o.take i) o[i] = true then 7 else 0, k)) := hk
        simp only [h, hk', jn_l]
        cases hb : outIn (o.take i) o[i] <;> simp
      · rw [lpO_dn (y := ((dimErr o[i]).2, 0)) (by
          have hb : decide ((dimErr o[i]).2 = 0) = false := by simpa using h
          simp only [S94_L1, hb, inlO_s, br_inl, jn_l]
          cases decide ((0 : Int) < (i : Int)) <;> simp)]
        simp [h]) (by simp [S94_L2])
  unfold lp
  rw [this]
  have e2 : ((List.range o.length).findSome? fun i => match o[i]? with
    | some d => if (dimErr d).2 = 0 then (if outIn (o.take i) d = true then some ((i : Int), (dimErr d).1, 7) else none) else some ((i : Int), (dimErr d).1, (dimErr d).2)
    | none => none) = dimsErr o := rfl
  rw [e2]
  cases dimsErr o with
  | none =>
    simp only [jn_l, P106_eq o (by omega), bno_s]
    by_cases h3 : 3000 < sizeW o <;> simp [h3]
  | some r => rfl
end Ab
