/-
  Plain law: ReckonSwaps answers true.
-/
import Derived.Test.YtcabflannjeigaaDoorW288
import Derived.Test.YtcabflannjeigaaDoorC8
import Derived.Test.YtcabflannjeigaaDoorLG
namespace Ab
open Go
set_option linter.unusedVariables false
set_option linter.unusedSimpArgs false

theorem cellOf_good (n : Int) : ¬ badC (cellOf n) := by
  unfold cellOf
  split
  · rename_i h
    simp [badC, h]
  · simp [badC, within]
theorem zero_good (k : Int) (h : k = 0 ∨ k = 2) : ¬ badC ⟨k, 0⟩ := by
  rcases h with rfl | rfl <;> simp [badC, within]
theorem cplus_good (a b : Cell) (s : Int) : ¬ badC (cplus a b s) := by
  unfold cplus
  repeat' split
  all_goals first | exact zero_good _ (.inr rfl) | exact zero_good _ (.inl rfl) | exact cellOf_good _
theorem ctimes_good (a b : Cell) : ¬ badC (ctimes a b) := by
  unfold ctimes
  repeat' split
  all_goals first | exact zero_good _ (.inr rfl) | exact zero_good _ (.inl rfl) | exact cellOf_good _
theorem cover_good (a b : Cell) : ¬ badC (cover a b) := by
  unfold cover
  repeat' split
  all_goals first | exact zero_good _ (.inr rfl) | exact zero_good _ (.inl rfl) | exact cellOf_good _
theorem val_good {names : List ByteArray} {cells : List Cell} (hc : ∀ c ∈ cells, ¬ badC c) : ∀ e : Fx, ¬ badC (e.val names cells)
  | .num n => cellOf_good n
  | .ref s => by
    simp only [Fx.val, List.getD_eq_getElem?_getD]
    cases h : cells[(nmI names s).toNat]? with
    | none => exact zero_good 0 (.inl rfl)
    | some c => exact hc c (List.mem_of_getElem? h)
  | .bin o a b => by
    simp only [Fx.val]
    repeat' split
    · exact cplus_good _ _ _
    · exact cplus_good _ _ _
    · exact ctimes_good _ _
    · exact cover_good _ _
/-- Swapped a tree comes to the same. -/
theorem val_sw {names : List ByteArray} {cells : List Cell} (hc : ∀ c ∈ cells, ¬ badC c) : ∀ e : Fx, e.sw.val names cells = e.val names cells
  | .num _ => rfl
  | .ref _ => rfl
  | .bin o a b => by
    have h1 := val_sw (names := names) hc a
    have h2 := val_sw (names := names) hc b
    have g1 := val_good (names := names) hc a
    have g2 := val_good (names := names) hc b
    by_cases c : o = 3 ∨ o = 5
    · simp only [Fx.sw, if_pos c, Fx.val, h1, h2]
      rcases c with rfl | rfl
      · exact plus_comm _ _ g2 g1
      · simp only [show ¬ (5 : Int) = 3 by decide, show ¬ (5 : Int) = 4 by decide, if_false, if_true]
        exact times_comm _ _ g2 g1
    · simp only [Fx.sw, if_neg c, Fx.val, h1, h2]
/-- Without refs it comes to the same whatever there is. -/
theorem val_const (n1 n2 : List ByteArray) (c1 c2 : List Cell) : ∀ e : Fx, (∀ s, s ∉ e.refs) → e.val n1 c1 = e.val n2 c2
  | .num _, _ => rfl
  | .ref s, h => absurd (List.mem_singleton.2 rfl) (h s)
  | .bin o a b, h => by
    have h1 := val_const n1 n2 c1 c2 a fun s hs => h s (List.mem_append.2 (.inl hs))
    have h2 := val_const n1 n2 c1 c2 b fun s hs => h s (List.mem_append.2 (.inr hs))
    simp only [Fx.val, h1, h2]
theorem no_refs {l : List Node} (h : ∀ s, s ∉ refsOf l) : refsOf l = [] := List.eq_nil_iff_forall_not_mem.2 h
theorem valF_nil {l : List Node} (ok : FormOk l) (h : refsOf l = []) : valF l [] [] = 0 := by
  unfold valF
  rw [form_ok.2 ok, h]
  rfl
theorem P293_tree {l : List Node} (ok : FormOk l) {e : Fx} (h : Tr l e (l.length - 1)) (hf : e.Fine) (names : List ByteArray) (cells : List Cell) (hn : names.length ≤ 9223372036854775807) (hc : cells.length ≤ 9223372036854775807) :
    P293 l names cells = some (if valF l names cells = 0 then (e.val names cells, .nil) else (⟨0, 0⟩, errOf (valF l names cells))) := by
  rw [P293_eq l names cells hn hc, val_eq names cells e _ _ h hf (by have := ok.pos; omega) (Nat.le_refl _)]
theorem valF_cells {l : List Node} {names : List ByteArray} {cells : List Cell} (h : valF l names cells = 0) : ∀ c ∈ cells, ¬ badC c := by
  unfold valF at h
  by_cases h0 : formE l = 0
  rotate_left
  · rw [if_pos h0] at h; exact absurd h h0
  rw [if_neg (by simpa using h0)] at h
  split at h
  · cases h
  split at h
  · cases h
  rename_i h2
  intro c hc
  obtain ⟨i, hi, rfl⟩ := List.getElem_of_mem hc
  rw [Bool.not_eq_true] at h2
  have := List.any_eq_false.1 h2 i (List.mem_range.2 hi)
  have hnb : ¬ badC (cells.getD i ⟨0, 0⟩) := fun hb => this (decide_eq_true hb)
  have e : cells.getD i ⟨0, 0⟩ = cells[i] := by rw [List.getD_eq_getElem?_getD, List.getElem?_eq_getElem hi]; rfl
  rw [e] at hnb
  exact hnb

theorem p288 (l : List Node) (hl : Lst Node.gd l) (names : List ByteArray) (hn : Lst Str names) (cells : List Cell) (hc : Lst Cell.gd cells) : P288 l names cells = some true := by
  have hn1 := hn.1
  have hc1 := hc.1
  have e0 : P293 [Node.mk (1 : Int) (2 : Int) (⟨#[]⟩ : ByteArray) (0 : Int) (0 : Int), Node.mk (1 : Int) (3 : Int) (⟨#[]⟩ : ByteArray) (0 : Int) (0 : Int), Node.mk (5 : Int) (0 : Int) (⟨#[]⟩ : ByteArray) (0 : Int) (1 : Int)] [] [] = some (⟨1, 6⟩, .nil) := by
    have hf : Fx.Fine (.bin 5 (.num 2) (.num 3)) := ⟨by decide, by decide, ⟨by decide, by decide⟩, ⟨by decide, by decide⟩⟩
    have ok : FormOk ((Fx.bin 5 (.num 2) (.num 3)).po 0) := po_ok hf (by decide)
    have ht := po_tr (.bin 5 (.num 2) (.num 3))
    have hv := valF_nil ok (no_refs fun s hs => by
      have := (refs_mem ok ht hf s).1 hs
      simp [Fx.refs] at this)
    have := P293_tree ok ht hf [] [] (by simp) (by simp)
    rw [if_pos hv] at this
    exact this.trans (by decide)
  simp only [P288, S288, e0, bno_s, P295_eq]
  simp only [show Err.isNil .nil = true from rfl, Bool.not_true, br_false, not_true, decide_false, inlO_s, jn_l]
  by_cases h0 : formE l = 0
  rotate_left
  · rw [if_neg h0]
    simp only [errOf_nil, decide_eq_false h0, Bool.not_false, br_true]
  rw [if_pos h0]
  have ok := form_ok.1 h0
  obtain ⟨e, ht, hf⟩ := tr_root ok
  have hx := swL_eq ok ht hf
  have hsz := tr_sz ok ht hf
  have hm := ok.most
  have hf2 := sw_fine hf
  have okx : FormOk (swL l) := by rw [hx]; exact po_ok hf2 (by rw [sw_sz]; omega)
  have htx : Tr (swL l) e.sw ((swL l).length - 1) := by rw [hx]; exact po_tr _
  have hy : swL (swL l) = e.po 0 := by rw [swL_eq okx htx hf2, sw_sw]
  have oky : FormOk (swL (swL l)) := by rw [hy]; exact po_ok hf (by omega)
  have hty : Tr (swL (swL l)) e ((swL (swL l)).length - 1) := by rw [hy]; exact po_tr _
  simp only [show Err.isNil .nil = true from rfl, Bool.not_true, br_false, form_ok.2 okx, if_true, P244_ok ok ht hf, P244_ok oky hty hf, P296_eq, h0, bno_s, not_true, decide_false, inlO_s, jn_l]
  have hr := valF_same ok okx ht htx hf hf2 (fun s => (sw_refs e s).symm) names cells
  rw [P293_tree ok ht hf names cells hn1 hc1, P293_tree okx htx hf2 names cells hn1 hc1, P293_tree ok ht hf [] [] (by simp) (by simp), ← hr]
  simp only [bno_s]
  by_cases hv : valF l names cells = 0
  · simp only [if_pos hv, val_sw (valF_cells hv) e]
    simp only [show Err.isNil .nil = true from rfl, not_true, decide_false, br_false, decide_true, Bool.and_self, Bool.not_true, inlO_s, jn_l]
    by_cases hz : (refsOf l).length = 0
    · have hz' := List.eq_nil_of_length_eq_zero hz
      rw [if_pos (valF_nil ok hz'), val_const [] names [] cells e fun s hs => by
        have := (refs_mem ok ht hf s).2 hs
        rw [hz'] at this
        simp at this]
      simp only [decide_eq_true hz, show Err.isNil .nil = true from rfl, Bool.not_true, br_false, br_true, decide_true, Bool.and_self, inlO_s, jn_l]
    · simp only [decide_eq_false hz, Bool.not_false, br_true, inlO_s, jn_l]
  · simp only [if_neg hv, errOf_nil, decide_eq_false hv]
    simp only [not_true, decide_false, br_false, decide_true, Bool.and_self, Bool.not_true, inlO_s, jn_l]
    by_cases hz : (refsOf l).length = 0
    · have hz' := List.eq_nil_of_length_eq_zero hz
      rw [if_pos (valF_nil ok hz')]
      simp only [decide_eq_true hz, show Err.isNil .nil = true from rfl, Bool.not_true, Bool.not_false, br_false, br_true, inlO_s, jn_l]
    · simp only [decide_eq_false hz, Bool.not_false, br_true, inlO_s, jn_l]
end Ab
