/-
  Plain laws: all edits, one by one; the reference.
-/
import Derived.Test.YthjpciiacibnhaaMAl
import Derived.Test.YthjpciiacibnhaaMR3
import Derived.Test.YthjpciiacibnhaaQIn
import Derived.Test.YthjpciiacibnhaaQRo
namespace Ab
open Go
set_option linter.unusedVariables false
set_option linter.unusedSimpArgs false

theorem P155_eq {l : List Entry} {p : List Int} (hl : Lst Entry.gd l) (hp : p.length ≤ 9223372036854775807) : P155 l p = some ((locL l p : Int), hasL l p) := by
  have hlen := hl.1
  have hat : ∀ (i : Nat) (e : Entry), l[i]? = some e → i < locL l p → cmpL e.at_ p < 0 := by
    have : ∀ (l : List Entry) (i : Nat) (e : Entry), l[i]? = some e → i < locL l p → cmpL e.at_ p < 0 := by
      intro l
      induction l with
      | nil => intro i e h; cases h
      | cons a l ih =>
        intro i e h hi
        simp only [locL] at hi
        split at hi
        · rename_i c
          cases i with
          | zero => cases h; exact c
          | succ i => exact ih i e (by simpa using h) (by omega)
        · omega
    exact this l
  have hend : ∀ e, l[locL l p]? = some e → ¬ cmpL e.at_ p < 0 := by
    have : ∀ (l : List Entry) (e : Entry), l[locL l p]? = some e → ¬ cmpL e.at_ p < 0 := by
      intro l
      induction l with
      | nil => intro e h; cases h
      | cons a l ih =>
        intro e h
        simp only [locL] at h
        split at h
        · rename_i c; exact ih e (by simpa using h)
        · rename_i c; cases h; exact c
    exact this l
  have hle := loc_le l p
  have hs := seq_loop (B := S155_L1 P151 l p) (fun i => (i : Int)) (locL l p) (fun i hi => by
    have hi' : i < l.length := by omega
    have e : ((i : Nat) : Int) < ((l.length : Nat) : Int) := by omega
    have ee := List.getElem?_eq_getElem hi'
    have hg := hl.2 _ (List.getElem_mem hi')
    have c := hat i _ ee hi
    simp only [S155_L1, e, decide_true, br_true, lookI_nat, ee, bno_s, P151_eq _ _ hg.1.1, c, inlO_s, jn_l, nxO_s]
    rw [wiid (by omega) (by omega)]
    rfl)
  have hs : lpO (S155_L1 P151 l p) 0 = lpO (S155_L1 P151 l p) ((locL l p : Nat) : Int) := hs
  by_cases c : locL l p < l.length
  · have e : ((locL l p : Nat) : Int) < ((l.length : Nat) : Int) := by omega
    have e2 : ¬ ((locL l p : Nat) : Int) = ((l.length : Nat) : Int) := by omega
    have ee := List.getElem?_eq_getElem c
    have hg := hl.2 _ (List.getElem_mem c)
    have hc := hend _ ee
    have hdn : lpO (S155_L1 P151 l p) ((locL l p : Nat) : Int) = some (.inl ((locL l p : Nat) : Int)) := lpO_dn (by simp [S155_L1, e, lookI_nat, ee, P151_eq _ _ hg.1.1, hc])
    simp only [P155, S155, lp_eq, hs, hdn, jn_l, e2, decide_false, br_false, lookI_nat, ee, bno_s, P151_eq _ _ hp]
    rw [has_loc, ee]
    simp only
    by_cases h0 : cmpL l[locL l p].at_ p = 0
    · have : ¬ cmpL p l[locL l p].at_ < 0 := by rw [cmpL_swap l[locL l p].at_ p]; omega
      simp [h0, this]
    · have := cmpL_neg hc h0
      simp [h0, this]
  · have e : ¬ ((locL l p : Nat) : Int) < ((l.length : Nat) : Int) := by omega
    have e2 : ((locL l p : Nat) : Int) = ((l.length : Nat) : Int) := by omega
    have ee : l[locL l p]? = none := List.getElem?_eq_none (by omega)
    have hdn : lpO (S155_L1 P151 l p) ((locL l p : Nat) : Int) = some (.inl ((locL l p : Nat) : Int)) := lpO_dn (by simp [S155_L1, e])
    simp only [P155, S155, lp_eq, hs, hdn, jn_l]
    rw [has_loc, ee]
    simp [e2]
theorem P134_eq {l : List Entry} {p : List Int} (hl : Lst Entry.gd l) (hp : p.length ≤ 9223372036854775807) : P134 l p = some (cellL (getL l p)) := by
  simp only [P134, S134, P155_eq hl hp, bno_s]
  rw [get_has]
  cases h : hasL l p with
  | false => simp [cellL]
  | true =>
    rw [has_loc] at h
    split at h
    · rename_i e he
      simp [lookI_nat, he, cellL]
    · cases h
theorem P135_eq {o : List Dim} {l : List Entry} {e : Edit} (ok : EntsOk o l) (he : e.at_.length ≤ 9223372036854775807) : P135 o l e = some (doL o l e) := by
  have hl := ok.gd ok.out.dm
  have hlen := ok.len
  have hloc := loc_le l e.at_
  simp only [P135, S135, P123_eq o e.at_ he, bno_s]
  unfold doL
  by_cases c1 : fitsE o e.at_ = 0
  case neg => simp [c1]
  have hf := fits_ok.1 c1
  have hlt : hasL l e.at_ = true → locL l e.at_ < l.length := fun h => by
    rw [has_loc] at h
    split at h
    · rename_i e0 he0
      exact (List.getElem?_eq_some_iff.1 he0).1
    · cases h
  simp only [c1, not_true, decide_false, br_false, if_true, P155_eq hl he, bno_s, P130_eq hf he ok.out.dm]
  have k1 : 0 ≤ (0 : Int) ∧ (0 : Int) ≤ ((locL l e.at_ : Nat) : Int) ∧ ((locL l e.at_ : Nat) : Int) ≤ ((l.length : Nat) : Int) := by omega
  have et : List.take (Int.toNat ((locL l e.at_ : Nat) : Int) - Int.toNat (0 : Int)) (List.drop (Int.toNat (0 : Int)) l) = l.take (locL l e.at_) := by simp
  have k2 : (l.take (locL l e.at_)).length ≤ roomA := by simp; unfold roomA; omega
  have k3 : (l.take (locL l e.at_)).length + List.length [(⟨e.at_, e.n⟩ : Entry)] ≤ roomA := by simp; unfold roomA; omega
  have hone : wi (((locL l e.at_ : Nat) : Int) + 1) = ((locL l e.at_ + 1 : Nat) : Int) := by rw [wiid (by omega) (by omega)]; omega
  have ed : ∀ j : Nat, j ≤ l.length → List.take (Int.toNat ((l.length : Nat) : Int) - Int.toNat ((j : Nat) : Int)) (List.drop (Int.toNat ((j : Nat) : Int)) l) = l.drop j := fun j hj => by
    simp only [Int.toNat_natCast]
    exact List.take_of_length_le (by simp)
  have kj : ∀ j : Nat, j ≤ l.length → (0 : Int) ≤ ((j : Nat) : Int) ∧ ((j : Nat) : Int) ≤ ((l.length : Nat) : Int) ∧ ((l.length : Nat) : Int) ≤ ((l.length : Nat) : Int) := fun j hj => by omega
  have kr : ∀ (j : Nat) (x : List Entry), x.length ≤ 30000 → x.length + (l.drop j).length ≤ roomA := fun j x hx => by simp; unfold roomA; omega
  cases c2 : e.clear with
  | true =>
    cases c3 : hasL l e.at_ with
    | false => simp
    | true =>
      have := hlt c3
      simp only [br_true, Bool.not_true, inlO_s, jn_l, br_false, Bool.not_false, Bool.false_eq_true, if_false, if_true, et]
      rw [ck_pos k1, ck_pos k2]
      simp only [jn_l, hone]
      rw [ck_pos (kj _ (by omega)), ed _ (by omega), ck_pos (kr _ _ (by simp; omega)), era_at l e.at_ c3]
  | false =>
    cases c3 : leafP o e.at_ with
    | false => simp
    | true =>
      have hval : (br (decide (e.n < (-1000000 : Int))) (some (Sum.inl true)) (some (Sum.inl (decide ((1000000 : Int) < e.n)))) : Option (Sum Bool (List Entry × Int))) = some (.inl (!valOk e.n)) := by
        unfold valOk
        by_cases h1 : e.n < -1000000
        · have : ¬ (-1000000 ≤ e.n) := by omega
          simp [h1, this]
        · by_cases h2 : 1000000 < e.n
          · have : ¬ (e.n ≤ 1000000) := by omega
            simp [h1, h2, this]
          · have a1 : -1000000 ≤ e.n := by omega
            have a2 : e.n ≤ 1000000 := by omega
            simp [h1, h2, a1, a2]
      simp only [br_true, Bool.not_true, inlO_s, jn_l, br_false, Bool.not_false, Bool.false_eq_true, if_false, if_true, et, hval]
      rw [ck_pos k1, ck_pos k2, ck_pos k3]
      cases c4 : valOk e.n with
      | false => simp
      | true =>
        simp only [Bool.not_true, br_false, jn_l, Bool.true_eq_false, if_false]
        rw [put_at]
        cases c5 : hasL l e.at_ with
        | true =>
          have := hlt c5
          simp only [br_true, inlO_s, jn_l, hone, if_true]
          rw [ck_pos (kj _ (by omega)), ed _ (by omega), ck_pos (kr _ _ (by simp; omega))]
          simp
        | false =>
          simp only [br_false, inlO_s, jn_l, Bool.false_eq_true, if_false]
          rw [ck_pos (kj _ (by omega)), ed _ (by omega), ck_pos (kr _ _ (by simp; omega))]
          simp
theorem P136_eq (a b : List Entry) (h : Lst Entry.gd a) : P136 a b = some (decide (a = b)) := by
  have hlen := h.1
  simp only [P136, S136]
  by_cases hl : a.length = b.length
  · have e : ((a.length : Nat) : Int) = ((b.length : Nat) : Int) := by omega
    simp only [e, not_true, decide_false, br_false]
    refine same_loop a b hl (fun i x y hxi hy => ?_) (by simp [S136_L1])
    have hi := (List.getElem?_eq_some_iff.1 hxi).1
    have e : ((i : Nat) : Int) < ((a.length : Nat) : Int) := by omega
    have hg := h.2 x (List.mem_of_getElem? hxi)
    simp only [S136_L1, e, decide_true, br_true, lookI_nat, hxi, hy, bno_s, P28_eq x.at_ y.at_ hg.1.1]
    rw [wiid (by omega) (by omega)]
    obtain ⟨p, n⟩ := x
    obtain ⟨q, m⟩ := y
    by_cases e1 : p = q
    · by_cases e2 : n = m <;> simp [e1, e2]
    · simp [e1]
  · have e : ¬ ((a.length : Nat) : Int) = ((b.length : Nat) : Int) := by omega
    have e2 : ¬ a = b := fun e => hl (by rw [e])
    simp [e, e2]

/-! ### edit by edit -/

def edL (o : List Dim) : List Entry → List Edit → Nat → List Entry × Int × Int
  | l, [], _ => (l, 0, 0)
  | l, e :: xs, i => if (doL o l e).2 = 0 then edL o (doL o l e).1 xs (i + 1) else ([], (i : Int), (doL o l e).2)
def allL (o : List Dim) (l : List Entry) (xs : List Edit) : List Entry × Int × Int :=
  if 60 < xs.length then ([], 0, 4) else if entsE o l = 0 then edL o l xs 0 else ([], 0, entsE o l)
theorem do_ok {o : List Dim} {l : List Entry} {e : Edit} (ok : EntsOk o l) (h : (doL o l e).2 = 0) : EntsOk o (doL o l e).1 := by
  unfold doL at h ⊢
  by_cases c1 : fitsE o e.at_ = 0
  case neg => simp only [c1, if_false] at h
  simp only [c1, if_true] at h ⊢
  cases c2 : e.clear with
  | true =>
    simp only [c2, if_true] at h ⊢
    cases c3 : hasL l e.at_ with
    | false => simp [c3] at h
    | true => simp only [if_true]; exact ok.era
  | false =>
    simp only [c2, Bool.false_eq_true, if_false] at h ⊢
    cases c3 : leafP o e.at_ with
    | false => simp [c3] at h
    | true =>
      cases c4 : valOk e.n with
      | false => simp [c3, c4] at h
      | true => simp only [Bool.true_eq_false, if_false]; exact ok.put (fits_ok.1 c1) c3 c4
theorem doL_nil {o : List Dim} {l : List Entry} {e : Edit} (h : ¬ (doL o l e).2 = 0) : (doL o l e).1 = [] := by
  unfold doL at h ⊢
  by_cases c1 : fitsE o e.at_ = 0
  · simp only [c1, if_true] at h ⊢
    cases c2 : e.clear with
    | true => cases c3 : hasL l e.at_ <;> simp_all
    | false => cases c3 : leafP o e.at_ <;> cases c4 : valOk e.n <;> simp_all
  · simp only [c1, if_false]
theorem ed_ok {o : List Dim} : ∀ {xs : List Edit} {l : List Entry} {i : Nat}, EntsOk o l → ((edL o l xs i).2.2 = 0 → EntsOk o (edL o l xs i).1) ∧ (¬ (edL o l xs i).2.2 = 0 → (edL o l xs i).1 = [])
  | [], l, i, h => ⟨fun _ => h, fun h => absurd rfl h⟩
  | e :: xs, l, i, h => by
    simp only [edL]
    by_cases c : (doL o l e).2 = 0
    · rw [if_pos c]; exact ed_ok (do_ok h c)
    · rw [if_neg c]; exact ⟨fun h => absurd h c, fun _ => rfl⟩
theorem P112_loop {o : List Dim} (xs : List Edit) (hx : Lst Edit.gd xs) : ∀ (n i : Nat) (l : List Entry), xs.length - i = n → i ≤ xs.length → EntsOk o l →
    jn (lpO (S112_L1 P71 o xs) (l, (i : Int))) (fun x6 => some (x6.1, ((0 : Int), Err.nil))) = some ((edL o l (xs.drop i) i).1, (edL o l (xs.drop i) i).2.1, errOf (edL o l (xs.drop i) i).2.2) := by
  have hlen := hx.1
  intro n
  induction n with
  | zero =>
    intro i l hi hle ok
    obtain rfl : i = xs.length := by omega
    rw [lpO_dn (y := (l, ((xs.length : Nat) : Int))) (by simp [S112_L1]), List.drop_length]
    rfl
  | succ n ih =>
    intro i l hi hle ok
    have hlt : i < xs.length := by omega
    have e : ((i : Nat) : Int) < ((xs.length : Nat) : Int) := by omega
    have hm := List.getElem?_eq_getElem hlt
    have hg := hx.2 _ (List.getElem_mem hlt)
    rw [List.drop_eq_getElem_cons hlt]
    simp only [edL]
    by_cases c : (doL o l xs[i]).2 = 0
    · have hB : S112_L1 P71 o xs (l, (i : Int)) = some (.nx ((doL o l xs[i]).1, ((i + 1 : Nat) : Int))) := by
        simp only [S112_L1, e, decide_true, br_true, lookI_nat, hm, bno_s, P71_eq ok hg.1.1, errOf_nil, c, Bool.not_true, br_false, nxO_s]
        rw [wiid (by omega) (by omega)]
        rfl
      rw [lpO_nx hB, if_pos c]
      exact ih (i + 1) _ (by omega) (by omega) (do_ok ok c)
    · have hB : S112_L1 P71 o xs (l, (i : Int)) = some (.fin (([] : List Entry), (i : Int), errOf (doL o l xs[i]).2)) := by
        simp only [S112_L1, e, decide_true, br_true, lookI_nat, hm, bno_s, P71_eq ok hg.1.1, errOf_nil, c, decide_false, Bool.not_false, finO_s]
      rw [lpO_fin hB, if_neg c]
      rfl
theorem P112_eq {o : List Dim} {l : List Entry} {xs : List Edit} (hl : Lst Entry.gd l) (hx : Lst Edit.gd xs) : P112 o l xs = some ((allL o l xs).1, (allL o l xs).2.1, errOf (allL o l xs).2.2) := by
  simp only [P112, S112, P27_eq o l hl, bno_s, errOf_nil]
  unfold allL
  by_cases c : 60 < xs.length
  · have e : (60 : Int) < ((xs.length : Nat) : Int) := by omega
    simp [c, e, errOf]
  · have e : ¬ (60 : Int) < ((xs.length : Nat) : Int) := by omega
    by_cases h : entsE o l = 0
    · have ok := ents_ok.1 h
      have h72 : P72 l = some l := P72_eq (by have := ok.len; unfold roomA; omega) fun e he => by have := (ok.fit e he).len; have := ok.out.len; unfold roomA; omega
      have := P112_loop (o := o) xs hx xs.length 0 l (by omega) (Nat.zero_le _) ok
      simp only [List.drop_zero] at this
      simp only [e, decide_false, br_false, h, decide_true, Bool.not_true, h72, bno_s, lp_eq, c, if_false, if_true]
      exact this
    · simp [c, e, h]
theorem P137_loop {o : List Dim} (xs : List Edit) (hx : Lst Edit.gd xs) : ∀ (n i : Nat) (l : List Entry), xs.length - i = n → i ≤ xs.length → EntsOk o l →
    jn (lpO (S137_L1 P135 o xs) (l, (i : Int))) (fun x6 => some (x6.1, ((0 : Int), (0 : Int)))) = some (edL o l (xs.drop i) i) := by
  have hlen := hx.1
  intro n
  induction n with
  | zero =>
    intro i l hi hle ok
    obtain rfl : i = xs.length := by omega
    rw [lpO_dn (y := (l, ((xs.length : Nat) : Int))) (by simp [S137_L1]), List.drop_length]
    rfl
  | succ n ih =>
    intro i l hi hle ok
    have hlt : i < xs.length := by omega
    have e : ((i : Nat) : Int) < ((xs.length : Nat) : Int) := by omega
    have hm := List.getElem?_eq_getElem hlt
    have hg := hx.2 _ (List.getElem_mem hlt)
    rw [List.drop_eq_getElem_cons hlt]
    simp only [edL]
    by_cases c : (doL o l xs[i]).2 = 0
    · have hB : S137_L1 P135 o xs (l, (i : Int)) = some (.nx ((doL o l xs[i]).1, ((i + 1 : Nat) : Int))) := by
        simp only [S137_L1, e, decide_true, br_true, lookI_nat, hm, bno_s, P135_eq ok hg.1.1, c, not_true, decide_false, br_false, nxO_s]
        rw [wiid (by omega) (by omega)]
        rfl
      rw [lpO_nx hB, if_pos c]
      exact ih (i + 1) _ (by omega) (by omega) (do_ok ok c)
    · have hB : S137_L1 P135 o xs (l, (i : Int)) = some (.fin (([] : List Entry), (i : Int), (doL o l xs[i]).2)) := by
        simp only [S137_L1, e, decide_true, br_true, lookI_nat, hm, bno_s, P135_eq ok hg.1.1, c, not_false_eq_true, decide_true, finO_s]
      rw [lpO_fin hB, if_neg c]
      rfl
theorem P137_eq {o : List Dim} {l : List Entry} {xs : List Edit} (hl : Lst Entry.gd l) (hx : Lst Edit.gd xs) : P137 o l xs = some (allL o l xs) := by
  simp only [P137, S137, P122_eq o l hl, bno_s]
  unfold allL
  by_cases c : 60 < xs.length
  · have e : (60 : Int) < ((xs.length : Nat) : Int) := by omega
    simp [c, e]
  · have e : ¬ (60 : Int) < ((xs.length : Nat) : Int) := by omega
    by_cases h : entsE o l = 0
    · have ok := ents_ok.1 h
      have := P137_loop (o := o) xs hx xs.length 0 l (by omega) (Nat.zero_le _) ok
      simp only [List.drop_zero] at this
      simp only [e, decide_false, br_false, h, not_true, lp_eq, c, if_false, if_true]
      exact this
    · simp [c, e, h]
theorem all_gd {o : List Dim} {l : List Entry} {xs : List Edit} : Lst Entry.gd (allL o l xs).1 := by
  have hn : Lst Entry.gd ([] : List Entry) := ⟨by simp, by simp⟩
  unfold allL
  split
  · exact hn
  · split
    · rename_i h
      have ok := ents_ok.1 h
      have := ed_ok (o := o) (xs := xs) (i := 0) ok
      by_cases c : (edL o l xs 0).2.2 = 0
      · have k := this.1 c
        exact k.gd k.out.dm
      · rw [this.2 c]; exact hn
    · exact hn
theorem one_gd {o : List Dim} {l : List Entry} {e : Edit} : Lst Entry.gd (oneL o l e).1 := by
  have hn : Lst Entry.gd ([] : List Entry) := ⟨by simp, by simp⟩
  unfold oneL
  split
  · rename_i h
    have ok := ents_ok.1 h
    by_cases c : (doL o l e).2 = 0
    · have k := do_ok ok c
      exact k.gd k.out.dm
    · rw [doL_nil c]; exact hn
  · exact hn
end Ab
