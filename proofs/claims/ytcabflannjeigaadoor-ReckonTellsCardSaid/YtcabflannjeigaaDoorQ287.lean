/-
  Plain law: ReckonTells answers true.
-/
import Derived.Test.YtcabflannjeigaaDoorW287
import Derived.Test.YtcabflannjeigaaDoorQVl
import Derived.Test.YtcabflannjeigaaDoorQTr
import Derived.Test.YtcabflannjeigaaDoorQS
import Derived.Test.YtcabflannjeigaaDoorLG
namespace Ab
open Go
set_option linter.unusedVariables false
set_option linter.unusedSimpArgs false

theorem P249_self (l : List Node) (h : l.length ≤ 9223372036854775807) : P249 l l = some true := by
  simp only [P249, S249]
  rw [br_dec, if_neg (by simp)]
  have hs := seq_loop (B := S249_L1 l l) (fun i => (i : Int)) l.length (fun i hi => by
    have hg := List.getElem?_eq_getElem hi
    simp only [S249_L1]
    rw [br_dec, if_pos (by omega)]
    simp only [lookI_nat, hg, bno_s, decide_true, Bool.and_self, Bool.not_true, br_false]
    rw [wiid (by omega) (by omega)]
    rfl)
  rw [lp_eq, show lpO (S249_L1 l l) 0 = _ from hs, lpO_dn (y := ((l.length : Nat) : Int)) (by simp only [S249_L1]; rw [br_dec, if_neg (by omega)]; rfl)]
  rfl
theorem bless_le (a b : ByteArray) : (Op.bytesLess a.toList b.toList || strEq a b) = !Op.bytesLess b.toList a.toList := by
  have hinj : a.data.toList = b.data.toList ↔ a = b := ⟨fun h => by obtain ⟨⟨a⟩⟩ := a; obtain ⟨⟨b⟩⟩ := b; simp at h; subst h; rfl, fun h => by rw [h]⟩
  rw [bless_eq, bless_eq, toL_eq, toL_eq, Bool.eq_iff_iff]
  simp only [Bool.or_eq_true, decide_eq_true_eq, strEq, Bool.not_eq_true', decide_eq_false_iff_not, List.not_lt]
  rw [l8_le, hinj]

/-- What swapping comes to. -/
def swL (l : List Node) : List Node := (swN l l.length ((l.length : Int) - 1) []).getD []
theorem swL_ok {l : List Node} (ok : FormOk l) : swN l l.length ((l.length : Int) - 1) [] = some (swL l) ∧ (swL l).length ≤ l.length := by
  have hpos := ok.pos
  obtain ⟨y, h1, h2⟩ := swN_some ok l.length (l.length - 1) [] (by omega) (by omega)
  rw [show ((l.length - 1 : Nat) : Int) = (l.length : Int) - 1 by omega] at h1
  have := ex_len ok l.length (l.length - 1)
  refine ⟨?_, ?_⟩
  · unfold swL; rw [h1]; rfl
  · unfold swL; rw [h1]
    show y.length ≤ l.length
    simp only [List.length_nil] at h2
    omega
theorem P295_eq (l : List Node) : P295 l = some (if formE l = 0 then (swL l, .nil) else ([], errOf (formE l))) := by
  simp only [P295, P241_eq, bno_s, errOf_nil]
  by_cases h : formE l = 0
  · have ok := form_ok.1 h
    have hm := ok.most
    obtain ⟨h1, h2⟩ := swL_ok ok
    rw [if_pos h, decide_eq_true h, br_true, ck_pos ⟨ok.pos, by omega⟩, h1]
    simp only [bno_s]
    rw [ck_pos (by omega)]
  · rw [if_neg h, decide_eq_false h, br_false]
theorem P294_eq {l : List Node} (ok : FormOk l) : P294 none l ((l.length : Int) - 1) = some (swL l) := by
  have hm := ok.most
  obtain ⟨h1, h2⟩ := swL_ok ok
  simp only [P294, h1, bno_s]
  rw [ck_pos (by omega)]

theorem p287 (l : List Node) (hl : Lst Node.gd l) (names : List ByteArray) (hn : Lst Str names) (cells : List Cell) (hc : Lst Cell.gd cells) : P287 l names cells = some true := by
  have hn1 := hn.1
  have hc1 := hc.1
  simp only [P287, S287, P240_eq, bno_s, P293_eq l names cells hn1 hc1, P295_eq, P296_eq]
  -- the first two faults
  have e1 : ∀ k : Bool → Option Bool, jn (σ := Bool) (α := Bool) (br (decide (formE l = (0 : Int))) (inlO (some (decide (¬ ((List.length names : Nat) : Int) = ((List.length cells : Nat) : Int))))) (inlO (some false))) k = k (decide (formE l = 0 ∧ names.length ≠ cells.length)) := by
    intro k
    by_cases h0 : formE l = 0
    · rw [decide_eq_true h0, br_true, inlO_s, jn_l]
      congr 1
      rw [decide_eq_decide]
      simp only [h0, true_and, ne_eq, Int.ofNat_inj]
    · rw [decide_eq_false h0, br_false, inlO_s, jn_l]
      congr 1
      simp [h0]
  rw [e1]
  have e2 : ∀ k : Int → Option Bool, jn (σ := Int) (α := Bool) (br (decide (formE l = 0 ∧ names.length ≠ cells.length)) (inlO (some (3 : Int))) (inlO (some (formE l)))) k = k (if formE l ≠ 0 then formE l else if names.length ≠ cells.length then 3 else 0) := by
    intro k
    by_cases h0 : formE l = 0
    · by_cases h1 : names.length = cells.length
      · simp [h0, h1]
      · simp [h0, h1]
    · simp [h0]
  rw [e2]
  generalize hf1 : (if formE l ≠ 0 then formE l else if names.length ≠ cells.length then 3 else 0) = f1
  obtain ⟨j1, L1⟩ := flag_loop (B := S287_L1 P144 cells) 0 cells.length (cellBadI cells) 1 (by decide) (fun i hi => by
    have hg := get_getD (l := cells) (⟨0, 0⟩ : Cell) hi
    simp only [S287_L1, Nat.add_zero]
    rw [br_dec, if_pos (by omega)]
    simp only [decide_true, inlO_s, jn_l, br_true, lookI_nat, hg, bno_s, P144_eq]
    rw [wiid (by omega) (by omega)]
    unfold cellBadI
    by_cases c : badC (cells.getD i ⟨0, 0⟩)
    · rw [if_pos c, if_pos (decide_eq_true c)]; rfl
    · rw [if_neg c, if_neg (by simpa using c)]; rfl) (fun f i hf => by
    simp only [S287_L1]
    rw [br_dec]
    split
    · simp only [inlO_s, jn_l, decide_eq_false hf, br_false]; rfl
    · rfl) (by
    simp only [S287_L1]
    rw [br_dec, if_neg (by omega)]
    rfl) f1
  rw [lp_eq, show lpO (S287_L1 P144 cells) (f1, 0) = _ from L1, jn_l]
  generalize hf2 : (if f1 = 0 then (if (List.range cells.length).any (cellBadI cells) = true then (1 : Int) else 0) else f1) = f2
  obtain ⟨j2, L2⟩ := flag_loop (B := S287_L2 names) 1 (names.length - 1) (ordBadI names) 7 (by decide) (fun i hi => by
    have hg := get_getD (l := names) (⟨#[]⟩ : ByteArray) (i := i) (by omega)
    have hg1 := get_getD (l := names) (⟨#[]⟩ : ByteArray) (i := i + 1) (by omega)
    have e4 : wi (((i + 1 : Nat) : Int) - 1) = (i : Int) := by rw [wiid (by omega) (by omega)]; omega
    have e5 : wi (((i + 1 : Nat) : Int) + 1) = ((i + 1 + 1 : Nat) : Int) := by rw [wiid (by omega) (by omega)]; omega
    simp only [S287_L2]
    rw [br_dec, if_pos (by omega)]
    simp only [decide_true, inlO_s, jn_l, br_true, e4, e5, lookI_nat, hg, hg1, bno_s, bless_le]
    rw [show (!Op.bytesLess (names.getD i ⟨#[]⟩).toList (names.getD (i + 1) ⟨#[]⟩).toList) = ordBadI names i from rfl]
    cases ordBadI names i <;> rfl) (fun f i hf => by
    simp only [S287_L2]
    rw [br_dec]
    split
    · simp only [inlO_s, jn_l, decide_eq_false hf, br_false]; rfl
    · rfl) (by
    simp only [S287_L2]
    rw [br_dec, if_neg (by omega)]
    rfl) f2
  rw [lp_eq, show lpO (S287_L2 names) (f2, 1) = _ from L2, jn_l]
  generalize hf3 : (if f2 = 0 then (if (List.range (names.length - 1)).any (ordBadI names) = true then (7 : Int) else 0) else f2) = f3
  have e3 : ∀ k : List ByteArray → Option Bool, jn (σ := (List ByteArray)) (α := Bool) (br (decide (formE l = (0 : Int))) (bno (P243 l) fun y15 => inlO (some y15)) (inlO (some ([] : List ByteArray)))) k = k (if formE l = 0 then refsOf l else []) := by
    intro k
    by_cases h0 : formE l = 0
    · have hm := (form_ok.1 h0).most
      rw [decide_eq_true h0, br_true, P243_eq l (by omega), if_pos h0]
      rfl
    · rw [decide_eq_false h0, br_false, if_neg h0]
      rfl
  rw [e3]
  generalize hrs : (if formE l = 0 then refsOf l else []) = rs
  have hrl : rs.length ≤ 1000000 := by
    rw [← hrs]
    split
    · rename_i h0
      have := (form_ok.1 h0).most
      have := refsOf_len l
      omega
    · simp
  obtain ⟨j3, L3⟩ := flag_loop (B := S287_L3 P291 names rs) 0 rs.length (refBadI names rs) 5 (by decide) (fun i hi => by
    have hg := get_getD (l := rs) (⟨#[]⟩ : ByteArray) hi
    simp only [S287_L3, Nat.add_zero]
    rw [br_dec, if_pos (by omega)]
    simp only [decide_true, inlO_s, jn_l, br_true, lookI_nat, hg, bno_s, P291_eq _ _ hn1]
    rw [wiid (by omega) (by omega)]
    have : decide (nmI names (rs.getD i ⟨#[]⟩) < 0) = refBadI names rs i := by
      rw [Bool.eq_iff_iff]
      simp only [decide_eq_true_eq, nmI_neg, refBadI, Bool.not_eq_true', ← Bool.not_eq_true, hasB_mem]
    rw [this]
    cases refBadI names rs i <;> rfl) (fun f i hf => by
    simp only [S287_L3]
    rw [br_dec]
    split
    · simp only [inlO_s, jn_l, decide_eq_false hf, br_false]; rfl
    · rfl) (by
    simp only [S287_L3]
    rw [br_dec, if_neg (by omega)]
    rfl) f3
  rw [lp_eq, show lpO (S287_L3 P291 names rs) (f3, 0) = _ from L3, jn_l]
  have hF : (if f3 = 0 then (if (List.range rs.length).any (refBadI names rs) = true then (5 : Int) else 0) else f3) = valF l names cells := by
    unfold valF cellsB ordB refsB
    rw [← hf3, ← hf2, ← hf1, ← hrs]
    generalize (List.range cells.length).any (cellBadI cells) = b1
    generalize (List.range (names.length - 1)).any (ordBadI names) = b2
    by_cases h0 : formE l = 0
    · rw [if_pos h0]
      generalize (List.range (refsOf l).length).any (refBadI names (refsOf l)) = b3
      by_cases h1 : names.length = cells.length <;> cases b1 <;> cases b2 <;> cases b3 <;> simp [h0, h1]
    · simp [h0]
  rw [hF]
  by_cases hv : valF l names cells = 0
  · obtain ⟨ok, k1, k2, k3⟩ := valF_ok hv
    have h0 := form_ok.2 ok
    have hpos := ok.pos
    have hmost := ok.most
    have e5 : wi (((l.length : Nat) : Int) - 1) = ((l.length - 1 : Nat) : Int) := by rw [wiid (by omega) (by omega)]; omega
    have e6 : wi (((l.length : Nat) : Int) - 1) = (l.length : Int) - 1 := by rw [wiid (by omega) (by omega)]
    have e7 : P292 l ((l.length - 1 : Nat) : Int) names cells = some ((evL l names cells l.length).getD (l.length - 1) ⟨0, 0⟩) := by
      show P292n _ l _ names cells = _
      exact P292n_eq ok hn1 k1 k2 k3 _ _ (by rw [Int.toNat_natCast]; omega) (by omega)
    obtain ⟨h1, h2⟩ := swL_ok ok
    have hrs' : rs = refsOf l := by rw [← hrs, if_pos h0]
    rw [decide_eq_true hv, br_true, e5, e7]
    simp only [bno_s, inlO_s, jn_l, hv, h0, if_true, P92_nil, decide_true, br_true]
    rw [← e5, e6, P294_eq ok]
    simp only [bno_s, inlO_s, jn_l, P249_self _ (show (swL l).length ≤ 9223372036854775807 by omega), decide_true, br_true, Bool.and_self, hrs', Int.natCast_eq_zero]
  · rw [decide_eq_false hv, br_false]
    simp only [inlO_s, jn_l, hv, if_false, P92_errOf, decide_true, bno_s]
    by_cases h0 : formE l = 0
    · have ok := form_ok.1 h0
      have hpos := ok.pos
      have hmost := ok.most
      have e6 : wi (((l.length : Nat) : Int) - 1) = (l.length : Int) - 1 := by rw [wiid (by omega) (by omega)]
      obtain ⟨h1, h2⟩ := swL_ok ok
      have hrs' : rs = refsOf l := by rw [← hrs, if_pos h0]
      rw [decide_eq_true h0, br_true, e6, P294_eq ok]
      simp only [bno_s, inlO_s, jn_l, h0, if_true, P92_nil, decide_true, br_true, P249_self _ (show (swL l).length ≤ 9223372036854775807 by omega), Bool.and_self, hrs', Int.natCast_eq_zero]
    · rw [decide_eq_false h0, br_false]
      simp only [bno_s, inlO_s, jn_l, h0, if_false, P92_errOf, decide_true, br_true, br_false, Bool.and_self, P249_self [] (by simp), decide_false]
end Ab
