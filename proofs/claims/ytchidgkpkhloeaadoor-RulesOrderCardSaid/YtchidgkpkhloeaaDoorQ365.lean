/-
  Plain law: the members of a dim in an order in which each stands behind those it needs.
-/
import Derived.Test.YtchidgkpkhloeaaDoorW365
import Derived.Test.YtchidgkpkhloeaaDoorE2
import Derived.Test.YtchidgkpkhloeaaDoorC9
namespace Ab
open Go
set_option linter.unusedVariables false
set_option linter.unusedSimpArgs false

theorem dnL_nil (m : Nat) : dnL m [] = List.replicate m false := by
  unfold dnL
  apply List.ext_getElem?
  intro j
  rw [List.getElem?_map, List.getElem?_replicate]
  by_cases hj : j < m
  · rw [List.getElem?_range hj, if_pos hj]; rfl
  · rw [List.getElem?_eq_none (by rw [List.length_range]; omega), if_neg hj]; rfl
theorem dnL_look {m k : Nat} {out : List Nat} (h : k < m) : (dnL m out)[k]? = some (out.contains k) := by
  have h1 := dnL_get (out := out) h
  have h2 : k < (dnL m out).length := by rw [dnL_len]; exact h
  rw [List.getElem?_eq_getElem h2]
  rw [List.getD_eq_getElem?_getD, List.getElem?_eq_getElem h2] at h1
  exact congrArg some h1
theorem needs_done {y4 : List Int × Err} {m c : Nat} (hm : y4.1.length = m) (hm1 : m ≤ 1000) (out : List Nat) (l : List Int) (e : Err) (hl : l.length ≤ 1000) (h : ∀ x ∈ l, ∃ k : Nat, x = k ∧ k < m ∧ k ∈ out) :
    lpO (S365_L1 y4 ((c : Int), dnL m out) (l, e)) (0 : Int) = some (.inl (l.length : Int)) := by
  have hs := seq_loop (B := S365_L1 y4 ((c : Int), dnL m out) (l, e)) (fun i => (i : Int)) l.length (fun i hi => by
    have hx := List.getElem?_eq_getElem hi
    obtain ⟨k, hk, hk1, hk2⟩ := h _ (List.getElem_mem hi)
    have e4 : wi ((i : Int) + 1) = ((i + 1 : Nat) : Int) := by rw [wiid (by omega) (by omega)]; omega
    simp only [S365_L1, lookI_nat, hx, bno_s, hk]
    rw [br_dec, if_pos (by omega), br_dec, if_neg (by omega), br_dec, if_neg (by omega), ck_pos ⟨by omega, by rw [dnL_len]; omega⟩, Int.toNat_natCast, dnL_look hk1, List.contains_iff_mem.2 hk2]
    simp only [bno_s, Bool.not_true, inlO_s, jn_l, br_false, e4]
    rfl)
  rw [show (0 : Int) = ((0 : Nat) : Int) from rfl, hs]
  refine lpO_dn ?_
  simp only [S365_L1]
  rw [br_dec, if_neg (by omega)]
  rfl
theorem order_loop {d : Dim} (h : (rulesE d).2 = 0) : lpO (S365_L2 P323 d (castL (behindL (allN d)), .nil)) ((0 : Int), List.replicate d.members.length false) = some (.inl ((d.members.length : Int), dnL d.members.length (behindL (allN d)))) := by
  obtain ⟨hl, hr, ha⟩ := rules_zero h
  obtain ⟨⟨ho1, ho2, ho3⟩, hlen⟩ := behindL_ok hr ha
  rw [allN_len] at hlen
  have hcl : (castL (behindL (allN d))).length = d.members.length := by unfold castL; rw [List.length_map, hlen]
  have hs := seq_loop (B := S365_L2 P323 d (castL (behindL (allN d)), .nil)) (fun i => ((i : Int), dnL d.members.length ((behindL (allN d)).take i))) d.members.length (fun i hi => by
    have hi' : i < (behindL (allN d)).length := by omega
    obtain ⟨k, hk⟩ : ∃ k, (behindL (allN d))[i]? = some k := ⟨_, List.getElem?_eq_getElem hi'⟩
    have hx : (castL (behindL (allN d)))[i]? = some (k : Int) := by unfold castL; rw [List.getElem?_map, hk]; rfl
    have hkm : k < d.members.length := by have := ho2 k (List.mem_of_getElem? hk); rw [allN_len] at this; exact this
    have hkn : ((behindL (allN d)).take i).contains k = false := by
      rw [Bool.eq_false_iff]
      intro hc
      have hc := List.contains_iff_mem.1 hc
      obtain ⟨j, hj⟩ := List.getElem?_of_mem hc
      rw [List.getElem?_take] at hj
      split at hj
      · rename_i hji
        have h1 := List.getElem?_eq_getElem hi'
        have h2 := List.getElem?_eq_getElem (show j < (behindL (allN d)).length by omega)
        rw [h2] at hj
        rw [h1] at hk
        cases hk
        have := (List.getElem_inj ho1).1 (Option.some.inj hj)
        omega
      · cases hj
    have e4 : wi ((i : Int) + 1) = ((i + 1 : Nat) : Int) := by rw [wiid (by omega) (by omega)]; omega
    simp only [S365_L2, lookI_nat, hx, bno_s]
    rw [br_dec, if_pos (by omega), br_dec, if_neg (by omega), br_dec, if_neg (by omega), ck_pos ⟨by omega, by rw [dnL_len]; omega⟩, Int.toNat_natCast, dnL_look hkm, hkn]
    simp only [bno_s, inlO_s, jn_l, br_false]
    rw [P323_eq h hkm]
    simp only [bno_s, nil_isNil, Bool.not_true, br_false]
    rw [lp_eq, needs_done hcl (by omega) _ _ _ (Nat.le_trans (needN_len hl k) (by omega)) (fun x hx => by
      have hg : needN d k = (allN d).getD k [] := by rw [List.getD_eq_getElem?_getD, allN_get hkm]; rfl
      rw [hg] at hx
      have h1 := hr k x hx
      rw [allN_len] at h1
      exact ⟨x.toNat, by omega, by omega, ho3 i k hk _ (List.mem_map.2 ⟨x, hx, rfl⟩)⟩)]
    simp only [jn_l, bno_s]
    rw [ck_pos ⟨by omega, by rw [dnL_len]; omega⟩, e4, dnL_set hkm, List.take_add_one, hk]
    rfl)
  have e0 : ((0 : Int), List.replicate d.members.length false) = (((0 : Nat) : Int), dnL d.members.length ((behindL (allN d)).take 0)) := by rw [List.take_zero, dnL_nil]; rfl
  rw [e0, hs, List.take_of_length_le (by omega)]
  refine lpO_dn ?_
  simp only [S365_L2]
  rw [br_dec, if_neg (by omega)]
  rfl
def litD : Dim := Dim.mk (⟨#[97]⟩ : ByteArray) (0 : Int) ([Member.mk (⟨#[98]⟩ : ByteArray) (-1 : Int) (0 : Int) (⟨#[99, 43, 49]⟩ : ByteArray), Member.mk (⟨#[99]⟩ : ByteArray) (-1 : Int) (0 : Int) (⟨#[]⟩ : ByteArray)] : List Member)
def litF : Fx := .bin 3 (.ref ⟨#[99]⟩) (.num 1)
theorem lit_text : litF.text = ⟨#[99, 43, 49]⟩ := by kernel_rfl
theorem lit_fine : litF.Fine := ⟨by omega, by omega, by show nameBad _ = false; kernel_rfl, by omega, by omega⟩
theorem lit_rd : (rdT ⟨#[99, 43, 49]⟩).1 = litF.po 0 ∧ (rdT ⟨#[99, 43, 49]⟩).2.2 = 0 := by
  have h := P248_back lit_fine (by decide) (by rw [lit_text]; decide)
  rw [lit_text, P248_eq] at h
  simp only [Option.some.injEq, Prod.mk.injEq] at h
  refine ⟨h.1, ?_⟩
  have h2 := errOf_nil (e := (rdT ⟨#[99, 43, 49]⟩).2.2)
  rw [h.2.2] at h2
  simpa using h2
theorem lit_need : needN litD 0 = [1] ∧ needN litD 1 = [] := by
  constructor
  · have h : rawN litD 0 = [1] := by
      unfold rawN
      show (if (⟨#[99, 43, 49]⟩ : ByteArray) = ⟨#[]⟩ then _ else _) = _
      rw [if_neg (by decide), lit_rd.1]
      kernel_rfl
    unfold needN
    rw [h]
    simp [setI, sortI, compI, Lib.compact]
    rfl
  · have h : rawN litD 1 = [] := by
      unfold rawN
      show (if (⟨#[]⟩ : ByteArray) = ⟨#[]⟩ then _ else _) = _
      rw [if_pos rfl]
      kernel_rfl
    unfold needN
    rw [h]
    simp [setI, sortI, compI, Lib.compact]
    rfl
theorem lit_all : allN litD = [[1], []] := by
  show [needN litD 0, needN litD 1] = _
  rw [lit_need.1, lit_need.2]
theorem lit_mem (i : Nat) : memF litD i = none := by
  match i with
  | 0 =>
    unfold memF
    show (if (⟨#[99, 43, 49]⟩ : ByteArray) ≠ ⟨#[]⟩ ∧ (rdT ⟨#[99, 43, 49]⟩).2.2 ≠ 0 then _ else _) = _
    rw [if_neg (fun h => h.2 lit_rd.2), lit_need.1]
    rfl
  | 1 =>
    unfold memF
    show (if (⟨#[]⟩ : ByteArray) ≠ ⟨#[]⟩ ∧ _ then _ else _) = _
    rw [if_neg (fun h => h.1 rfl), lit_need.2]
    rfl
  | i + 2 => rfl
theorem lit_ring (i : Nat) (hi : i < 2) : ringF litD i = none := by
  unfold ringF
  rw [lit_all]
  match i, hi with
  | 0, _ => rw [if_neg (by decide)]
  | 1, _ => rw [if_neg (by decide)]
theorem lit_zero : (rulesE litD).2 = 0 := by
  have h0 : (dimErr litD).2 = 0 := by kernel_rfl
  rw [show rulesE litD = rulesG litD from if_neg (fun h => h h0)]
  unfold rulesG
  rw [show (List.range litD.members.length).findSome? (fun i => (memF litD i).map fun e => ((i : Int), e)) = none from List.findSome?_eq_none_iff.2 fun i _ => by rw [lit_mem]; rfl]
  simp only
  rw [show (List.range litD.members.length).findSome? (fun i => (ringF litD i).map fun e => ((i : Int), e)) = none from List.findSome?_eq_none_iff.2 fun i hi => by rw [lit_ring i (List.mem_range.1 hi)]; rfl]
theorem lit_order : P316 litD = some ([1, 0], .nil) := by
  rw [P316_eq, if_pos lit_zero, lit_all, lit_zero]
  rfl
/-- The law: whatever the dim. -/
theorem P365_true (d : Dim) : P365 d = some true := by
  simp only [P365, S365]
  rw [show P316 (Dim.mk (⟨#[97]⟩ : ByteArray) (0 : Int) ([Member.mk (⟨#[98]⟩ : ByteArray) (-1 : Int) (0 : Int) (⟨#[99, 43, 49]⟩ : ByteArray), Member.mk (⟨#[99]⟩ : ByteArray) (-1 : Int) (0 : Int) (⟨#[]⟩ : ByteArray)] : List Member)) = some ([1, 0], .nil) from lit_order]
  simp only [bno_s, nil_isNil, Bool.not_true, br_false]
  rw [br_dec, if_neg (by simp)]
  rw [show lookI ([1, 0] : List Int) 0 = some 1 from rfl]
  simp only [bno_s, inlO_s, jn_l]
  rw [br_dec, if_neg (by simp), P316_eq, P315_eq]
  simp only [bno_s, errOf_nil]
  by_cases h : (rulesE d).2 = 0
  · obtain ⟨hl, hr, ha⟩ := rules_zero h
    obtain ⟨ho, hlen⟩ := behindL_ok hr ha
    rw [allN_len] at hlen
    have hcl : (castL (behindL (allN d))).length = d.members.length := by unfold castL; rw [List.length_map, hlen]
    rw [if_pos h, decide_eq_true h, h, hcl]
    simp only [Bool.not_true, br_false]
    rw [br_dec, if_neg (by simp), ck_pos ⟨by omega, by omega, by unfold roomA; omega⟩, Int.toNat_natCast, lp_eq, show errOf 0 = Err.nil from rfl, order_loop h]
    rfl
  · rw [decide_eq_false h]
    rfl
end Ab
