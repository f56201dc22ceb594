/-
  Plain law: members of which each refers to the next.
-/
import Derived.Test.YtchidgkpkhloeaaGreatDoorW304
import Derived.Test.YtchidgkpkhloeaaGreatDoorE2
import Derived.Test.YtchidgkpkhloeaaGreatDoorC9
import Derived.Test.YtchidgkpkhloeaaGreatDoorQF
import Derived.Test.YtchidgkpkhloeaaGreatDoorQS
namespace Ab
open Go
set_option linter.unusedVariables false
set_option linter.unusedSimpArgs false
def oneB : ByteArray := ⟨#[43, 49]⟩
def formR (n : Nat) (op : Bool) (i : Nat) : ByteArray := if (op && decide (i + 1 = n)) = true then ⟨#[]⟩ else lettersB ((i + 1) % n) ++ oneB
def memR (n : Nat) (op : Bool) (i : Nat) : Member := ⟨lettersB i, -1, 0, formR n op i⟩
def dimR (n : Nat) (op : Bool) : Dim := ⟨⟨#[97]⟩, 0, (List.range n).map (memR n op)⟩
def needR (n : Nat) (op : Bool) (i : Nat) : List Int := if (op && decide (i + 1 = n)) = true then [] else [(((i + 1) % n : Nat) : Int)]
def refF (s : ByteArray) : Fx := .bin 3 (.ref s) (.num 1)
theorem dimR_ok : ∀ n, n < 12 → 0 < n → ∀ op : Bool, (dimErr (dimR n op)).2 = 0 := by decide +kernel
theorem dimR_where : ∀ n, n < 12 → ∀ op : Bool, ∀ j, j < n → whereM (dimR n op).members (lettersB j) = (j : Int) := by decide +kernel
theorem dimR_cnt : ∀ n, n < 12 → 0 < n → ∀ op : Bool, ∀ i, i < n → cntP2 (dimR n op) (i : Int) = [] := by decide +kernel
theorem dimR_set : ∀ n, n < 12 → 0 < n → List.set (dimR n false).members (n - 1) ⟨lettersB (n - 1), -1, 0, ⟨#[]⟩⟩ = (dimR n true).members := by decide +kernel
theorem refF_text : ∀ j, j < 11 → (refF (lettersB j)).text = lettersB j ++ oneB := by decide +kernel
theorem refF_name : ∀ j, j < 11 → nameBad (lettersB j) = false := by decide +kernel
theorem refF_size : ∀ j, j < 11 → (lettersB j ++ oneB).size ≤ 100 ∧ lettersB j ++ oneB ≠ ⟨#[]⟩ := by decide +kernel
theorem ring_self : ∀ n, n < 12 → 0 < n → selfN ((List.range n).map (needR n false)) 0 = some true := by decide +kernel
theorem open_self : ∀ n, n < 12 → 0 < n → ∀ i, i < n → selfN ((List.range n).map (needR n true)) i = some false := by decide +kernel
theorem open_first : ∀ n, n < 12 → 0 < n → (behindL ((List.range n).map (needR n true))).length = n ∧ (behindL ((List.range n).map (needR n true)))[0]? = some (n - 1) := by decide +kernel
theorem refF_fine {j : Nat} (h : j < 11) : (refF (lettersB j)).Fine := ⟨by omega, by omega, refF_name j h, by omega, by omega⟩
theorem rd_ref {j : Nat} (h : j < 11) : refL (rdT (lettersB j ++ oneB)).1 = [lettersB j] ∧ (rdT (lettersB j ++ oneB)).2.2 = 0 := by
  have hb := P248_back (refF_fine h) (by simp [refF, Fx.sz]) (by rw [refF_text j h]; exact (refF_size j h).1)
  rw [refF_text j h, P248_eq] at hb
  simp only [Option.some.injEq, Prod.mk.injEq] at hb
  refine ⟨by rw [hb.1]; rfl, ?_⟩
  have h2 := errOf_nil (e := (rdT (lettersB j ++ oneB)).2.2)
  rw [hb.2.2] at h2
  simpa using h2
theorem setI_one (k : Int) : setI [k] = [k] := strictI_ext (setI_ok _).1 (by simp) (setI_ok [k]).2
theorem setI_nil : setI [] = [] := strictI_ext (setI_ok _).1 (by simp) (setI_ok []).2
theorem formR_none {n : Nat} {op : Bool} {i : Nat} (c : (op && decide (i + 1 = n)) = true) : (memR n op i).formula = ⟨#[]⟩ := by show formR n op i = _; unfold formR; rw [if_pos c]
theorem formR_some {n : Nat} {op : Bool} {i : Nat} (c : ¬ (op && decide (i + 1 = n)) = true) : (memR n op i).formula = lettersB ((i + 1) % n) ++ oneB := by show formR n op i = _; unfold formR; rw [if_neg c]
theorem memR_get {n : Nat} {op : Bool} {i : Nat} (hi : i < n) : (dimR n op).members[i]? = some (memR n op i) := by
  show ((List.range n).map (memR n op))[i]? = _
  rw [List.getElem?_map, List.getElem?_range hi]
  rfl
section
variable {n : Nat} {op : Bool} (h1 : n < 12) (h0 : 0 < n)
include h1 h0
theorem needN_ring {i : Nat} (hi : i < n) : needN (dimR n op) i = needR n op i := by
  have hj : (i + 1) % n < n := Nat.mod_lt _ h0
  unfold needN rawN needR
  rw [memR_get hi]
  simp only
  by_cases c : (op && decide (i + 1 = n)) = true
  · rw [if_pos c, if_pos (formR_none c), dimR_cnt n h1 h0 op i hi, setI_nil]
  · rw [if_neg c, if_neg (by rw [formR_some c]; exact (refF_size _ (by omega)).2), formR_some c, (rd_ref (by omega)).1, List.map_cons, List.map_nil, dimR_where n h1 op _ hj, setI_one]
theorem memF_ring {i : Nat} (hi : i < n) : memF (dimR n op) i = none := by
  have hj : (i + 1) % n < n := Nat.mod_lt _ h0
  unfold memF
  rw [memR_get hi, needN_ring h1 h0 hi]
  simp only
  have hh : ¬ hasI (needR n op i) (-1) = true := by
    unfold needR
    split
    · simp [hasI]
    · simp only [hasI, List.any_cons, List.any_nil, Bool.or_false, decide_eq_true_eq]
      omega
  by_cases c : (op && decide (i + 1 = n)) = true
  · rw [if_neg (fun h => h.1 (formR_none c)), if_neg hh]
  · rw [if_neg (fun h => h.2 (by rw [formR_some c]; exact (rd_ref (by omega)).2)), if_neg hh]
theorem allN_ring : allN (dimR n op) = (List.range n).map (needR n op) := by
  unfold allN
  rw [show (dimR n op).members.length = n by simp [dimR]]
  exact List.map_congr_left fun i hi => needN_ring h1 h0 (List.mem_range.1 hi)
theorem rulesE_ring : rulesE (dimR n op) = if op = true then (-1, 0) else (0, 8) := by
  rw [show rulesE (dimR n op) = rulesG (dimR n op) from if_neg (fun h => h (dimR_ok n h1 h0 op))]
  unfold rulesG
  have hl : (dimR n op).members.length = n := by simp [dimR]
  rw [hl, show (List.range n).findSome? (fun i => (memF (dimR n op) i).map fun e => ((i : Int), e)) = none from List.findSome?_eq_none_iff.2 fun i hi => by rw [memF_ring h1 h0 (List.mem_range.1 hi)]; rfl]
  simp only
  cases op with
  | true =>
    rw [show (List.range n).findSome? (fun i => (ringF (dimR n true) i).map fun e => ((i : Int), e)) = none from List.findSome?_eq_none_iff.2 fun i hi => by
      unfold ringF
      rw [allN_ring h1 h0, open_self n h1 h0 i (List.mem_range.1 hi), if_neg (by decide)]
      rfl]
    rfl
  | false =>
    obtain ⟨m, rfl⟩ : ∃ m, n = m + 1 := ⟨n - 1, by omega⟩
    have h8 : ringF (dimR (m + 1) false) 0 = some 8 := by
      unfold ringF
      rw [allN_ring h1 h0, ring_self _ h1 h0, if_pos rfl]
    rw [List.range_succ_eq_map, List.findSome?_cons, h8]
    rfl
theorem ring_loop : lpO (S304_L1 P68 (n : Int)) ((0 : Int), ((⟨#[97]⟩ : ByteArray), (0 : Int), ([] : List Member))) = some (.inl ((n : Int), ((⟨#[97]⟩ : ByteArray), (0 : Int), (dimR n false).members))) := by
  have hs := seq_loop (B := S304_L1 P68 (n : Int)) (fun i => ((i : Int), ((⟨#[97]⟩ : ByteArray), (0 : Int), (List.range i).map (memR n false)))) n (fun i hi => by
    have e4 : wi ((i : Int) + 1) = ((i + 1 : Nat) : Int) := by rw [wiid (by omega) (by omega)]; omega
    have hj : (i + 1) % n < n := Nat.mod_lt _ h0
    have et : Int.tmod ((i + 1 : Nat) : Int) (n : Int) = (((i + 1) % n : Nat) : Int) := rfl
    have hsz := (refF_size ((i + 1) % n) (by omega)).1
    rw [ByteArray.size_append] at hsz
    simp only [S304_L1]
    rw [br_dec, if_pos (by omega), P68_eq i (by omega)]
    simp only [bno_s]
    rw [ck_pos (by omega), e4, et, P68_eq _ (by omega)]
    simp only [bno_s]
    rw [ck_pos (show ByteArray.size (lettersB ((i + 1) % n)) + ByteArray.size (⟨#[43, 49]⟩ : ByteArray) ≤ 9223372036854775807 from Nat.le_trans hsz (by omega)), ck_pos (by rw [List.length_map, List.length_range]; simp only [List.length_singleton]; unfold roomA; omega), List.range_succ, List.map_append]
    rfl)
  have e0 : ((0 : Int), ((⟨#[97]⟩ : ByteArray), (0 : Int), ([] : List Member))) = (((0 : Nat) : Int), ((⟨#[97]⟩ : ByteArray), (0 : Int), (List.range 0).map (memR n false))) := rfl
  rw [e0, hs]
  refine lpO_dn ?_
  simp only [S304_L1]
  rw [br_dec, if_neg (by omega)]
  rfl
end
theorem P304_true (a : Int) (op : Bool) : P304 a op = some true := by
  simp only [P304, S304]
  by_cases c : a < 1
  · rw [br_dec, if_pos c]; rfl
  rw [br_dec, if_neg c]
  by_cases c2 : 11 < a
  · rw [decide_eq_true c2]; rfl
  rw [decide_eq_false c2]
  obtain ⟨n, rfl⟩ : ∃ n : Nat, a = n := ⟨a.toNat, by omega⟩
  have h0 : 0 < n := by omega
  have h1 : n < 12 := by omega
  have hl : (dimR n false).members.length = n := by simp [dimR]
  have ew : wi ((n : Int) - 1) = ((n - 1 : Nat) : Int) := by rw [wiid (by omega) (by omega)]; omega
  simp only [inlO_s, jn_l, br_false]
  rw [lp_eq, ring_loop h1 h0]
  simp only [jn_l, ew, Int.toNat_natCast, hl]
  cases op with
  | true =>
    obtain ⟨f1, f2⟩ := open_first n h1 h0
    rw [br_true, ck_pos (by omega), memR_get (by omega)]
    simp only [bno_s, inlO_s, jn_l, br_true]
    rw [show List.set (dimR n false).members (n - 1) (Member.mk (memR n false (n - 1)).name (memR n false (n - 1)).parent (memR n false (n - 1)).sign ⟨#[]⟩) = (dimR n true).members from dimR_set n h1 h0]
    rw [show Dim.mk (⟨#[97]⟩ : ByteArray) (0 : Int) (dimR n true).members = dimR n true from rfl, P315_eq, P316_eq, rulesE_ring h1 h0, if_pos rfl]
    simp only [bno_s, if_true, allN_ring h1 h0]
    have e1 : ((castL (behindL ((List.range n).map (needR n true)))).length : Nat) = n := by unfold castL; rw [List.length_map]; exact f1
    have e2 : lookI (castL (behindL ((List.range n).map (needR n true)))) 0 = some (((n - 1 : Nat) : Int)) := by
      rw [show (0 : Int) = ((0 : Nat) : Int) from rfl, lookI_nat]
      unfold castL
      rw [List.getElem?_map, f2]
      rfl
    rw [e1, e2]
    simp only [errOf, if_true, nil_isNil, br_true, decide_true, bno_s, inlO_s, jn_l]
  | false =>
    rw [br_false]
    simp only [inlO_s, jn_l, br_false]
    rw [show Dim.mk (⟨#[97]⟩ : ByteArray) (0 : Int) (dimR n false).members = dimR n false from rfl, P315_eq, rulesE_ring h1 h0, if_neg (by decide)]
    simp only [bno_s, P92_errOf, decide_true, br_true, inlO_s, jn_l]
end Ab
