import Derived.Test.YtchidgkpkhloeaaGreatDoorMF
import Derived.Test.YtchidgkpkhloeaaGreatDoorQO
import Derived.Test.YtchidgkpkhloeaaGreatDoorH7
section
namespace Ab
open Go
set_option linter.unusedVariables false
set_option linter.unusedSimpArgs false
def lettersB (i : Nat) : ByteArray := ⟨#[UInt8.ofNat (97 + i / 26 % 26), UInt8.ofNat (97 + i % 26)]⟩
theorem letters_some : ∀ i : Nat, i < 101 → (match P68 (i : Int) with | some b => decide (b = lettersB i) | none => false) = true := by decide +kernel
theorem P68_eq (i : Nat) (h : i < 101) : P68 (i : Int) = some (lettersB i) := by
  have := letters_some i h
  split at this
  · rename_i b hb; rw [hb]; simpa using this
  · cases this
def flatM (i : Nat) : Member := ⟨lettersB i, 0, 1, ⟨#[]⟩⟩
def flatD (name : ByteArray) (n : Nat) : Dim := ⟨name, 0, ⟨⟨#[97, 108, 108]⟩, -1, 0, ⟨#[]⟩⟩ :: (List.range n).map flatM⟩
theorem P50_eq (name : ByteArray) (n : Nat) (h : n ≤ 100) : P50 name (n : Int) = some (flatD name n) := by
  have hs := seq_loop (B := S50_L1 P68 (n : Int)) (fun i => ((i : Int), (name, (0 : Int), (flatD name i).members))) n (fun i hi => by
    have e : ((i : Nat) : Int) < ((n : Nat) : Int) := by omega
    have hr : (flatD name i).members.length + 1 ≤ roomA := by simp [flatD]; unfold roomA; omega
    have em : (flatD name (i + 1)).members = (flatD name i).members ++ [flatM i] := by
      simp [flatD, List.range_succ]
    simp only [S50_L1, e, decide_true, br_true, P68_eq i (by omega), bno_s, List.length_singleton, ck_pos hr, nxO_s, em]
    rw [wiid (by omega) (by omega)]
    rfl)
  have hs : lpO (S50_L1 P68 (n : Int)) (0, (name, 0, [⟨⟨#[97, 108, 108]⟩, -1, 0, ⟨#[]⟩⟩])) = some (.inl ((n : Int), (name, 0, (flatD name n).members))) := hs.trans (lpO_dn (by simp [S50_L1]))
  simp only [P50, S50, lp_eq, hs, jn_l]
  rfl
def squareO (n : Nat) : List Dim := [flatD ⟨#[120]⟩ n, flatD ⟨#[121]⟩ n]
theorem P22_eq (n : Nat) (h : n ≤ 100) : P22 (n : Int) = some (squareO n) := by
  simp only [P22, S22, P50_eq _ n h, bno_s]; rfl
end Ab
end
section
namespace Ab
open Go
set_option linter.unusedVariables false
set_option linter.unusedSimpArgs false
noncomputable def allC (o : List Dim) (l : List Entry) : List Cell := (List.range (sizeN o)).map fun k => sol o l (digs o k).1
theorem P332_eq {o : List Dim} {l : List Entry} (hl : Lst Entry.gd l) : P332 o l = some (if cubeE o l = 0 then (allC o l, .nil) else ([], errOf (cubeE o l))) := by
  unfold P332
  rw [if_pos hl, P349_eq hl]
  by_cases h : cubeE o l = 0
  · rw [if_pos h, h]; rfl
  · rw [if_neg h]
    have he : errOf (cubeE o l) ≠ .nil := fun c => h (errOf_zero.1 c)
    generalize errOf (cubeE o l) = e at he
    cases e <;> simp_all
noncomputable def faultL (o : List Dim) (l : List Entry) (n : Nat) : List (List Int) := (List.range n).foldl (fun out k => if ((allC o l).getD k ⟨0, 0⟩).k = 2 then out ++ [(digs o k).1] else out) []
theorem faultL_succ (o : List Dim) (l : List Entry) (n : Nat) : faultL o l (n + 1) = if ((allC o l).getD n ⟨0, 0⟩).k = 2 then faultL o l n ++ [(digs o n).1] else faultL o l n := by
  unfold faultL
  rw [List.range_succ, List.foldl_append]
  rfl
theorem faultL_len (o : List Dim) (l : List Entry) : ∀ n, (faultL o l n).length ≤ n
  | 0 => by simp [faultL]
  | n + 1 => by
    have := faultL_len o l n
    rw [faultL_succ]
    split
    · rw [List.length_append]; simp; omega
    · omega
theorem allC_len (o : List Dim) (l : List Entry) : (allC o l).length = sizeN o := by simp [allC]
theorem P333_eq {o : List Dim} {l : List Entry} (hl : Lst Entry.gd l) : P333 o l = some (if cubeE o l = 0 then (faultL o l (sizeN o), .nil) else ([], errOf (cubeE o l))) := by
  simp only [P333, S333, P332_eq hl, bno_s]
  by_cases h : cubeE o l = 0
  · have ok := (cube_ok hl).1 h
    have hlen := ok.cube.out.len
    obtain ⟨h1, h2⟩ := ok.cube.out.sizeN
    rw [if_pos h, if_pos h]
    simp only [nil_isNil, Bool.not_true, br_false]
    have hs := seq_loop (B := S333_L1 P69 o (allC o l, .nil)) (fun i => (faultL o l i, (i : Int))) (sizeN o) (fun i hi => by
      have e4 : wi ((i : Int) + 1) = ((i + 1 : Nat) : Int) := by rw [wiid (by omega) (by omega)]; omega
      have hg : (allC o l)[i]? = some ((allC o l).getD i ⟨0, 0⟩) := by rw [List.getD_eq_getElem?_getD, List.getElem?_eq_getElem (by rw [allC_len]; exact hi)]; rfl
      have hle := faultL_len o l i
      have hp := P69_eq o i (by omega) (by omega) (fun d hd => ⟨ok.pos d hd, by have := ok.most d hd; omega⟩)
      simp only [S333_L1]
      rw [br_dec, if_pos (by rw [allC_len]; omega)]
      simp only [lookI_nat, hg, bno_s, hp]
      rw [faultL_succ, br_dec]
      have hck : (faultL o l i).length + [(digs o i).1].length ≤ roomA := by simp only [List.length_singleton]; unfold roomA; omega
      by_cases c : ((allC o l).getD i ⟨0, 0⟩).k = 2
      · rw [if_pos c, if_pos c]
        simp only [ck_pos hck, inlO_s, jn_l, nxO_s, e4]
      · rw [if_neg c, if_neg c]
        simp only [inlO_s, jn_l, nxO_s, e4])
    rw [lp_eq, show (([] : List (List Int)), (0 : Int)) = (faultL o l 0, ((0 : Nat) : Int)) from rfl, hs, lpO_dn (y := (faultL o l (sizeN o), ((sizeN o : Nat) : Int))) (by simp only [S333_L1]; rw [br_dec, if_neg (by rw [allC_len]; omega)]; rfl)]
    rfl
  · rw [if_neg h, if_neg h]
    simp only [errOf_nil, decide_eq_false h, Bool.not_false, br_true]
def noForm (o : List Dim) : Prop := ∀ d ∈ o, ∀ m ∈ d.members, m.formula = ⟨#[]⟩
theorem rules_plain {d : Dim} (ok : DimOk d) (h : ∀ m ∈ d.members, m.formula = ⟨#[]⟩) : (rulesE d).2 = 0 := by
  have h0 := dim_ok.2 ok
  have hl := ok.len
  have hraw : ∀ i x, x ∈ rawN d i → ∃ k : Nat, x = k ∧ i < k ∧ k < d.members.length := by
    intro i x hx
    unfold rawN at hx
    split at hx
    · rename_i m hm
      rw [if_pos (h m (List.mem_of_getElem? hm))] at hx
      have := parts_up ok.rooted (List.mem_filter.1 hx).1
      exact ⟨x.toNat, by omega, by omega, by omega⟩
    · cases hx
  have hmem : ∀ i, i < d.members.length → memF d i = none := by
    intro i hi
    have hm := List.getElem?_eq_getElem hi
    unfold memF
    rw [hm]
    simp only
    rw [if_neg (fun c => c.1 (h _ (List.getElem_mem hi))), if_neg]
    intro c
    have := hasI_mem.1 c
    obtain ⟨k, hk, _⟩ := hraw i _ ((setI_ok _).2 _ |>.1 this)
    omega
  have hrng := allN_rng hmem
  have hnd : ∀ a b, b ∈ nd (allN d) a → a < b := by
    intro a b hb
    obtain ⟨x, hx, rfl⟩ := List.mem_map.1 hb
    by_cases ha : a < d.members.length
    · rw [List.getD_eq_getElem?_getD, allN_get ha] at hx
      obtain ⟨k, rfl, hk, _⟩ := hraw a x ((setI_ok _).2 _ |>.1 hx)
      omega
    · rw [List.getD_eq_getElem?_getD, List.getElem?_eq_none (by rw [allN_len]; omega)] at hx
      cases hx
  have hreach : ∀ a b, Reach (allN d) a b → a < b := by
    intro a b hr
    induction hr with
    | one h => exact hnd _ _ h
    | more h _ ih => exact Nat.lt_trans (hnd _ _ h) ih
  rw [show rulesE d = rulesG d from if_neg (fun c => c h0)]
  unfold rulesG
  rw [List.findSome?_eq_none_iff.2 (fun i hi => by rw [hmem i (List.mem_range.1 hi)]; rfl)]
  simp only
  rw [List.findSome?_eq_none_iff.2 (fun i hi => by
    unfold ringF
    rw [if_neg (fun c => Nat.lt_irrefl _ (hreach i i ((selfN_iff hrng i).1 c)))]
    rfl)]
theorem cube_plain {o : List Dim} (ok : OutOk o) (h : noForm o) : CubeOk o := ⟨ok, fun d hd => rules_plain (ok.dims d hd) (h d hd)⟩
theorem fold_zero (f : Int → Int) : ∀ (L : List Int), L.foldl (fun (c : Cell) (k : Int) => if f k = 0 then c else cplus c ⟨0, 0⟩ (f k)) ⟨0, 0⟩ = ⟨0, 0⟩
  | [] => rfl
  | k :: L => by
    rw [List.foldl_cons]
    have : (if f k = 0 then (⟨0, 0⟩ : Cell) else cplus ⟨0, 0⟩ ⟨0, 0⟩ (f k)) = ⟨0, 0⟩ := by
      split
      · rfl
      · simp [cplus]
    rw [this]
    exact fold_zero f L
theorem solN_zero {o : List Dim} (h : noForm o) : ∀ (n : Nat) (p : List Int), solN o [] n p = ⟨0, 0⟩
  | 0, _ => rfl
  | n + 1, p => by
    have e : solN o [] n = fun _ => ⟨0, 0⟩ := funext (solN_zero h n)
    show tellF o [] (solN o [] n) p = _
    rw [e]
    unfold tellF
    split
    · rfl
    · split
      · rename_i d i hd hi
        split
        · rename_i m hm
          rw [if_pos (h d (List.mem_of_getElem? hd) m (List.mem_of_getElem? hm))]
          exact fold_zero _ _
        · rfl
      · rfl
theorem sol_zero {o : List Dim} (h : noForm o) (p : List Int) : sol o [] p = ⟨0, 0⟩ := solN_zero h _ p
end Ab
end
