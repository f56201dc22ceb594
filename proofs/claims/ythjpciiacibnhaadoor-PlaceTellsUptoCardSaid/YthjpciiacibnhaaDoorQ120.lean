/-
  Plain law: PlaceTells answers true.
-/
import Derived.Test.YthjpciiacibnhaaDoorW120
import Derived.Test.YthjpciiacibnhaaDoorQPr
namespace Ab
open Go
set_option linter.unusedVariables false
set_option linter.unusedSimpArgs false

theorem joinS_zero (xs : List ByteArray) {y : ByteArray} (h : xs[0]? = some y) : joinS (xs.take 1) dotB = y := by
  cases xs with
  | nil => simp at h
  | cons x r =>
    have : x = y := by simpa using h
    subst this
    apply ByteArray.ext
    apply Array.ext'
    rw [joinS_list]
    simp [Lib.join_one]
theorem joinS_snoc (xs : List ByteArray) {i : Nat} {y : ByteArray} (h : xs[i + 1]? = some y) : joinS (xs.take (i + 2)) dotB = joinS (xs.take (i + 1)) dotB ++ dotB ++ y := by
  cases xs with
  | nil => simp at h
  | cons x r =>
    simp only [List.getElem?_cons_succ] at h
    apply ByteArray.ext
    apply Array.ext'
    rw [ByteArray.data_append, ByteArray.data_append, Array.toList_append, Array.toList_append, joinS_list, joinS_list]
    simp only [List.take_succ_cons, List.map_cons, List.map_take]
    rw [Lib.join_cons, Lib.join_cons, Lib.joinTail_take_succ _ _ i y.data.toList (by rw [List.getElem?_map, h]; rfl)]
    simp
theorem loop120 {o : List Dim} {p : List Int} (ok : OutOk o) (hf : Fit o p) : lpO (S120_L1 o p) ((⟨#[]⟩ : ByteArray), (0 : Int)) = some (.inl (printL o p, ((p.length : Nat) : Int))) := by
  have hlen := ok.len
  have hpl := hf.len
  have hnl := names_len hf
  have hz : (p.zip o).length = p.length := by rw [List.length_zip, ← hf.len, Nat.min_self]
  have hsz : ∀ i, (joinS ((namesL o p).take i) dotB).size ≤ 36 := fun i => by
    have := joinS_size (xs := (namesL o p).take i) fun x hx => (name_props ok hf x (List.mem_of_mem_take hx)).1
    rw [List.length_take] at this
    omega
  have hs := seq_loop (B := S120_L1 o p) (fun i => (joinS ((namesL o p).take i) dotB, (i : Int))) p.length (fun i hi => by
    have hx := List.getElem?_eq_getElem (by omega : i < (p.zip o).length)
    obtain ⟨k, m, h1, h2, h3, h4, h5⟩ := name_at hf hx
    have hn : (namesL o p)[i]? = some m.name := by
      unfold namesL
      rw [List.getElem?_map, hx]
      simp only [Option.map_some, h5]
    have hm := (name_props ok hf _ (List.mem_of_getElem? hn)).1
    have hi36 := hsz i
    rw [h1] at h2
    simp only [S120_L1]
    rw [br_dec, if_pos (by omega)]
    cases i with
    | zero =>
      rw [br_dec, if_neg (by omega)]
      simp only [inlO_s, jn_l, lookI_nat, h2, h3, bno_s, h4]
      rw [ck_pos (by omega), wiid (by omega) (by omega)]
      have e : joinS ((namesL o p).take 1) dotB = m.name := joinS_zero _ hn
      have e0 : joinS ((namesL o p).take 0) dotB ++ m.name = m.name := by
        apply ByteArray.ext
        rw [ByteArray.data_append]
        simp [joinS, Lib.join_nil]
      rw [e0]
      show some (LR.nx (m.name, ((0 : Nat) : Int) + 1)) = some (LR.nx (joinS ((namesL o p).take 1) dotB, ((1 : Nat) : Int)))
      rw [e]
      rfl
    | succ i =>
      have d1 : ByteArray.size (⟨#[46]⟩ : ByteArray) = 1 := rfl
      rw [br_dec, if_pos (by omega), ck_pos (by omega)]
      simp only [inlO_s, jn_l, lookI_nat, h2, h3, bno_s, h4]
      rw [ck_pos (by rw [ByteArray.size_append]; omega), wiid (by omega) (by omega)]
      have e := joinS_snoc _ hn
      show some (LR.nx (joinS ((namesL o p).take (i + 1)) dotB ++ dotB ++ m.name, ((i + 1 : Nat) : Int) + 1)) = some (LR.nx (joinS ((namesL o p).take (i + 2)) dotB, ((i + 2 : Nat) : Int)))
      rw [e]
      congr 3)
  have e0 : ((⟨#[]⟩ : ByteArray), (0 : Int)) = (joinS ((namesL o p).take 0) dotB, ((0 : Nat) : Int)) := rfl
  rw [e0, hs, lpO_dn (y := (joinS ((namesL o p).take p.length) dotB, ((p.length : Nat) : Int))) (by simp only [S120_L1]; rw [br_dec, if_neg (by omega)]; rfl), ← hnl, List.take_length]
  rfl
theorem P140_eq {o : List Dim} {p : List Int} (ok : OutOk o) (hf : Fit o p) : P140 o p = some ((numN o p : Nat) : Int) := by
  have hlen := ok.len
  have hpl := hf.len
  have hsame : S140_L1 o p = S49_L1 o p := by
    funext x
    simp only [S140_L1, S49_L1]
    cases lookI o x.2 <;> cases lookI p x.2 <;> rfl
  have h := P49_eq hf.len (by omega : p.length ≤ 9223372036854775807)
  rw [numW_eq ok hf] at h
  rw [← h]
  simp only [P140, S140, P49, S49, hsame]
theorem p120 (o : List Dim) (p : List Int) (hp : p.length ≤ 9223372036854775807) (n : Int) (s : ByteArray) (hs : s.size ≤ 1048576) : P120 o p n s = some true := by
  have e141 : P141 o p = some (if placeE o p = 0 then (leafP o p, .nil) else (false, errOf (placeE o p))) := by
    simp only [P141, S141, P114_eq o p hp, bno_s, errOf_nil]
    by_cases h0 : placeE o p = 0
    · obtain ⟨ok, hf⟩ := place_ok.1 h0
      simp [h0, P59_eq hf hp fun d hd => by have := (ok.dims d hd).len; omega]
    · simp [h0]
  have e3 : ∀ k : Int → Option Bool, jn (σ := Int) (α := Bool) (br (decide ((outErr o).2.2 = 0)) (bno (P123 o p) fun y2 => inlO (some y2)) (inlO (some (outErr o).2.2))) k = k (placeE o p) := by
    intro k; unfold placeE; by_cases h1 : (outErr o).2.2 = 0 <;> simp [h1, P123_eq o p hp]
  simp only [P120, S120, P125_eq, bno_s, e3, P114_eq o p hp, P92_errOf, P132_eq o p hp, e141, P133_eq o p hp, P93_eq, P98_eq, P131_eq o s hs, decide_true]
  by_cases hout : (outErr o).2.2 = 0
  · have ok := out_ok.1 hout
    have hol := ok.len
    have hz := ok.sizeN
    have hl1 : ∀ d ∈ o, 0 < d.members.length ∧ d.members.length ≤ 1000000 := fun d hd => by have := (ok.dims d hd).len; omega
    have e106 := P106_eq o (by omega)
    have e143 := P143_eq ok s hs
    have hrl := read_len o s
    have e28r := P28_eq (readL o s).1 (readL o s).1 (by omega)
    rw [decide_eq_true rfl] at e28r
    have e28e : P28 ([] : List Int) [] = some true := by have := P28_eq ([] : List Int) [] (by simp); simpa using this
    have e142 : ¬ (n < 0 ∨ sizeW o ≤ n) → P142 o n = some (digs o n.toNat).1 := by
      intro hn
      obtain ⟨u, rfl⟩ : ∃ u : Nat, n = (u : Int) := ⟨n.toNat, by omega⟩
      rw [P142_eq o u (by omega) (by omega) hl1, Int.toNat_natCast]
    have hdl : (digs o n.toNat).1.length = o.length := digs_len o _
    have e28d := P28_eq (digs o n.toNat).1 (digs o n.toNat).1 (by omega)
    rw [decide_eq_true rfl] at e28d
    have pl : ∀ k : (Int × ByteArray × Bool) → Option Bool, jn (σ := (Int × ByteArray × Bool)) (α := Bool) (br (decide (placeE o p = 0)) (bno (P140 o p) fun y6 => bno (P130 o p) fun y7 => lp (S120_L1 o p) ((⟨#[]⟩ : ByteArray), (0 : Int)) fun x13 => inlO (some (y6, x13.1, y7))) (inlO (some ((0 : Int), (⟨#[]⟩ : ByteArray), false)))) k
        = k (if placeE o p = 0 then (((numN o p : Nat) : Int), printL o p, leafP o p) else ((0 : Int), (⟨#[]⟩ : ByteArray), false)) := by
      intro k
      by_cases h0 : placeE o p = 0
      · obtain ⟨_, hf⟩ := place_ok.1 h0
        have e130 := P130_eq hf hp fun d hd => by have := (ok.dims d hd).len; omega
        simp only [h0, decide_true, br_true, P140_eq ok hf, e130, bno_s, lp_eq, loop120 ok hf, jn_l, inlO_s, if_true]
      · simp [h0]
    rw [pl]
    simp only [hout, decide_true, br_true, if_true, e106, e143, bno_s, inlO_s, jn_l]
    by_cases h1 : n < 0
    · by_cases h0 : placeE o p = 0 <;> simp [h0, h1, e28e, e28r]
    · by_cases h2 : sizeW o ≤ n
      · by_cases h0 : placeE o p = 0 <;> simp [h0, h1, h2, e28e, e28r]
      · by_cases h0 : placeE o p = 0 <;> simp [h0, h1, h2, e28d, e28r, e142 (by omega)]
  · have h0 : ¬ placeE o p = 0 := fun h => hout (out_ok.2 (place_ok.1 h).1)
    have e28e : P28 ([] : List Int) [] = some true := by have := P28_eq ([] : List Int) [] (by simp); simpa using this
    simp [hout, h0, e28e]
end Ab
