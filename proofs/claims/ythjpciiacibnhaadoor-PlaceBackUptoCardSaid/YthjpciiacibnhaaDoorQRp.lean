/-
  Plain laws: of which leafs a place is, in both ways of counting.
-/
import Derived.Test.YthjpciiacibnhaaDoorQRo
import Derived.Test.YthjpciiacibnhaaDoorQN
namespace Ab
open Go
set_option linter.unusedVariables false
set_option linter.unusedSimpArgs false

theorem leafs_len' (l : List Member) (i : Int) : (leafsOf l i).length ≤ l.length := idxs_len _ _
/-! ### numbers of places -/
theorem P142_eq (o : List Dim) (n : Nat) (hl : o.length ≤ 1000) (hn : n ≤ 1000000000) (hp : ∀ d ∈ o, 0 < d.members.length ∧ d.members.length ≤ 1000000) : P142 o (n : Int) = some (digs o n).1 := by
  have hsame : S142_L1 o = S69_L1 o := rfl
  have := P69_eq o n hl hn hp
  simp only [P69, S69, Int.toNat_natCast, List.length_replicate] at this
  simp only [P142, S142, Int.toNat_natCast, hsame]
  exact this
/-! ### lists of leafs -/
def leafPl (o : List Dim) (p : List Int) : List (List Int) := (p.zip o).foldl (fun out x => out.flatMap fun q => (leafsOf x.2.members x.1).map fun k => q ++ [k]) [[]]
theorem L1_eq (y5 y7 : List Int) (acc : List (List Int)) (h : acc.length + y7.length ≤ 1000000) (h5 : y5.length ≤ 1000) : lpO (S127_L1 y5 y7) (acc, 0) = some (.inl (acc ++ y7.map (fun k => y5 ++ [k]), (y7.length : Int))) := by
  have hs := seq_loop (B := S127_L1 y5 y7) (fun i => (acc ++ (y7.take i).map (fun k => y5 ++ [k]), (i : Int))) y7.length (fun i hi => by
    have e : ((i : Nat) : Int) < ((y7.length : Nat) : Int) := by omega
    have c1 : y5.length ≤ roomA := by unfold roomA; omega
    have c2 : y5.length + 1 ≤ roomA := by unfold roomA; omega
    have c3 : (acc ++ (y7.take i).map (fun k => y5 ++ [k])).length + 1 ≤ roomA := by simp; unfold roomA; omega
    have et : (y7.take (i + 1)).map (fun k => y5 ++ [k]) = (y7.take i).map (fun k => y5 ++ [k]) ++ [y5 ++ [y7[i]]] := by
      rw [List.take_succ_eq_append_getElem hi, List.map_append]; rfl
    simp only [S127_L1, e, decide_true, br_true, lookI_nat, List.getElem?_eq_getElem hi, bno_s, List.length_singleton, ck_pos c1, ck_pos c2, ck_pos c3, nxO_s, et]
    rw [wiid (by omega) (by omega), List.append_assoc]; rfl)
  simp only [List.take_length, List.take_zero, List.map_nil, List.append_nil] at hs
  exact hs.trans (lpO_dn (by simp [S127_L1]))
theorem L2_eq {o : List Dim} (out : List (List Int)) (i : Nat) (d : Dim) (m : Int) (hd : o[i]? = some d) (hr : Rooted d.members) (hm : d.members.length ≤ 12) (h : out.length * 12 ≤ 1000000 - 100) (hq : ∀ q ∈ out, q.length ≤ 1000) :
    lpO (S127_L2 P46 o (out, (i : Int)) m) ([], 0) = some (.inl (out.flatMap (fun q => (leafsOf d.members m).map fun k => q ++ [k]), (out.length : Int))) := by
  have hll := leafs_len' d.members m
  have hlen : ∀ l : List (List Int), (l.flatMap fun q => (leafsOf d.members m).map fun k => q ++ [k]).length = l.length * (leafsOf d.members m).length := by
    intro l
    induction l with
    | nil => simp
    | cons a l ih => rw [List.flatMap_cons, List.length_append, ih, List.length_map, List.length_cons, Nat.add_mul, Nat.one_mul, Nat.add_comm]
  have hs := seq_loop (B := S127_L2 P46 o (out, (i : Int)) m) (fun j => ((out.take j).flatMap (fun q => (leafsOf d.members m).map fun k => q ++ [k]), (j : Int))) out.length (fun j hj => by
    have e : ((j : Nat) : Int) < ((out.length : Nat) : Int) := by omega
    have hql := hq _ (List.getElem_mem hj)
    have et : (out.take (j + 1)).flatMap (fun q => (leafsOf d.members m).map fun k => q ++ [k]) = (out.take j).flatMap (fun q => (leafsOf d.members m).map fun k => q ++ [k]) ++ (leafsOf d.members m).map fun k => out[j] ++ [k] := by
      rw [List.take_succ_eq_append_getElem hj, List.flatMap_append]; simp
    have hb : ((out.take j).flatMap (fun q => (leafsOf d.members m).map fun k => q ++ [k])).length + (leafsOf d.members m).length ≤ 1000000 := by
      rw [hlen, List.length_take, Nat.min_eq_left (by omega)]
      have : j * (leafsOf d.members m).length ≤ out.length * 12 := Nat.mul_le_mul (by omega) (by omega)
      omega
    simp only [S127_L2, e, decide_true, br_true, lookI_nat, List.getElem?_eq_getElem hj, hd, bno_s, P46_eq hr (by omega : d.members.length ≤ 1000), lp_eq, L1_eq _ _ _ hb hql, jn_l, nxO_s, et]
    rw [wiid (by omega) (by omega)]; rfl)
  simp only [List.take_length, List.take_zero, List.flatMap_nil] at hs
  exact hs.trans (lpO_dn (by simp [S127_L2]))
theorem fold_prop {o : List Dim} {p : List Int} (ok : OutOk o) (hf : Fit o p) : ∀ i, i ≤ p.length → (((p.zip o).take i).foldl (fun out x => out.flatMap fun q => (leafsOf x.2.members x.1).map fun k => q ++ [k]) [[]]).length ≤ 12 ^ i ∧
    ∀ q ∈ (((p.zip o).take i).foldl (fun out x => out.flatMap fun q => (leafsOf x.2.members x.1).map fun k => q ++ [k]) [[]]), q.length = i := by
  intro i
  induction i with
  | zero => intro _; simp
  | succ i ih =>
    intro hi
    obtain ⟨h1, h2⟩ := ih (by omega)
    have hpl := hf.len
    have hx : (p.zip o)[i]? = some (p[i], o[i]'(by omega)) := List.getElem?_zip_eq_some.2 ⟨List.getElem?_eq_getElem (by omega), List.getElem?_eq_getElem (by omega)⟩
    have hd := ok.dims _ (List.getElem_mem (by omega : i < o.length))
    have hll := leafs_len' o[i].members p[i]
    have hdl := hd.len
    rw [fold_take _ _ _ hx]
    generalize ((p.zip o).take i).foldl (fun out x => out.flatMap fun q => (leafsOf x.2.members x.1).map fun k => q ++ [k]) [[]] = out at h1 h2
    have hlen : ∀ l : List (List Int), (l.flatMap fun q => (leafsOf o[i].members p[i]).map fun k => q ++ [k]).length = l.length * (leafsOf o[i].members p[i]).length := by
      intro l
      induction l with
      | nil => simp
      | cons a l ih => rw [List.flatMap_cons, List.length_append, ih, List.length_map, List.length_cons, Nat.add_mul, Nat.one_mul, Nat.add_comm]
    refine ⟨?_, fun q hq => ?_⟩
    · show (out.flatMap fun q => (leafsOf o[i].members p[i]).map fun k => q ++ [k]).length ≤ _
      rw [hlen, Nat.pow_succ]
      exact Nat.mul_le_mul h1 (by omega)
    · obtain ⟨q0, hq0, hq1⟩ := List.mem_flatMap.1 hq
      obtain ⟨k, _, rfl⟩ := List.mem_map.1 hq1
      simp [h2 q0 hq0]
def placeE (o : List Dim) (p : List Int) : Int := if (outErr o).2.2 = 0 then fitsE o p else (outErr o).2.2
theorem P114_eq (o : List Dim) (p : List Int) (h : p.length ≤ 9223372036854775807) : P114 o p = some (errOf (placeE o p)) := by
  simp only [P114, S114, P51_eq, bno_s, errOf_nil, placeE]
  by_cases h0 : (outErr o).2.2 = 0 <;> simp [h0, P58_eq o p h]
theorem place_ok {o : List Dim} {p : List Int} : placeE o p = 0 ↔ OutOk o ∧ Fit o p := by
  unfold placeE
  by_cases h0 : (outErr o).2.2 = 0
  · rw [if_pos h0, fits_ok]; exact ⟨fun h => ⟨out_ok.1 h0, h⟩, fun h => h.2⟩
  · rw [if_neg h0]; exact ⟨fun h => absurd h h0, fun h => absurd (out_ok.2 h.1) h0⟩
theorem P127_eq (o : List Dim) (p : List Int) (h : p.length ≤ 9223372036854775807) : P127 o p = some (if placeE o p = 0 then (leafPl o p, .nil) else ([], errOf (placeE o p))) := by
  simp only [P127, S127, P114_eq o p h, bno_s, errOf_nil]
  by_cases h0 : placeE o p = 0
  case neg => simp [h0]
  obtain ⟨ok, hf⟩ := place_ok.1 h0
  have hpl := hf.len
  have hol := ok.len
  have hz : (p.zip o).length = p.length := by rw [List.length_zip, ← hpl, Nat.min_self]
  have hs := seq_loop (B := S127_L3 P46 o p) (fun i => (((p.zip o).take i).foldl (fun out x => out.flatMap fun q => (leafsOf x.2.members x.1).map fun k => q ++ [k]) [[]], (i : Int))) p.length (fun i hi => by
    have e : ((i : Nat) : Int) < ((p.length : Nat) : Int) := by omega
    obtain ⟨h1, h2⟩ := fold_prop ok hf i (by omega)
    have hpw := pow_le (by omega : i ≤ 4)
    have hx : (p.zip o)[i]? = some (p[i], o[i]'(by omega)) := List.getElem?_zip_eq_some.2 ⟨List.getElem?_eq_getElem hi, List.getElem?_eq_getElem (by omega)⟩
    have hd := ok.dims _ (List.getElem_mem (by omega : i < o.length))
    have hdl := hd.len
    rw [fold_take _ _ _ hx]
    generalize ((p.zip o).take i).foldl (fun out x => out.flatMap fun q => (leafsOf x.2.members x.1).map fun k => q ++ [k]) [[]] = out at h1 h2
    have := L2_eq (o := o) out i o[i] p[i] (List.getElem?_eq_getElem (by omega)) hd.rooted (by omega) (by omega) (fun q hq => by rw [h2 q hq]; omega)
    simp only [S127_L3, e, decide_true, br_true, lookI_nat, List.getElem?_eq_getElem hi, bno_s, lp_eq, this, jn_l, nxO_s]
    rw [wiid (by omega) (by omega)]; rfl)
  have ht : (p.zip o).take p.length = p.zip o := by rw [← hz, List.take_length]
  rw [ht] at hs
  have hs : lpO (S127_L3 P46 o p) ([[]], 0) = some (.inl (leafPl o p, (p.length : Int))) := hs.trans (lpO_dn (by simp [S127_L3, leafPl]))
  simp [h0, lp_eq, hs]
/-- All places, and those of them that are below. -/
def isBelow (o : List Dim) (p q : List Int) : Bool := leafP o q && (pwL (zip3 o p q)).isSome
theorem P126_eq {o : List Dim} {p : List Int} (ok : OutOk o) (hf : Fit o p) : P126 o p = some (((List.range (sizeN o)).map fun n => (digs o n).1).filter (isBelow o p)) := by
  obtain ⟨hsz, hle⟩ := ok.sizeN
  have hol := ok.len
  have hdm : ∀ d ∈ o, d.members.length ≤ 1000 := fun d hd => by have := (ok.dims d hd).len; omega
  have hs := seq_loop (B := S126_L1 P129 P130 P142 o p ((sizeN o : Nat) : Int)) (fun n => ((((List.range n).map fun n => (digs o n).1).filter (isBelow o p)), (n : Int))) (sizeN o) (fun n hn => by
    have e : ((n : Nat) : Int) < ((sizeN o : Nat) : Int) := by omega
    have hq := digs_fit ok n
    have hql : (digs o n).1.length ≤ 9223372036854775807 := by rw [digs_len]; omega
    have hl : (((List.range n).map fun n => (digs o n).1).filter (isBelow o p)).length ≤ n := by
      refine Nat.le_trans (List.length_filter_le _ _) ?_; simp
    have c : (((List.range n).map fun n => (digs o n).1).filter (isBelow o p)).length + 1 ≤ roomA := by unfold roomA; omega
    have et : ((List.range (n + 1)).map fun n => (digs o n).1).filter (isBelow o p) = (((List.range n).map fun n => (digs o n).1).filter (isBelow o p)) ++ if isBelow o p (digs o n).1 = true then [(digs o n).1] else [] := by
      rw [List.range_succ, List.map_append, List.filter_append]
      simp only [List.map_cons, List.map_nil, List.filter_cons, List.filter_nil]
    simp only [S126_L1, e, decide_true, br_true, P142_eq o n (by omega) (by omega) (fun d hd => by have := (ok.dims d hd).len; omega), bno_s, P130_eq hq hql hdm, P129_eq ok hf hq, pwR, et, List.length_singleton, ck_pos c]
    rw [wiid (by omega) (by omega)]
    have hbl : isBelow o p (digs o n).1 = (leafP o (digs o n).1 && (pwL (zip3 o p (digs o n).1)).isSome) := rfl
    rw [hbl]
    generalize leafP o (digs o n).1 = x
    generalize pwL (zip3 o p (digs o n).1) = y
    cases x <;> cases y <;> simp)
  simp only [List.range_zero, List.map_nil, List.filter_nil] at hs
  have hs : lpO (S126_L1 P129 P130 P142 o p ((sizeN o : Nat) : Int)) ([], 0) = some (.inl (((List.range (sizeN o)).map fun n => (digs o n).1).filter (isBelow o p), ((sizeN o : Nat) : Int))) := hs.trans (lpO_dn (by simp [S126_L1]))
  simp only [P126, S126, P106_eq o (by omega), bno_s, hsz, lp_eq, hs, jn_l]

/-! ### the two are one -/
def belowF (x : Int × Dim) (k : Int) : Bool := (wl x.2.members x.1 (path x.2.members k)).isSome && leafB x.2.members k.toNat
theorem below_all : ∀ (o : List Dim) (p q : List Int), p.length = o.length → q.length = o.length → isBelow o p q = allIn ((p.zip o).map belowF) q
  | [], [], [], _, _ => rfl
  | d :: o, m :: p, k :: q, h1, h2 => by
    simp only [List.length_cons, Nat.add_right_cancel_iff] at h1 h2
    have ih := below_all o p q h1 h2
    have e1 : leafP (d :: o) (k :: q) = (leafB d.members k.toNat && leafP o q) := rfl
    have e2 : zip3 (d :: o) (m :: p) (k :: q) = ((m, d), k) :: zip3 o p q := rfl
    simp only [List.zip_cons_cons, List.map_cons, allIn, ← ih]
    unfold isBelow
    rw [e1, e2]
    simp only [pwL, belowF]
    cases wl d.members m (path d.members k) with
    | none => simp
    | some v => cases leafB d.members k.toNat <;> simp
  | [], _ :: _, _, h1, _ => by simp at h1
  | _ :: _, [], _, h1, _ => by simp at h1
  | [], [], _ :: _, _, h2 => by simp at h2
  | _ :: _, _ :: _, [], _, h2 => by simp at h2
theorem zipF : ∀ (o : List Dim) (p : List Int), p.length = o.length → List.zipWith (fun f l => l.filter f) ((p.zip o).map belowF) (o.map fun d => (List.range d.members.length).map fun (k : Nat) => (k : Int)) = (p.zip o).map fun x => leafsOf x.2.members x.1
  | [], [], _ => rfl
  | d :: o, m :: p, h => by
    simp only [List.length_cons, Nat.add_right_cancel_iff] at h
    simp only [List.zip_cons_cons, List.map_cons, List.zipWith_cons_cons, zipF o p h]
    congr 1
    rw [List.filter_map]
    rfl
  | [], _ :: _, h => by simp at h
  | _ :: _, [], h => by simp at h
theorem leafs_same {o : List Dim} {p : List Int} (ok : OutOk o) (hf : Fit o p) : ((List.range (sizeN o)).map fun n => (digs o n).1).filter (isBelow o p) = leafPl o p := by
  have hpos : ∀ d ∈ o, 0 < d.members.length := fun d hd => (ok.dims d hd).len.1
  have e1 : ((List.range (sizeN o)).map fun n => (digs o n).1).filter (isBelow o p) = ((List.range (sizeN o)).map fun n => (digs o n).1).filter (allIn ((p.zip o).map belowF)) :=
    List.filter_congr fun q hq => by
      obtain ⟨n, _, rfl⟩ := List.mem_map.1 hq
      exact below_all o p _ hf.len (digs_len o n)
  have hz : ((p.zip o).map belowF).length = (o.map fun d => (List.range d.members.length).map fun (k : Nat) => (k : Int)).length := by
    rw [List.length_map, List.length_map, List.length_zip, hf.len, Nat.min_self]
  rw [e1, places_cart o hpos, filter_cart _ _ hz, zipF o p hf.len]
  unfold leafPl
  have := cart_fold ((p.zip o).map fun x => leafsOf x.2.members x.1) [[]]
  rw [List.foldl_map] at this
  rw [this]
  simp
theorem P111_eq (o : List Dim) (p q : List Int) (h1 : p.length ≤ 9223372036854775807) (h2 : q.length ≤ 9223372036854775807) : P111 o p q = some (if placeE o p = 0 then (if placeE o q = 0 then (if ((pwL (zip3 o p q)).isSome && leafP o q) = true then ((pwR (zip3 o p q)).1, .nil) else (0, .no 3)) else (0, errOf (placeE o q))) else (0, errOf (placeE o p))) := by
  have w1 : wi 1 = 1 := by decide
  have w2 : wi 2 = 2 := by decide
  simp only [P111, S111, lp_eq]
  by_cases a : placeE o p = 0
  case neg =>
    have hB : S111_L1 P114 o p q 0 = some (.fin (0, errOf (placeE o p))) := by
      simp [S111_L1, P114_eq o p h1, errOf_nil, a]
    rw [lpO_fin hB]; simp [a]
  have hB : S111_L1 P114 o p q 0 = some (.nx 1) := by
    simp [S111_L1, P114_eq o p h1, errOf_nil, a, w1]
  rw [lpO_nx hB]
  by_cases b : placeE o q = 0
  case neg =>
    have hB : S111_L1 P114 o p q 1 = some (.fin (0, errOf (placeE o q))) := by
      simp [S111_L1, P114_eq o q h2, errOf_nil, b]
    rw [lpO_fin hB]; simp [a, b]
  have hB : S111_L1 P114 o p q 1 = some (.nx 2) := by
    simp [S111_L1, P114_eq o q h2, errOf_nil, b, w2]
  rw [lpO_nx hB, lpO_dn (y := 2) (by simp [S111_L1])]
  obtain ⟨ok, hp⟩ := place_ok.1 a
  obtain ⟨_, hq⟩ := place_ok.1 b
  have hdm : ∀ d ∈ o, d.members.length ≤ 1000 := fun d hd => by have := (ok.dims d hd).len; omega
  simp only [jn_l, P113_eq ok hp hq, bno_s, P59_eq hq h2 hdm, pwR, a, b, if_true]
  cases pwL (zip3 o p q) with
  | none => simp
  | some w => cases leafP o q <;> simp
theorem P128_eq (a b : List (List Int)) (h : a.length ≤ 9223372036854775807) (hx : ∀ x ∈ a, x.length ≤ 9223372036854775807) : P128 a b = some (decide (a = b)) := by
  simp only [P128, S128]
  by_cases hl : a.length = b.length
  · have e : ((a.length : Nat) : Int) = ((b.length : Nat) : Int) := by omega
    simp only [e, not_true, decide_false, br_false]
    refine same_loop a b hl (fun i x y hxi hy => ?_) (by simp [S128_L1])
    have hi := (List.getElem?_eq_some_iff.1 hxi).1
    have e : ((i : Nat) : Int) < ((a.length : Nat) : Int) := by omega
    simp only [S128_L1, e, decide_true, br_true, lookI_nat, hxi, hy, bno_s, P28_eq x y (hx x (List.mem_of_getElem? hxi))]
    rw [wiid (by omega) (by omega)]
    by_cases e : x = y <;> simp [e]
  · have e : ¬ ((a.length : Nat) : Int) = ((b.length : Nat) : Int) := by omega
    have e2 : ¬ a = b := fun e => hl (by rw [e])
    simp [e, e2]
end Ab
