/-
  Plain laws: what the functions of package fold come to.
-/
import Derived.Test.YtcabflannjeigaaMFo
import Derived.Test.YtcabflannjeigaaC4
import Derived.Test.YtcabflannjeigaaQC
import Derived.Test.YtcabflannjeigaaQI
namespace Ab
open Go
set_option linter.unusedVariables false
set_option linter.unusedSimpArgs false

theorem PClone_eq {α : Type} {xs : List α} (h : xs.length ≤ 1000000) : PClone xs = some xs := by
  unfold PClone
  rw [ck_pos (by unfold roomA; omega)]
theorem P70_eq (p : List Int) (dim : Nat) (k : Int) (h1 : dim < p.length) (hl : p.length ≤ 1000) : P70 p (dim : Int) k = some (p.set dim k) := by
  have e : P76 p = some p := PClone_eq (by omega)
  have hd : (0 : Int) ≤ (dim : Int) ∧ (dim : Int) < ((p.length : Nat) : Int) := by omega
  simp only [P70, S70, e, bno_s, ck_pos hd, Int.toNat_natCast, List.getElem?_eq_getElem h1]
theorem parts_up {l : List Member} (h : Rooted l) {i x : Int} (hx : x ∈ partsOf l i) : i < x ∧ 0 ≤ x ∧ x < l.length := by
  obtain ⟨k, rfl, h1, h2⟩ := mem_idxs.1 hx
  unfold isPart at h2
  rw [List.getElem?_eq_getElem h1] at h2
  simp only [decide_eq_true_eq] at h2
  have := h.up k _ (List.getElem?_eq_getElem h1)
  omega

section
variable (o : List Dim) (dim : Nat) (ms : List Member)
/-- The member of dim at a number; the number with another one. -/
def memAt (n : Nat) : Int := ((digs o n).1[dim]?).getD 0
def idxK (n : Nat) (k : Int) : Nat := numN o ((digs o n).1.set dim k)
def comb1 (cs : List Cell) (n : Nat) (c : Cell) (k : Int) : Cell := if sgn ms k = 0 then c else cplus c (cs.getD (idxK o dim n k) ⟨0, 0⟩) (sgn ms k)
/-- What parts come to. -/
def combC (cs : List Cell) (n : Nat) (ps : List Int) : Cell := ps.foldl (comb1 o dim ms cs n) ⟨0, 0⟩
def step1 (m : Nat) (cs : List Cell) (n : Nat) : List Cell := if memAt o dim n = (m : Int) then cs.set n (combC o dim ms cs n (partsOf ms m)) else cs
def stepC (i : Nat) (m : Nat) (cs : List Cell) : List Cell := (List.range i).foldl (step1 o dim ms m) cs
def fold1 (z : Nat) (cs : List Cell) (k : Nat) : List Cell := if partsOf ms ((ms.length - 1 - k : Nat) : Int) = [] then cs else stepC o dim ms z (ms.length - 1 - k) cs
/-- Folded by a dim. -/
def foldC (cs : List Cell) : List Cell := (List.range ms.length).foldl (fold1 o dim ms cs.length) cs
end

section
variable {o : List Dim} {dim : Nat} {d : Dim}
theorem step1_len (m n : Nat) (ms : List Member) (cs : List Cell) : (step1 o dim ms m cs n).length = cs.length := by unfold step1; split <;> simp
theorem stepC_len (m : Nat) (ms : List Member) (cs : List Cell) : ∀ i, (stepC o dim ms i m cs).length = cs.length
  | 0 => rfl
  | i + 1 => by
    have e : stepC o dim ms (i + 1) m cs = step1 o dim ms m (stepC o dim ms i m cs) i := by simp [stepC, List.range_succ]
    rw [e, step1_len, stepC_len m ms cs i]
theorem stepC_succ (m : Nat) (ms : List Member) (cs : List Cell) (i : Nat) : stepC o dim ms (i + 1) m cs = step1 o dim ms m (stepC o dim ms i m cs) i := by simp [stepC, List.range_succ]

/-- What is read is of another member. -/
theorem set_fit (ok : OutOk o) (hd : o[dim]? = some d) (n : Nat) {k : Int} (h0 : 0 ≤ k) (h1 : k < d.members.length) : Fit o ((digs o n).1.set dim k) := by
  have hf := digs_fit ok n
  refine ⟨by rw [List.length_set]; exact hf.len, fun i m e hm he => ?_⟩
  by_cases hi : dim = i
  · subst hi
    rw [hd] at he; cases he
    have hl : dim < (digs o n).1.length := by have := (List.getElem?_eq_some_iff.1 hm).1; simpa using this
    rw [List.getElem?_set_self hl] at hm
    cases hm
    exact ⟨h0, h1⟩
  · rw [List.getElem?_set_ne hi] at hm
    exact hf.mem i m e hm he
theorem idxK_lt (ok : OutOk o) (hd : o[dim]? = some d) (n : Nat) {k : Int} (h0 : 0 ≤ k) (h1 : k < d.members.length) : idxK o dim n k < sizeN o := num_lt (set_fit ok hd n h0 h1)
theorem idxK_mem (ok : OutOk o) (hd : o[dim]? = some d) (n : Nat) {k : Int} (h0 : 0 ≤ k) (h1 : k < d.members.length) : memAt o dim (idxK o dim n k) = k := by
  have hp : ∀ d ∈ o, 0 < d.members.length := fun d hd => (ok.dims d hd).len.1
  unfold memAt idxK
  rw [num_digs hp (set_fit ok hd n h0 h1)]
  have hl : dim < (digs o n).1.length := by rw [digs_len]; exact (List.getElem?_eq_some_iff.1 hd).1
  simp only [List.getElem?_set_self hl, Option.getD_some]

theorem comb_congr {cs cs' : List Cell} {ms : List Member} {n : Nat} : ∀ (ps : List Int) (c : Cell), (∀ k ∈ ps, cs.getD (idxK o dim n k) ⟨0, 0⟩ = cs'.getD (idxK o dim n k) ⟨0, 0⟩) → ps.foldl (comb1 o dim ms cs n) c = ps.foldl (comb1 o dim ms cs' n) c
  | [], _, _ => rfl
  | k :: ps, c, h => by
    have e : comb1 o dim ms cs n c k = comb1 o dim ms cs' n c k := by unfold comb1; rw [h k List.mem_cons_self]
    rw [List.foldl_cons, List.foldl_cons, e]
    exact comb_congr ps _ fun k hk => h k (List.mem_cons_of_mem _ hk)

variable (ok : OutOk o) (hd : o[dim]? = some d)
include ok hd
theorem rooted_d : Rooted d.members := (ok.dims d (List.mem_of_getElem? hd)).rooted
theorem stepC_get (m : Nat) (cs : List Cell) : ∀ (i n : Nat), (stepC o dim d.members i m cs)[n]? = if n < i ∧ n < cs.length ∧ memAt o dim n = (m : Int) then some (combC o dim d.members cs n (partsOf d.members m)) else cs[n]?
  | 0, n => by simp [stepC]
  | i + 1, n => by
    have ih := stepC_get m cs i
    have hc : combC o dim d.members (stepC o dim d.members i m cs) i (partsOf d.members m) = combC o dim d.members cs i (partsOf d.members m) := by
      refine comb_congr _ _ fun k hk => ?_
      obtain ⟨k1, k2, k3⟩ := parts_up (rooted_d ok hd) hk
      have hm := idxK_mem ok hd i k2 k3
      rw [List.getD_eq_getElem?_getD, List.getD_eq_getElem?_getD, ih, if_neg (fun hh => by have := hh.2.2; omega)]
    rw [stepC_succ]
    unfold step1
    by_cases hm : memAt o dim i = (m : Int)
    · rw [if_pos hm, hc]
      by_cases hn : i = n
      · subst hn
        by_cases hl : i < cs.length
        · rw [List.getElem?_set_self (by rw [stepC_len]; exact hl), if_pos ⟨by omega, hl, hm⟩]
        · rw [if_neg (fun hh => hl hh.2.1), List.getElem?_eq_none (by rw [List.length_set, stepC_len]; omega), List.getElem?_eq_none (by omega)]
      · rw [List.getElem?_set_ne hn, ih]
        by_cases hh : n < i ∧ n < cs.length ∧ memAt o dim n = (m : Int)
        · rw [if_pos hh, if_pos ⟨by omega, hh.2⟩]
        · rw [if_neg hh, if_neg (fun h2 => hh ⟨by omega, h2.2⟩)]
    · rw [if_neg hm, ih]
      by_cases hh : n < i ∧ n < cs.length ∧ memAt o dim n = (m : Int)
      · rw [if_pos hh, if_pos ⟨by omega, hh.2⟩]
      · rw [if_neg hh, if_neg (fun h2 => ?_)]
        by_cases hn : n = i
        · subst hn; exact hm h2.2.2
        · exact hh ⟨by omega, h2.2⟩

/-- A member's cells are what its parts come to. -/
def Fixd (o : List Dim) (dim : Nat) (ms : List Member) (m : Nat) (cs : List Cell) : Prop := ∀ n, n < cs.length → memAt o dim n = (m : Int) → cs[n]? = some (combC o dim ms cs n (partsOf ms m))
omit ok hd in
theorem getD_of {cs cs' : List Cell} {n : Nat} (h : cs[n]? = cs'[n]?) : cs.getD n ⟨0, 0⟩ = cs'.getD n ⟨0, 0⟩ := by rw [List.getD_eq_getElem?_getD, List.getD_eq_getElem?_getD, h]
theorem comb_step (m m' : Nat) (hle : m' ≤ m) (cs : List Cell) (n : Nat) : combC o dim d.members (stepC o dim d.members cs.length m' cs) n (partsOf d.members m) = combC o dim d.members cs n (partsOf d.members m) := by
  refine comb_congr _ _ fun k hk => getD_of ?_
  obtain ⟨k1, k2, k3⟩ := parts_up (rooted_d ok hd) hk
  have hm := idxK_mem ok hd n k2 k3
  rw [stepC_get ok hd, if_neg (fun hh => by have := hh.2.2; omega)]
theorem fix_here (m : Nat) (cs : List Cell) : Fixd o dim d.members m (stepC o dim d.members cs.length m cs) := by
  intro n hn hm
  rw [stepC_len] at hn
  rw [comb_step ok hd m m (Nat.le_refl _), stepC_get ok hd, if_pos ⟨hn, hn, hm⟩]
theorem fix_keep {m m' : Nat} (hlt : m' < m) {cs : List Cell} (h : Fixd o dim d.members m cs) : Fixd o dim d.members m (stepC o dim d.members cs.length m' cs) := by
  intro n hn hm
  rw [stepC_len] at hn
  rw [comb_step ok hd m m' (by omega), stepC_get ok hd, if_neg (fun hh => by have := hh.2.2; omega)]
  exact h n hn hm
theorem fold_fix (cs : List Cell) : ∀ k, k ≤ d.members.length → ((List.range k).foldl (fold1 o dim d.members cs.length) cs).length = cs.length ∧ ∀ m, d.members.length - k ≤ m → m < d.members.length → ¬ partsOf d.members m = [] → Fixd o dim d.members m ((List.range k).foldl (fold1 o dim d.members cs.length) cs)
  | 0, _ => ⟨rfl, fun m h1 h2 => by omega⟩
  | k + 1, hk => by
    obtain ⟨h1, h2⟩ := fold_fix cs k (by omega)
    rw [List.range_succ, List.foldl_append, List.foldl_cons, List.foldl_nil]
    generalize (List.range k).foldl (fold1 o dim d.members cs.length) cs = c1 at h1 h2 ⊢
    unfold fold1
    rw [← h1]
    split
    · rename_i hp
      refine ⟨rfl, fun m h3 h4 h5 => ?_⟩
      by_cases e : m = d.members.length - 1 - k
      · subst e; exact absurd hp h5
      · exact h2 m (by omega) h4 h5
    · rename_i hp
      refine ⟨stepC_len _ _ _ _, fun m h3 h4 h5 => ?_⟩
      by_cases e : m = d.members.length - 1 - k
      · subst e; exact fix_here ok hd _ _
      · exact fix_keep ok hd (by omega) (h2 m (by omega) h4 h5)
theorem foldC_len (cs : List Cell) : (foldC o dim d.members cs).length = cs.length := (fold_fix ok hd cs d.members.length (Nat.le_refl _)).1

/-! ### the code -/
theorem foldL1 (cs : List Cell) (hc : cs.length = sizeN o) (n : Nat) (ps : List Int) (hps : ∀ k ∈ ps, 0 ≤ k ∧ k < d.members.length) (hl : ps.length ≤ 1000) (i0 : Int) :
    lpO (S54_L1 P33 P49 P70 o (dim : Int) d ps (i0, cs) (digs o n).1) (0, (0, 0)) = some (.inl ((ps.length : Int), ((combC o dim d.members cs n ps).k, (combC o dim d.members cs n ps).n))) := by
  have hdl : dim < o.length := (List.getElem?_eq_some_iff.1 hd).1
  have hs := seq_loop (B := S54_L1 P33 P49 P70 o (dim : Int) d ps (i0, cs) (digs o n).1) (fun i => ((i : Int), (((ps.take i).foldl (comb1 o dim d.members cs n) ⟨0, 0⟩).k, ((ps.take i).foldl (comb1 o dim d.members cs n) ⟨0, 0⟩).n))) ps.length (fun i hi => by
    have e : ((i : Nat) : Int) < ((ps.length : Nat) : Int) := by omega
    have hg := List.getElem?_eq_getElem hi
    obtain ⟨k0, k1⟩ := hps ps[i] (List.getElem_mem hi)
    have hkn : ps[i].toNat < d.members.length := by omega
    have hm : lookI d.members ps[i] = some d.members[ps[i].toNat] := lookI_in k0 k1
    have hsg : sgn d.members ps[i] = d.members[ps[i].toNat].sign := by simp only [sgn, List.getElem?_eq_getElem hkn]
    have h70 : P70 (digs o n).1 (dim : Int) ps[i] = some ((digs o n).1.set dim ps[i]) := P70_eq _ _ _ (by rw [digs_len]; exact hdl) (by rw [digs_len]; have := ok.len.2; omega)
    have hf := set_fit ok hd n k0 k1
    have h49 : P49 o ((digs o n).1.set dim ps[i]) = some ((idxK o dim n ps[i] : Nat) : Int) := by
      rw [P49_eq hf.len (by rw [hf.len]; have := ok.len.2; omega), numW_eq ok hf]; rfl
    have hlt := idxK_lt ok hd n k0 k1
    have hck : (0 : Int) ≤ ((idxK o dim n ps[i] : Nat) : Int) ∧ ((idxK o dim n ps[i] : Nat) : Int) < ((cs.length : Nat) : Int) := by omega
    have hget := List.getElem?_eq_getElem (l := cs) (i := idxK o dim n ps[i]) (by omega)
    have hgd : cs.getD (idxK o dim n ps[i]) ⟨0, 0⟩ = cs[idxK o dim n ps[i]]'(by omega) := by rw [List.getD_eq_getElem?_getD, hget]; rfl
    rw [fold_take _ _ _ hg]
    generalize (ps.take i).foldl (comb1 o dim d.members cs n) ⟨0, 0⟩ = c
    have hw : wi ((i : Int) + 1) = ((i + 1 : Nat) : Int) := by rw [wiid (by omega) (by omega)]; omega
    by_cases h0 : d.members[ps[i].toNat].sign = 0
    · simp [S54_L1, e, lookI_nat, hg, hm, h0, hw, comb1, hsg]
    · simp only [S54_L1, e, decide_true, br_true, lookI_nat, hg, bno_s, hm, h0, not_false_eq_true, h70, h49, ck_pos hck, Int.toNat_natCast, hget, P33_eq, inlO_s, jn_l, nxO_s, hw]
      simp only [comb1, hsg, if_neg h0, hgd])
  simp only [List.take_zero, List.foldl_nil, List.take_length] at hs
  refine hs.trans (lpO_dn ?_)
  simp [S54_L1, combC]

theorem foldL2 (cs : List Cell) (hc : cs.length = sizeN o) (m : Nat) (hm : m < d.members.length) :
    lpO (S54_L2 P33 P49 P69 P70 o (dim : Int) d ((m : Int), cs) (partsOf d.members m)) (0, cs) = some (.inl ((cs.length : Int), stepC o dim d.members cs.length m cs)) := by
  have hdl : dim < o.length := (List.getElem?_eq_some_iff.1 hd).1
  have hz := ok.sizeN.2
  have hs := seq_loop (B := S54_L2 P33 P49 P69 P70 o (dim : Int) d ((m : Int), cs) (partsOf d.members m)) (fun i => ((i : Int), stepC o dim d.members i m cs)) cs.length (fun i hi => by
    have e : ((i : Nat) : Int) < ((cs.length : Nat) : Int) := by omega
    have h69 : P69 o (i : Int) = some (digs o i).1 := P69_eq o i (by have := ok.len.2; omega) (by omega) fun d hd => by have := (ok.dims d hd).len; omega
    have hl : dim < (digs o i).1.length := by rw [digs_len]; exact hdl
    have hlk : lookI (digs o i).1 (dim : Int) = some (memAt o dim i) := by rw [lookI_nat, memAt, List.getElem?_eq_getElem hl]; rfl
    have hw : wi ((i : Int) + 1) = ((i + 1 : Nat) : Int) := by rw [wiid (by omega) (by omega)]; omega
    have hlen := stepC_len (o := o) (dim := dim) m d.members cs i
    have h1 := foldL1 ok hd (stepC o dim d.members i m cs) (by rw [hlen]; exact hc) i (partsOf d.members m) (fun k hk => (parts_up (rooted_d ok hd) hk).2) (by have := idxs_len (isPart d.members m) d.members.length; have := (ok.dims d (List.mem_of_getElem? hd)).len.2; unfold partsOf; omega) (i : Int)
    rw [stepC_succ]
    unfold step1
    by_cases h0 : memAt o dim i = (m : Int)
    · have hck : (0 : Int) ≤ (i : Int) ∧ (i : Int) < (((stepC o dim d.members i m cs).length : Nat) : Int) := by rw [hlen]; omega
      have hget := List.getElem?_eq_getElem (l := stepC o dim d.members i m cs) (i := i) (by rw [hlen]; exact hi)
      simp only [S54_L2, e, decide_true, br_true, h69, bno_s, hlk, h0, not_true, decide_false, br_false, lp_eq, h1, jn_l, ck_pos hck, Int.toNat_natCast, hget, inlO_s, nxO_s, hw, if_true]
    · simp only [S54_L2, e, decide_true, br_true, h69, bno_s, hlk, h0, not_false_eq_true, inlO_s, jn_l, nxO_s, hw, if_false])
  refine hs.trans (lpO_dn ?_)
  simp [S54_L2]

theorem P54_eq (cs : List Cell) (hc : cs.length = sizeN o) : P54 o cs (dim : Int) = some (foldC o dim d.members cs) := by
  have hdo := ok.dims d (List.mem_of_getElem? hd)
  have hlen := hdo.len
  have hs := seq_loop (B := S54_L3 P33 P47 P49 P69 P70 o (dim : Int) d) (fun k => ((d.members.length : Int) - 1 - k, (List.range k).foldl (fold1 o dim d.members cs.length) cs)) d.members.length (fun k hk => by
    have hm : d.members.length - 1 - k < d.members.length := by omega
    have ei : (d.members.length : Int) - 1 - (k : Int) = ((d.members.length - 1 - k : Nat) : Int) := by omega
    have h0 : (0 : Int) ≤ ((d.members.length - 1 - k : Nat) : Int) := by omega
    have h47 : P47 d ((d.members.length - 1 - k : Nat) : Int) = some (partsOf d.members ((d.members.length - 1 - k : Nat) : Int)) := P47_eq (by omega) _
    have hw : wi (((d.members.length - 1 - k : Nat) : Int) - 1) = (d.members.length : Int) - 1 - ((k + 1 : Nat) : Int) := by rw [wiid (by omega) (by omega)]; omega
    obtain ⟨f1, _⟩ := fold_fix ok hd cs k (by omega)
    rw [List.range_succ, List.foldl_append, List.foldl_cons, List.foldl_nil, ei]
    generalize (List.range k).foldl (fold1 o dim d.members cs.length) cs = c1 at f1 ⊢
    have h2 := foldL2 ok hd c1 (by omega) (d.members.length - 1 - k) hm
    unfold fold1
    by_cases hp : partsOf d.members ((d.members.length - 1 - k : Nat) : Int) = []
    · have e0 : (((partsOf d.members ((d.members.length - 1 - k : Nat) : Int)).length : Nat) : Int) = 0 := by rw [hp]; rfl
      simp only [S54_L3, h0, decide_true, br_true, h47, bno_s, e0, inlO_s, jn_l, nxO_s, hw, if_pos hp]
    · have e0 : ¬ (((partsOf d.members ((d.members.length - 1 - k : Nat) : Int)).length : Nat) : Int) = 0 := by
        intro h
        exact hp (List.eq_nil_of_length_eq_zero (by omega))
      simp only [S54_L3, h0, decide_true, br_true, h47, bno_s, e0, decide_false, br_false, lp_eq, h2, inlO_s, jn_l, nxO_s, hw, if_neg hp, f1])
  have e1 : wi (((d.members.length : Nat) : Int) - 1) = (d.members.length : Int) - 1 - ((0 : Nat) : Int) := by rw [wiid (by omega) (by omega)]; omega
  have e2 : (d.members.length : Int) - 1 - ((d.members.length : Nat) : Int) = -1 := by omega
  simp only [List.range_zero, List.foldl_nil, e2] at hs
  have hs : lpO (S54_L3 P33 P47 P49 P69 P70 o (dim : Int) d) ((d.members.length : Int) - 1 - ((0 : Nat) : Int), cs) = some (.inl (-1, foldC o dim d.members cs)) := hs.trans (lpO_dn (by simp [S54_L3, foldC]))
  simp only [P54, S54, lookI_nat, hd, bno_s, lp_eq, e1, hs, jn_l]
end

/-! ### cells that are right -/

section
variable {o : List Dim} {dim : Nat} {ms : List Member}
end

/-! ### once; what is written -/

def onceC (o : List Dim) (cs : List Cell) (dim : Int) : List Cell := match o[dim.toNat]? with | some d => foldC o dim.toNat d.members cs | none => []
/-- What is written. -/
def write1 (o : List Dim) (cs : List Cell) (e : Entry) : List Cell := cs.set (numN o e.at_) (cellOf e.n)
def writeC (o : List Dim) (l : List Entry) : List Cell := l.foldl (write1 o) (List.replicate (sizeN o) ⟨0, 0⟩)
theorem write_len (o : List Dim) : ∀ (l : List Entry) (cs : List Cell), (l.foldl (write1 o) cs).length = cs.length
  | [], _ => rfl
  | e :: l, cs => by rw [List.foldl_cons, write_len o l]; simp [write1]
theorem writeC_len (o : List Dim) (l : List Entry) : (writeC o l).length = sizeN o := by rw [writeC, write_len, List.length_replicate]
theorem P21_eq (o : List Dim) (l : List Entry) (ho : o.length ≤ 9223372036854775807) (hl : Lst Entry.gd l) : P21 o l = some (if entsE o l = 0 then (writeC o l, .nil) else ([], errOf (entsE o l))) := by
  simp only [P21, S21, P27_eq o l hl, bno_s, errOf_nil, P40_eq o ho]
  by_cases h0 : entsE o l = 0
  case neg => simp [h0]
  have eo := ents_ok.1 h0
  have ok := eo.out
  have hz := ok.sizeN
  have hck : (0 : Int) ≤ ((sizeN o : Nat) : Int) ∧ ((sizeN o : Nat) : Int) ≤ ((sizeN o : Nat) : Int) ∧ ((sizeN o : Nat) : Int) ≤ roomA := by unfold roomA; omega
  have hs := seq_loop (B := S21_L1 P49 P8 o l) (fun i => ((i : Int), (l.take i).foldl (write1 o) (List.replicate (sizeN o) ⟨0, 0⟩))) l.length (fun i hi => by
    have e : ((i : Nat) : Int) < ((l.length : Nat) : Int) := by omega
    have hg := List.getElem?_eq_getElem hi
    have hmem := List.getElem_mem hi
    have hf := eo.fit _ hmem
    have h49 : P49 o l[i].at_ = some ((numN o l[i].at_ : Nat) : Int) := by rw [P49_eq hf.len (by rw [hf.len]; exact ho), numW_eq ok hf]
    have hlt := num_lt hf
    rw [fold_take _ _ _ hg]
    have hlen : ((l.take i).foldl (write1 o) (List.replicate (sizeN o) ⟨0, 0⟩)).length = sizeN o := by rw [write_len, List.length_replicate]
    generalize (l.take i).foldl (write1 o) (List.replicate (sizeN o) ⟨0, 0⟩) = cs at hlen ⊢
    have hck : (0 : Int) ≤ ((numN o l[i].at_ : Nat) : Int) ∧ ((numN o l[i].at_ : Nat) : Int) < ((cs.length : Nat) : Int) := by omega
    have hget := List.getElem?_eq_getElem (l := cs) (i := numN o l[i].at_) (by omega)
    have hw : wi ((i : Int) + 1) = ((i + 1 : Nat) : Int) := by have := hl.1; rw [wiid (by omega) (by omega)]; omega
    simp only [S21_L1, e, decide_true, br_true, lookI_nat, hg, bno_s, h49, P8_eq, ck_pos hck, Int.toNat_natCast, hget, nxO_s, hw, write1])
  simp only [List.take_zero, List.foldl_nil, List.take_length] at hs
  have hs : lpO (S21_L1 P49 P8 o l) (0, List.replicate (sizeN o) ⟨0, 0⟩) = some (.inl ((l.length : Int), writeC o l)) := hs.trans (lpO_dn (by simp [S21_L1, writeC]))
  rw [h0, hz.1]
  simp only [decide_true, Bool.not_true, br_false, ck_pos hck, lp_eq, Int.toNat_natCast, hs, jn_l, if_true]
end Ab
