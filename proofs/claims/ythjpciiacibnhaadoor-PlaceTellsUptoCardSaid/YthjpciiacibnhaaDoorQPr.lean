/-
  Plain laws: places read from a text, and printed.
-/
import Derived.Test.YthjpciiacibnhaaDoorQSp
import Derived.Test.YthjpciiacibnhaaDoorQRp
namespace Ab
open Go
set_option linter.unusedVariables false
set_option linter.unusedSimpArgs false

/-! ### reading -/
def wheres (z : List (Dim × ByteArray)) : List Int := z.map fun x => whereM x.1.members x.2
def readL (o : List Dim) (s : ByteArray) : List Int × Int :=
  if ¬ (splitS s dotB).length = o.length then ([], 2)
  else if (wheres (o.zip (splitS s dotB))).any (fun x => decide (x < 0)) = true then ([], 5) else (wheres (o.zip (splitS s dotB)), 0)
theorem read_fail {o : List Dim} {s : ByteArray} (h : (readL o s).2 ≠ 0) : (readL o s).1 = [] := by
  unfold readL at h ⊢
  split
  · rfl
  · rename_i c
    rw [if_neg c] at h
    split
    · rfl
    · rename_i c2
      rw [if_neg c2] at h
      exact absurd rfl h
theorem read_len (o : List Dim) (s : ByteArray) : (readL o s).1.length ≤ o.length := by
  unfold readL
  split
  · simp
  · split
    · simp
    · simp [wheres]; omega
theorem idx_ge {β : Type} (p : β → Bool) (l : List β) : -1 ≤ idxOf p l := by
  unfold idxOf
  split <;> omega
theorem loop143 {o : List Dim} (ok : OutOk o) (w : List ByteArray) (hw : w.length = o.length) : ∀ (r : List (Dim × ByteArray)) (k : Nat) (q : List Int), (o.zip w).drop k = r → k + r.length = w.length → q.length ≤ k →
    lpO (S143_L1 P96 o w) (q, (k : Int)) = some (if (wheres r).any (fun x => decide (x < 0)) = true then .inr (([] : List Int), (5 : Int)) else .inl (q ++ wheres r, ((w.length : Nat) : Int))) := by
  have hz : (o.zip w).length = w.length := by rw [List.length_zip]; omega
  have hlen := ok.len
  intro r
  induction r with
  | nil =>
    intro k q hd hk hq
    have hk' : k = w.length := by simpa using hk
    subst hk'
    refine (lpO_dn (y := (q, ((w.length : Nat) : Int))) ?_).trans ?_
    · simp only [S143_L1]
      rw [br_dec, if_neg (by omega)]
      rfl
    · simp [wheres]
  | cons x r ih =>
    intro k q hd hk hq
    simp only [List.length_cons] at hk
    have hx : (o.zip w)[k]? = some x := by rw [← List.head?_drop, hd]; rfl
    have hd' : (o.zip w).drop (k + 1) = r := by rw [← List.drop_drop, hd]; rfl
    obtain ⟨e1, e2⟩ := List.getElem?_zip_eq_some.1 hx
    have e4 : wi ((k : Int) + 1) = ((k + 1 : Nat) : Int) := by rw [wiid (by omega) (by omega)]; omega
    have hm := (ok.dims _ (List.mem_of_getElem? e1)).len
    have hs : S143_L1 P96 o w (q, (k : Int)) = if whereM x.1.members x.2 < 0 then some (.fin (([] : List Int), (5 : Int))) else some (.nx (q ++ [whereM x.1.members x.2], ((k + 1 : Nat) : Int))) := by
      simp only [S143_L1]
      rw [br_dec, if_pos (by omega)]
      simp only [lookI_nat, e1, e2, bno_s, P96_eq x.1 x.2 (by omega)]
      rw [br_dec]
      by_cases c : whereM x.1.members x.2 < 0
      · rw [if_pos c, if_pos c]; rfl
      · rw [if_neg c, if_neg c, ck_pos (by simp [roomA]; omega), e4]; rfl
    by_cases c : whereM x.1.members x.2 < 0
    · rw [if_pos c] at hs
      rw [lpO_fin hs]
      simp [wheres, c]
    · rw [if_neg c] at hs
      rw [lpO_nx hs, ih (k + 1) _ hd' (by omega) (by simp; omega)]
      simp only [wheres, List.map_cons, List.any_cons, List.append_assoc, List.cons_append, List.nil_append, decide_eq_false c, Bool.false_or]
theorem P143_eq {o : List Dim} (ok : OutOk o) (s : ByteArray) (hs : s.size ≤ 1048576) : P143 o s = some (readL o s) := by
  simp only [P143, S143, P158_eq s hs, bno_s]
  unfold readL
  by_cases h : (splitS s dotB).length = o.length
  · rw [br_dec, if_neg (by omega), if_neg (by simpa using h)]
    unfold lp
    have := loop143 ok (splitS s dotB) h (o.zip (splitS s dotB)) 0 [] rfl (by rw [List.length_zip]; omega) (Nat.le_refl _)
    rw [show ((([] : List Int), (0 : Int)) : List Int × Int) = (([] : List Int), ((0 : Nat) : Int)) from rfl, this]
    by_cases c : (wheres (o.zip (splitS s dotB))).any (fun x => decide (x < 0)) = true
    · rw [if_pos c, if_pos c]; rfl
    · rw [if_neg c, if_neg c]; rfl
  · rw [br_dec, if_pos (by omega), if_pos h]
theorem loop131 {o : List Dim} (ok : OutOk o) (w : List ByteArray) (hw : w.length = o.length) : ∀ (r : List (Dim × ByteArray)) (k : Nat) (q : List Int), (o.zip w).drop k = r → k + r.length = w.length → q.length ≤ k →
    lpO (S131_L1 P37 o w) (q, (k : Int)) = some (.inl (q ++ wheres r, ((w.length : Nat) : Int))) := by
  have hz : (o.zip w).length = w.length := by rw [List.length_zip]; omega
  have hlen := ok.len
  intro r
  induction r with
  | nil =>
    intro k q hd hk hq
    have hk' : k = w.length := by simpa using hk
    subst hk'
    refine (lpO_dn (y := (q, ((w.length : Nat) : Int))) ?_).trans ?_
    · simp only [S131_L1]
      rw [br_dec, if_neg (by omega)]
      rfl
    · simp [wheres]
  | cons x r ih =>
    intro k q hd hk hq
    simp only [List.length_cons] at hk
    have hx : (o.zip w)[k]? = some x := by rw [← List.head?_drop, hd]; rfl
    have hd' : (o.zip w).drop (k + 1) = r := by rw [← List.drop_drop, hd]; rfl
    obtain ⟨e1, e2⟩ := List.getElem?_zip_eq_some.1 hx
    have e4 : wi ((k : Int) + 1) = ((k + 1 : Nat) : Int) := by rw [wiid (by omega) (by omega)]; omega
    have hm := (ok.dims _ (List.mem_of_getElem? e1)).len
    have hs : S131_L1 P37 o w (q, (k : Int)) = some (.nx (q ++ [whereM x.1.members x.2], ((k + 1 : Nat) : Int))) := by
      simp only [S131_L1]
      rw [br_dec, if_pos (by omega)]
      simp only [lookI_nat, e1, e2, bno_s, P37_eq _ x.2 (by omega : x.1.members.length ≤ 9223372036854775807)]
      rw [ck_pos (by simp [roomA]; omega), e4]; rfl
    rw [lpO_nx hs, ih (k + 1) _ hd' (by omega) (by simp; omega)]
    simp [wheres]
theorem P153_eq (l : List Int) (x : Int) (h : l.length ≤ 9223372036854775807) : P153 l x = some (l.any fun y => decide (x = y)) := by
  have : P163 l x = some (idxOf (fun y => decide (x = y)) l) := by
    refine find_loop _ l (fun i y hy => ?_) (by simp [S163_L1])
    have hi := (List.getElem?_eq_some_iff.1 hy).1
    have e : (((i : Nat) : Int) < ((l.length : Nat) : Int)) := by omega
    simp only [S163_L1, lookI_nat, hy, bno_s, e, decide_true, br_true]
    rw [wiid (by omega) (by omega)]
    by_cases c : x = y <;> simp [c]
  simp only [P153, S153, this, bno_s, any_idx]
theorem any_neg (z : List (Dim × ByteArray)) : ((wheres z).any fun y => decide (-1 = y)) = (wheres z).any fun x => decide (x < 0) := by
  induction z with
  | nil => rfl
  | cons x z ih =>
    have hg : -1 ≤ whereM x.1.members x.2 := idx_ge _ _
    simp only [wheres, List.map_cons, List.any_cons] at ih ⊢
    rw [ih]
    congr 1
    by_cases c : whereM x.1.members x.2 < 0
    · rw [decide_eq_true c, decide_eq_true (by omega)]
    · rw [decide_eq_false c, decide_eq_false (by omega)]
theorem P131_eq (o : List Dim) (s : ByteArray) (hs : s.size ≤ 1048576) : P131 o s = some (if (outErr o).2.2 = 0 then ((readL o s).1, errOf (readL o s).2) else ([], errOf (outErr o).2.2)) := by
  simp only [P131, S131, P51_eq, bno_s, errOf_nil]
  by_cases h0 : (outErr o).2.2 = 0
  · have ok := out_ok.1 h0
    have hlen := ok.len
    have h152 : P152 s ⟨#[46]⟩ = some (splitS s dotB) := by
      unfold P152
      rw [ck_pos ⟨by omega, by decide⟩]; rfl
    simp only [h0, decide_true, Bool.not_true, br_false, if_true, h152, bno_s]
    unfold readL
    by_cases h : (splitS s dotB).length = o.length
    · rw [br_dec, if_neg (by omega), if_neg (by simpa using h)]
      unfold lp
      have := loop131 ok (splitS s dotB) h (o.zip (splitS s dotB)) 0 [] rfl (by rw [List.length_zip]; omega) (Nat.le_refl _)
      rw [show ((([] : List Int), (0 : Int)) : List Int × Int) = (([] : List Int), ((0 : Nat) : Int)) from rfl, this]
      simp only [jn_l, List.nil_append]
      rw [P153_eq _ _ (by simp [wheres]; omega), bno_s, any_neg]
      cases hc : (wheres (o.zip (splitS s dotB))).any (fun x => decide (x < 0)) with
      | true => simp [errOf]
      | false => simp [errOf]
    · rw [br_dec, if_pos (by omega), if_pos h]; rfl
  · simp [h0]

/-! ### printing -/
def nameOf (x : Int × Dim) : ByteArray := match x.2.members[x.1.toNat]? with | some m => m.name | none => ⟨#[]⟩
def namesL (o : List Dim) (p : List Int) : List ByteArray := (p.zip o).map nameOf
def printL (o : List Dim) (p : List Int) : ByteArray := joinS (namesL o p) dotB
theorem names_len {o : List Dim} {p : List Int} (hf : Fit o p) : (namesL o p).length = p.length := by
  unfold namesL
  rw [List.length_map, List.length_zip, ← hf.len, Nat.min_self]
theorem name_at {o : List Dim} {p : List Int} (hf : Fit o p) {i : Nat} {x : Int × Dim} (hx : (p.zip o)[i]? = some x) : ∃ (k : Nat) (m : Member), x.1 = (k : Int) ∧ p[i]? = some x.1 ∧ o[i]? = some x.2 ∧ x.2.members[k]? = some m ∧ nameOf x = m.name := by
  obtain ⟨e1, e2⟩ := List.getElem?_zip_eq_some.1 hx
  have := hf.mem i _ _ e1 e2
  obtain ⟨k, hk⟩ := Int.eq_ofNat_of_zero_le this.1
  have hkl : k < x.2.members.length := by omega
  refine ⟨k, x.2.members[k], hk, e1, e2, List.getElem?_eq_getElem hkl, ?_⟩
  unfold nameOf
  rw [hk, Int.toNat_natCast, List.getElem?_eq_getElem hkl]
theorem mem_ok {l : List Member} {i : Nat} {m : Member} (h : memErr l i m = 0) : nameBad m.name = false ∧ ((l.take i).any fun x => decide (x.name = m.name)) = false := by
  unfold memErr at h
  split at h
  · simp at h
  · rename_i c1
    split at h
    · simp at h
    · rename_i c2
      exact ⟨by simpa using c1, by simpa using c2⟩
theorem name_props {o : List Dim} {p : List Int} (ok : OutOk o) (hf : Fit o p) : ∀ x ∈ namesL o p, x.size ≤ 8 ∧ (46 : UInt8) ∉ x.data.toList := by
  intro x hx
  obtain ⟨y, hy, rfl⟩ := List.mem_map.1 hx
  obtain ⟨i, hi⟩ := List.mem_iff_getElem?.1 hy
  obtain ⟨k, m, h1, h2, h3, h4, h5⟩ := name_at hf hi
  have hd := ok.dims _ (List.mem_of_getElem? h3)
  have hb := (mem_ok (hd.mem k m h4)).1
  rw [h5]
  simp only [nameBad, Bool.or_eq_false_iff, decide_eq_false_iff_not] at hb
  refine ⟨by omega, fun hc => ?_⟩
  have := List.any_eq_false.1 hb.2.2 _ hc
  exact absurd rfl this
theorem print_size {o : List Dim} {p : List Int} (ok : OutOk o) (hf : Fit o p) : (printL o p).size ≤ 36 := by
  have h1 := joinS_size fun x hx => (name_props ok hf x hx).1
  have h2 := names_len hf
  have h3 := hf.len
  have h4 := ok.len
  unfold printL
  omega
theorem P154_eq {o : List Dim} {p : List Int} (ok : OutOk o) (hf : Fit o p) : P154 (namesL o p) ⟨#[46]⟩ = some (printL o p) := by
  have h1 : (joinS (namesL o p) ⟨#[46]⟩).size ≤ 36 := print_size ok hf
  have h2 := names_len hf
  have h3 := hf.len
  have h4 := ok.len
  unfold P154
  rw [ck_pos ⟨by omega, by omega⟩]
  rfl
theorem P133_eq (o : List Dim) (p : List Int) (h : p.length ≤ 9223372036854775807) : P133 o p = some (if placeE o p = 0 then (printL o p, .nil) else (⟨#[]⟩, errOf (placeE o p))) := by
  simp only [P133, S133, P114_eq o p h, bno_s, errOf_nil]
  by_cases h0 : placeE o p = 0
  · obtain ⟨ok, hf⟩ := place_ok.1 h0
    have hlen := ok.len
    have hpl := hf.len
    have hz : (p.zip o).length = p.length := by rw [List.length_zip, ← hf.len, Nat.min_self]
    have hs := seq_loop (B := S133_L1 o p) (fun i => ((namesL o p).take i, (i : Int))) p.length (fun i hi => by
      have hx := List.getElem?_eq_getElem (by omega : i < (p.zip o).length)
      obtain ⟨k, m, h1, h2, h3, h4, h5⟩ := name_at hf hx
      have hn : (namesL o p)[i]? = some m.name := by
        unfold namesL
        rw [List.getElem?_map, hx]
        simp only [Option.map_some, h5]
      rw [h1] at h2
      simp only [S133_L1]
      rw [br_dec, if_pos (by omega)]
      simp only [lookI_nat, h2, h3, bno_s, h4]
      rw [ck_pos (by simp [roomA]; omega), wiid (by omega) (by omega), List.take_add_one, hn]
      simp only [Option.toList_some]
      congr 2)
    simp only [h0, decide_true, Bool.not_true, br_false, if_true]
    unfold lp
    rw [show ((([] : List ByteArray), (0 : Int)) : List ByteArray × Int) = ((namesL o p).take 0, ((0 : Nat) : Int)) from rfl, hs, lpO_dn (y := ((namesL o p).take p.length, ((p.length : Nat) : Int))) (by simp only [S133_L1]; rw [br_dec, if_neg (by omega)]; rfl)]
    simp only [jn_l]
    rw [← names_len hf, List.take_length, P154_eq ok hf]
    rfl
  · simp [h0]

/-! ### both ways -/
theorem idx_hit {β : Type} {p : β → Bool} {l : List β} (h : 0 ≤ idxOf p l) : ∃ (k : Nat) (y : β), idxOf p l = (k : Int) ∧ l[k]? = some y ∧ p y = true := by
  unfold idxOf at h ⊢
  cases hf : l.findIdx? p with
  | none => rw [hf] at h; simp at h
  | some k =>
    obtain ⟨hk, h1, _⟩ := List.findIdx?_eq_some_iff_getElem.1 hf
    exact ⟨k, _, rfl, List.getElem?_eq_getElem hk, h1⟩
theorem idx_first {β : Type} {p : β → Bool} {l : List β} {k : Nat} {y : β} (hk : l[k]? = some y) (hp : p y = true) (hn : (l.take k).any p = false) : idxOf p l = (k : Int) := by
  have hlt := (List.getElem?_eq_some_iff.1 hk).1
  have : l.findIdx? p = some k := by
    rw [List.findIdx?_eq_some_iff_getElem]
    refine ⟨hlt, by rw [(List.getElem?_eq_some_iff.1 hk).2]; exact hp, fun j hj => ?_⟩
    have := List.any_eq_false.1 hn l[j] (List.mem_iff_getElem?.2 ⟨j, by rw [List.getElem?_take_of_lt hj]; exact List.getElem?_eq_getElem (by omega)⟩)
    simpa using this
  unfold idxOf
  rw [this]
theorem where_name {d : Dim} (hd : DimOk d) {k : Nat} {m : Member} (h : d.members[k]? = some m) : whereM d.members m.name = (k : Int) := by
  have := (mem_ok (hd.mem k m h)).2
  exact idx_first h (by simp) this
theorem wheres_names : ∀ (o : List Dim) (p : List Int), (∀ d ∈ o, DimOk d) → Fit o p → wheres (o.zip (namesL o p)) = p
  | [], [], _, _ => rfl
  | [], _ :: _, _, h => by have := h.len; simp at this
  | _ :: _, [], _, h => by have := h.len; simp at this
  | d :: o, m :: p, hd, h => by
    obtain ⟨k, mb, h1, _, _, h4, h5⟩ := name_at (i := 0) (x := (m, d)) h rfl
    have h1 : m = (k : Int) := h1
    have h4 : d.members[k]? = some mb := h4
    have ih := wheres_names o p (fun x hx => hd x (List.mem_cons_of_mem _ hx)) h.tail.2
    unfold wheres namesL at ih ⊢
    simp only [List.zip_cons_cons, List.map_cons]
    rw [ih, h5, where_name (hd d (by simp)) h4, h1]
theorem read_print {o : List Dim} {p : List Int} (ok : OutOk o) (hf : Fit o p) : readL o (printL o p) = (p, 0) := by
  have hlen := ok.len
  have hpl := hf.len
  have hnl := names_len hf
  have hs : splitS (printL o p) dotB = namesL o p := split_join (by intro e; rw [e] at hnl; simp at hnl; omega) fun x hx => (name_props ok hf x hx).2
  have hw := wheres_names o p ok.dims hf
  unfold readL
  rw [hs, if_neg (by omega), hw, if_neg]
  simp only [Bool.not_eq_true, List.any_eq_false, decide_eq_true_eq]
  intro x hx
  obtain ⟨i, hi⟩ := List.mem_iff_getElem?.1 hx
  have hlt := (List.getElem?_eq_some_iff.1 hi).1
  have := hf.mem i x _ hi (List.getElem?_eq_getElem (by omega))
  omega
theorem read_back : ∀ (o : List Dim) (w : List ByteArray), w.length = o.length → (wheres (o.zip w)).any (fun x => decide (x < 0)) = false → Fit o (wheres (o.zip w)) ∧ namesL o (wheres (o.zip w)) = w
  | [], [], _, _ => ⟨⟨rfl, fun i m d h => by simp [wheres] at h⟩, rfl⟩
  | [], _ :: _, h, _ => by simp at h
  | _ :: _, [], h, _ => by simp at h
  | d :: o, x :: w, h, hn => by
    simp only [wheres, List.zip_cons_cons, List.map_cons, List.any_cons, Bool.or_eq_false_iff, decide_eq_false_iff_not] at hn
    obtain ⟨i1, i2⟩ := read_back o w (by simpa using h) hn.2
    obtain ⟨k, m, h1, h2, h3⟩ := idx_hit (p := fun m : Member => decide (m.name = x)) (l := d.members) (by have := hn.1; unfold whereM at this; omega)
    have hk := (List.getElem?_eq_some_iff.1 h2).1
    have h1 : whereM d.members x = (k : Int) := h1
    have e : wheres ((d :: o).zip (x :: w)) = (k : Int) :: wheres (o.zip w) := by
      simp only [wheres, List.zip_cons_cons, List.map_cons, h1]
    rw [e]
    refine ⟨⟨by simp [i1.len], fun i y z hy hz => ?_⟩, ?_⟩
    · cases i with
      | zero =>
        simp only [List.getElem?_cons_zero, Option.some.injEq] at hy hz
        subst hy; subst hz
        omega
      | succ i =>
        simp only [List.getElem?_cons_succ] at hy hz
        exact i1.mem i y z hy hz
    · unfold namesL at i2 ⊢
      simp only [List.zip_cons_cons, List.map_cons, i2]
      congr 1
      unfold nameOf
      simp only [Int.toNat_natCast, h2]
      simpa using h3
theorem print_read {o : List Dim} {s : ByteArray} (h : (readL o s).2 = 0) : Fit o (readL o s).1 ∧ printL o (readL o s).1 = s := by
  unfold readL at h ⊢
  by_cases c1 : ¬ (splitS s dotB).length = o.length
  · rw [if_pos c1] at h; simp at h
  · rw [if_neg c1] at h ⊢
    by_cases c2 : (wheres (o.zip (splitS s dotB))).any (fun x => decide (x < 0)) = true
    · rw [if_pos c2] at h; simp at h
    · rw [if_neg c2]
      obtain ⟨i1, i2⟩ := read_back o (splitS s dotB) (by omega) (by simpa using c2)
      refine ⟨i1, ?_⟩
      unfold printL
      rw [i2]
      exact join_split s
theorem P132_eq (o : List Dim) (p : List Int) (h : p.length ≤ 9223372036854775807) : P132 o p = some (if placeE o p = 0 then (((numN o p : Nat) : Int), .nil) else (0, errOf (placeE o p))) := by
  simp only [P132, S132, P114_eq o p h, bno_s, errOf_nil]
  by_cases h0 : placeE o p = 0
  · obtain ⟨ok, hf⟩ := place_ok.1 h0
    simp [h0, P49_eq hf.len h, numW_eq ok hf]
  · simp [h0]
end Ab
