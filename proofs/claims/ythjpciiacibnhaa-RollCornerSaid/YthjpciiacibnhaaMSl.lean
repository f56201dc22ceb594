/-
  slices.Insert and slices.Delete of entries, as functions that are handed rows.
-/
import Derived.Test.YthjpciiacibnhaaB2
import Derived.Test.YthjpciiacibnhaaMSw
namespace Ab
open Go Go.RowKit Go.Shelf
set_option linter.unusedVariables false
set_option linter.unusedSimpArgs false

/-- A row of elements of two cells, over what is known of a cell. -/
def Row2 (R : AV → Value → Prop) : List (List AV) → List Value → Prop
  | [], [] => True
  | [x, y] :: es, u :: v :: cs => R x u ∧ R y v ∧ u.oneCell' = true ∧ v.oneCell' = true ∧ Row2 R es cs
  | _, _ => False
theorem Row2.cons_inv {R : AV → Value → Prop} {e : List AV} {es : List (List AV)} {cs : List Value} (h : Row2 R (e :: es) cs) : ∃ x y u v cs', e = [x, y] ∧ cs = u :: v :: cs' ∧ R x u ∧ R y v ∧ u.oneCell' = true ∧ v.oneCell' = true ∧ Row2 R es cs' := by
  match e, cs, h with
  | [x, y], u :: v :: cs', h => exact ⟨x, y, u, v, cs', rfl, rfl, h⟩
theorem Row2.nil_inv {R : AV → Value → Prop} {cs : List Value} (h : Row2 R [] cs) : cs = [] := by
  cases cs with
  | nil => rfl
  | cons a l => simp [Row2] at h
theorem Row2.append {R : AV → Value → Prop} : ∀ {es : List (List AV)} {cs : List Value} {fs : List (List AV)} {ds : List Value}, Row2 R es cs → Row2 R fs ds → Row2 R (es ++ fs) (cs ++ ds)
  | [], cs, fs, ds, h, k => by rw [h.nil_inv]; exact k
  | e :: es, cs, fs, ds, h, k => by
    obtain ⟨x, y, u, v, cs', rfl, rfl, h1, h2, h3, h4, h5⟩ := h.cons_inv
    exact ⟨h1, h2, h3, h4, h5.append k⟩
theorem Row2.take {R : AV → Value → Prop} : ∀ {es : List (List AV)} {cs : List Value} (i : Nat), Row2 R es cs → Row2 R (es.take i) (cs.take (i * 2))
  | [], cs, i, h => by rw [h.nil_inv]; simp [Row2]
  | e :: es, cs, 0, h => by simp [Row2]
  | e :: es, cs, i + 1, h => by
    obtain ⟨x, y, u, v, cs', rfl, rfl, h1, h2, h3, h4, h5⟩ := h.cons_inv
    rw [show (i + 1) * 2 = i * 2 + 2 by omega]
    exact ⟨h1, h2, h3, h4, h5.take i⟩
theorem Row2.drop {R : AV → Value → Prop} : ∀ {es : List (List AV)} {cs : List Value} (i : Nat), Row2 R es cs → Row2 R (es.drop i) (cs.drop (i * 2))
  | [], cs, i, h => by rw [h.nil_inv]; simp [Row2]
  | e :: es, cs, 0, h => by simpa using h
  | e :: es, cs, i + 1, h => by
    obtain ⟨x, y, u, v, cs', rfl, rfl, h1, h2, h3, h4, h5⟩ := h.cons_inv
    rw [show (i + 1) * 2 = i * 2 + 2 by omega]
    exact h5.drop i
theorem Row2.length {R : AV → Value → Prop} : ∀ {es : List (List AV)} {cs : List Value}, Row2 R es cs → cs.length = es.length * 2
  | [], cs, h => by rw [h.nil_inv]; rfl
  | e :: es, cs, h => by
    obtain ⟨x, y, u, v, cs', rfl, rfl, h1, h2, h3, h4, h5⟩ := h.cons_inv
    have := h5.length
    simp only [List.length_cons]
    omega
theorem Row2.len2 {R : AV → Value → Prop} : ∀ {es : List (List AV)} {cs : List Value}, Row2 R es cs → ∀ e ∈ es, e.length = 2
  | [], cs, h, e, he => by cases he
  | e :: es, cs, h, e', he => by
    obtain ⟨x, y, u, v, cs', rfl, rfl, h1, h2, h3, h4, h5⟩ := h.cons_inv
    rcases List.mem_cons.1 he with rfl | he
    · rfl
    · exact h5.len2 e' he
theorem Row2.one {R : AV → Value → Prop} : ∀ {es : List (List AV)} {cs : List Value}, Row2 R es cs → ∀ u ∈ cs, u.oneCell' = true
  | [], cs, h, u, hu => by rw [h.nil_inv] at hu; cases hu
  | e :: es, cs, h, u', hu => by
    obtain ⟨x, y, u, v, cs', rfl, rfl, h1, h2, h3, h4, h5⟩ := h.cons_inv
    rcases List.mem_cons.1 hu with rfl | hu
    · exact h3
    · rcases List.mem_cons.1 hu with rfl | hu
      · exact h4
      · exact h5.one u' hu
theorem Row2.get {R : AV → Value → Prop} : ∀ {es : List (List AV)} {cs : List Value} (rest : List Value), Row2 R es cs → ∀ (i : Nat) (e : List AV) (c : Nat) (x : AV), es[i]? = some e → e[c]? = some x → R x ((cs ++ rest).getD (i * 2 + c) undef)
  | [], cs, rest, h, i, e, c, x, hi, hc => by cases hi
  | e0 :: es, cs, rest, h, i, e, c, x, hi, hc => by
    obtain ⟨x0, y0, u, v, cs', rfl, rfl, h1, h2, h3, h4, h5⟩ := h.cons_inv
    cases i with
    | zero =>
      cases hi
      match c, hc with
      | 0, hc => cases hc; exact h1
      | 1, hc => cases hc; exact h2
      | c + 2, hc => simp at hc
    | succ i =>
      have := h5.get rest i e c x (by simpa using hi) hc
      rw [show (i + 1) * 2 + c = (i * 2 + c) + 1 + 1 by omega]
      simpa using this
theorem Row2.of {R : AV → Value → Prop} : ∀ {es : List (List AV)} {cs : List Value}, es.length * 2 ≤ cs.length → (∀ e ∈ es, e.length = 2) → (∀ j, j < es.length * 2 → (cs.getD j undef).oneCell' = true) →
    (∀ (i : Nat) (e : List AV) (c : Nat) (x : AV), es[i]? = some e → e[c]? = some x → R x (cs.getD (i * 2 + c) undef)) → Row2 R es (cs.take (es.length * 2))
  | [], cs, h1, h2, h3, h4 => by simp [Row2]
  | e :: es, cs, h1, h2, h3, h4 => by
    simp only [List.length_cons] at h1
    match cs, h1 with
    | [], h1 => simp at h1
    | [u], h1 => simp at h1; omega
    | u :: v :: cs, h1 =>
      obtain ⟨x, y, rfl⟩ : ∃ x y, e = [x, y] := by
        have := h2 e List.mem_cons_self
        match e, this with
        | [x, y], _ => exact ⟨x, y, rfl⟩
      have k3 : ∀ j, j < es.length * 2 → (cs.getD j undef).oneCell' = true := fun j hj => by
        have := h3 (j + 1 + 1) (by simp only [List.length_cons]; omega)
        simpa using this
      have k4 : ∀ (i : Nat) (e : List AV) (c : Nat) (x : AV), es[i]? = some e → e[c]? = some x → R x (cs.getD (i * 2 + c) undef) := fun i e c z hi hc => by
        have := h4 (i + 1) e c z (by simpa using hi) hc
        rw [show (i + 1) * 2 + c = (i * 2 + c) + 1 + 1 by omega] at this
        simpa using this
      have := Row2.of (R := R) (es := es) (cs := cs) (by simp only [List.length_cons] at h1; omega) (fun e he => h2 e (List.mem_cons_of_mem _ he)) k3 k4
      rw [show ([x, y] :: es).length * 2 = es.length * 2 + 2 by simp only [List.length_cons]; omega]
      refine ⟨?_, ?_, ?_, ?_, this⟩
      · simpa using h4 0 [x, y] 0 x rfl rfl
      · simpa using h4 0 [x, y] 1 y rfl rfl
      · simpa using h3 0 (by simp)
      · simpa using h3 1 (by simp only [List.length_cons]; omega)

theorem setCells_row {P : Program} (w : World) (b o : Nat) (el : TypeId) (cur : Array Value) (vs : List Value) (hb : w.heap[b]? = some (.cells cur el (0, 0))) (hfit : o + vs.length ≤ cur.size) (h1 : ∀ v ∈ vs, v.oneCell' = true) :
    w.setCells b o vs = w.setRow b (cur.toList.take o ++ vs ++ cur.toList.drop (o + vs.length)).toArray := by
  have hst := run_storeCells_at P b o el vs 0 cur w hb (by simpa using hfit) h1
  have hc : ∀ j, j < vs.length → (w.cell? ⟨b, o + 0 + j, none⟩).isSome = true := fun j hj => by
    have : o + j < cur.size := by omega
    simp [World.cell?, hb, this]
  have hf : ∀ j, j < vs.length → w.frozen? ⟨b, o + 0 + j, none⟩ = false := fun j hj => by
    simp [World.frozen?, hb]
  have hst2 := run_storeCells_cells (P := P) b o vs 0 w hc hf h1
  rw [hst2] at hst
  simp only [Nat.add_zero, Result.ok.injEq] at hst
  exact hst.2

section
variable {S : Seat} {A : Nat → Prop} {w : World} {ι : Nat → Option Nat}

/-- What a handed row is: nil, or a block of its own. -/
theorem own_cases {b? : Option Nat} {es : List (List AV)} {v : Value} (h : OwnRel S A w b? 2 es v) :
    (b? = none ∧ es = [] ∧ v = .slice none 0 0) ∨ ∃ b cap vs el, b? = some b ∧ v = .slice (some ⟨b, 0, none⟩) es.length cap ∧ es.length ≤ cap ∧ cap ≤ maxLen ∧ w.heap[b]? = some (.cells vs el (0, 0)) ∧ cap * 2 ≤ vs.size ∧ Row2 (VR0 S A w) es (vs.toList.take (es.length * 2)) := by
  obtain ⟨h0, h1 | ⟨b, cap, vs, el, h1, h2, h3, h4, h5, h6, h7, h8⟩⟩ := h
  · exact .inl h1
  · refine .inr ⟨b, cap, vs, el, h1, h2, h3, h4, h5, h6, Row2.of (by rw [Array.length_toList]; exact Nat.le_trans (Nat.mul_le_mul_right _ h3) h6) h0 (fun j hj => ?_) fun i e c x hi hc => ?_⟩
    · have := h7 j hj
      simpa [Array.getD_eq_getD_getElem?, List.getD] using this
    · have := h8 i e c x hi hc
      simpa [Array.getD_eq_getD_getElem?, List.getD] using this

/-- The end of a call that leaves a row in block nb. -/
theorem row_done {args : List AV} {vs : Array Value} {w' : World} {es : List (List AV)} {pre rest : List Value} {cur : Array Value} {el : TypeId} {nb cap : Nat}
    (hA : ∀ b, A b → b < w.heap.size) (hι : ∀ i b, ι i = some b → ¬ A b) (hnb : nb = w.heap.size ∨ ι 0 = some nb) (hk : KeepO (Taken ι) w w') (hlt : nb < w'.heap.size) (hb : w'.heap[nb]? = some (.cells cur el (0, 0))) (hc : cur.toList = pre ++ rest)
    (hr : Row2 (VR0 S A w) es pre) (h1 : es.length ≤ cap) (h2 : cap ≤ maxLen) (h3 : cap * 2 ≤ cur.size) :
    RetM S A (Eaten ι []) (OutsR S args ι vs w w' []) w w' (.own 2 es) (.slice (some ⟨nb, 0, none⟩) es.length cap) := by
  have hAn : ∀ b, A b → nb ≠ b := fun b hb e => by
    subst e
    rcases hnb with e | e
    · have := hA nb hb; omega
    · exact hι _ _ e hb
  have hget : ∀ j, cur.getD j undef = (pre ++ rest).getD j undef := fun j => by
    rw [← hc]; simp [Array.getD_eq_getD_getElem?, List.getD]
  have hβ : ∀ i b, (if i = 0 then some nb else none) = some b → i = 0 ∧ b = nb := fun i b h => by
    split at h
    · rename_i e; cases h; exact ⟨e, rfl⟩
    · cases h
  refine ⟨fun i => if i = 0 then some nb else none, fun i b hib => ?_, fun i j b hi hj => (hβ i b hi).1.trans (hβ j b hj).1.symm, (fun i es z es0 hm => by cases hm), ?_⟩
  · obtain ⟨_, rfl⟩ := hβ i b hib
    refine ⟨?_, hlt⟩
    rcases hnb with e | e
    · exact .inl (by omega)
    · exact .inr ⟨0, e, fun es => by simp⟩
  · show OwnRel S _ w' (some nb) 2 es _
    refine ⟨hr.len2, .inr ⟨nb, cap, cur, el, rfl, rfl, h1, h2, hb, h3, fun j hj => ?_, fun i e c x hi hc' => ?_⟩⟩
    · rw [hget]
      have hl := hr.length
      have : (pre ++ rest).getD j undef = pre[j] := by rw [List.getD_eq_getElem?_getD, List.getElem?_append_left (by omega), List.getElem?_eq_getElem (by omega)]; rfl
      rw [this]
      exact hr.one _ (List.getElem_mem _)
    · rw [hget]
      have hnt : ∀ b, A b → ¬ Taken ι b := fun b hb' ⟨k, e⟩ => hι _ _ e hb'
      exact (hr.get rest i e c x hi hc').mono (fun b hb' => ⟨.inl (.inl hb'), Nat.lt_of_lt_of_le (hA b hb') hk.size, fun k e => hAn _ hb' (hβ k b e).2.symm⟩) fun b hb' => hk.block b (hA b hb') (hnt b hb')

theorem keep_setRow {b : Nat} {new : Array Value} (h : ι 0 = some b) : KeepO (Taken ι) w (w.setRow b new) :=
  ⟨rfl, rfl, rfl, by rw [size_setRow]; exact Nat.le_refl _, fun k _ hk => setRow_other w b k new fun e => hk ⟨0, e ▸ h⟩⟩
theorem keep_drew : KeepO (Taken ι) w w.drew := ⟨rfl, rfl, rfl, Nat.le_refl _, fun _ _ _ => rfl⟩
theorem keep_alloc {O : Nat → Prop} {o : Obj} : KeepO O w (w.alloc o) := ⟨rfl, rfl, rfl, by simp, fun k hk _ => by first | exact heap_alloc_old w _ k hk | exact heap_alloc_old w _ hk⟩
theorem keep_setRow_new {w1 : World} {b : Nat} {new : Array Value} {O : Nat → Prop} (h : w.heap.size ≤ b) (hk : KeepO O w w1) : KeepO O w (w1.setRow b new) :=
  ⟨hk.os, hk.tape, hk.output, by rw [size_setRow]; exact hk.size, fun k hk' hO => by rw [setRow_other w1 b k new (by omega)]; exact hk.block k hk' hO⟩

/-- Writing over twice. -/
theorem over_twice {L cs vs : List Value} {i n m : Nat} (hi : i ≤ n) (hcs : cs = L.take (n * 2)) (hl : (n + m) * 2 ≤ L.length) (hvs : vs.length = m * 2) (L1 : List Value) (h1 : L1 = L.take ((i + m) * 2) ++ cs.drop (i * 2) ++ L.drop ((i + m) * 2 + (cs.drop (i * 2)).length)) :
    L1.take (i * 2) ++ vs ++ L1.drop (i * 2 + vs.length) = (cs.take (i * 2) ++ vs ++ cs.drop (i * 2)) ++ L.drop ((i + m) * 2 + (cs.drop (i * 2)).length) := by
  have e1 : L1.take (i * 2) = cs.take (i * 2) := by
    rw [h1, hcs, List.append_assoc, List.take_append_of_le_length (by simp; omega), List.take_take, List.take_take]
    congr 1
    omega
  have e2 : L1.drop (i * 2 + vs.length) = cs.drop (i * 2) ++ L.drop ((i + m) * 2 + (cs.drop (i * 2)).length) := by
    rw [h1, List.append_assoc]
    exact List.drop_left' (by simp; omega)
  rw [e1, e2]
  simp [List.append_assoc]

theorem ins_realM {ρ : Ren} {zc : Array Value} (L : InsL S.P ρ zc) {es : List (List AV)} {e : List AV} {i : Nat} (hi : i ≤ es.length) (hroom : es.length + 1 ≤ roomA) :
    RealM S (ρ.f 22) [.own 2 es, .v (.int .i64 i), .own 2 [e]] (.own 2 (es.take i ++ [e] ++ es.drop i)) [] := by
  intro A w vs ι hl hA hι hargs
  have hA0 := hA.1
  have hιA : ∀ i b, ι i = some b → ¬ A b := fun i b hb => (hι.1 i b hb).2.2.1
  have hιw : ∀ i b, ι i = some b → b < w.heap.size := fun i b hb => (hι.1 i b hb).2.1
  have h0 : OwnRel S A w (ι 0) 2 es (vs.getD 0 undef) := hargs 0 _ rfl
  have h1 : VR0 S A w (.v (.int .i64 i)) (vs.getD 1 undef) := (hargs 1 (.v (.int .i64 i)) rfl).2
  have h2 : OwnRel S A w (ι 2) 2 [e] (vs.getD 2 undef) := hargs 2 _ rfl
  obtain ⟨x0, x1, x2, rfl⟩ : ∃ x0 x1 x2, vs = #[x0, x1, x2] := by
    obtain ⟨l⟩ := vs
    match l, hl with
    | [x0, x1, x2], _ => exact ⟨x0, x1, x2, rfl⟩
  obtain rfl : x1 = .int .i64 i := VR.v_inv (σ := fun _ => none) (.of0 h1)
  rcases own_cases h2 with ⟨_, h, _⟩ | ⟨vb, vc, vvs, vel, v1, v2, v3, v4, v5, v6, v7⟩
  · cases h
  obtain rfl : x2 = .slice (some ⟨vb, 0, none⟩) 1 vc := v2
  have hvlen : (vvs.toList.take 2).length = 1 * 2 := v7.length
  have hvone : ∀ v ∈ vvs.toList.take 2, v.oneCell' = true := v7.one
  have hvs : ∀ j v, (vvs.toList.take 2)[j]? = some v → w.cell? ⟨vb, 0 + j, none⟩ = some v := fun j v hj => by
    rw [List.getElem?_take] at hj
    split at hj
    · rw [Array.getElem?_toList] at hj
      simpa [World.cell?, v5] using hj
    · cases hj
  have v7 : Row2 (VR0 S A w) [e] (vvs.toList.take 2) := v7
  have hfin : (es.take i ++ [e] ++ es.drop i).length = es.length + 1 := by simp; omega
  have hmax : es.length + 1 ≤ maxLen := by unfold maxLen; unfold roomA at hroom; omega
  have hbig : (es.length + 1) * 32 ≤ 140737488355328 := by unfold roomA at hroom; omega
  rcases own_cases h0 with ⟨b1, b2, b3⟩ | ⟨b, cap, us, el, b1, b2, b3, b4, b5, b6, b7⟩
  · obtain rfl : x0 = .slice none 0 0 := b3
    subst b2
    obtain rfl : i = 0 := by simpa using hi
    refine (ins_end_grow L none 0 0 vb 0 1 vc [] (vvs.toList.take 2) w (by omega) (by omega) (by omega) hbig rfl hvlen (fun _ => rfl) (fun a h => by cases h) hvs hvone).mono ?_
    rintro ex w' ⟨rfl, rfl⟩
    have hcap := grownCap_ge w (0 + 1) 0 (ρ.t 9)
    have hcapm := grownCap_le_maxLen w (0 + 1) 0 (ρ.t 9) hmax
    refine ⟨_, rfl, keep_drew.trans keep_alloc, ?_⟩
    refine row_done (pre := vvs.toList.take 2) (rest := (Builtin.zeroCells zc (grownCap w (0 + 1) 0 (ρ.t 9) - (0 + 1))).toList) hA0 hιA (.inl rfl) (keep_drew.trans keep_alloc) (by simp) (heap_alloc_new w.drew _) (by simp) v7 (by simpa using hcap) hcapm ?_
    simp only [Array.size_append, List.size_toArray, List.nil_append, hvlen, size_zeroCells, L.z2]
    omega
  · obtain rfl : x0 = .slice (some ⟨b, 0, none⟩) es.length cap := b2
    generalize hcsd : us.toList.take (es.length * 2) = cs at b7
    have hcl := b7.length
    have hone := b7.one
    have husz : es.length * 2 ≤ us.size := Nat.le_trans (Nat.mul_le_mul_right _ b3) b6
    have hcs : ∀ j v, cs[j]? = some v → w.cell? ⟨b, 0 + j, none⟩ = some v := fun j v hj => by
      rw [← hcsd, List.getElem?_take] at hj
      split at hj
      · rw [Array.getElem?_toList] at hj
        simpa [World.cell?, b5] using hj
      · cases hj
    have hcell : ∀ j, j < us.size → (w.cell? ⟨b, j, none⟩).isSome = true := fun j hj => by simp [World.cell?, b5, hj]
    have hfrz : ∀ j, w.frozen? ⟨b, j, none⟩ = false := fun j => by simp [World.frozen?, b5]
    have hvb : vb ≠ b := fun h => by
      have := hι.2 2 0 vb v1 (h ▸ b1)
      omega
    have hrow : Row2 (VR0 S A w) (es.take i ++ [e] ++ es.drop i) (cs.take (i * 2) ++ vvs.toList.take 2 ++ cs.drop (i * 2)) := ((b7.take i).append v7).append (b7.drop i)
    have hcapm : cap ≤ 9223372036854775807 := by unfold maxLen at b4; omega
    by_cases hr : es.length + 1 ≤ cap
    · have hfit : (es.length + 1) * 2 ≤ us.size := Nat.le_trans (Nat.mul_le_mul_right _ hr) b6
      by_cases hin : i = es.length
      · subst hin
        refine (ins_end_room L b 0 es.length cap vb 0 1 vc (vvs.toList.take 2) w (by omega) hr hcapm hvlen (fun j hj => hcell _ (by omega)) (fun j hj => hfrz _) hvs hvone).mono ?_
        rintro ex w' ⟨rfl, rfl⟩
        rw [setCells_row (P := S.P) w b (0 + es.length * 2) el us _ b5 (by rw [hvlen]; omega) hvone]
        generalize hnew : (us.toList.take (0 + es.length * 2) ++ vvs.toList.take 2 ++ us.toList.drop (0 + es.length * 2 + (vvs.toList.take 2).length)) = nw
        have hsz : nw.length = us.size := by rw [← hnew]; simp only [List.length_append, hvlen, List.length_take, List.length_drop, Array.length_toList]; omega
        refine ⟨_, rfl, keep_setRow b1, ?_⟩
        have hd := row_done (args := [.own 2 es, .v (.int .i64 es.length), .own 2 [e]]) (vs := #[.slice (some ⟨b, 0, none⟩) es.length cap, .int .i64 es.length, .slice (some ⟨vb, 0, none⟩) 1 vc]) (pre := cs.take (es.length * 2) ++ vvs.toList.take 2 ++ cs.drop (es.length * 2)) (rest := us.toList.drop (0 + es.length * 2 + (vvs.toList.take 2).length)) (cur := nw.toArray) (cap := cap) (w' := w.setRow b nw.toArray) hA0 hιA (.inr b1) (keep_setRow b1) (by rw [size_setRow]; exact hιw 0 b b1) (setRow_heap w b us _ el _ b5) ?_ hrow (by rw [hfin]; exact hr) b4 (by rw [List.size_toArray, hsz]; exact b6)
        · rw [hfin] at hd; exact hd
        · have e3 : cs.take (es.length * 2) = cs := List.take_of_length_le (by omega)
          have e4 : cs.drop (es.length * 2) = [] := List.drop_eq_nil_of_le (by omega)
          rw [← hnew, e3, e4, Nat.zero_add, hcsd]
          simp
      · have hlt : i < es.length := by omega
        refine (ins_shift L b 0 es.length cap i vb 0 1 vc cs (vvs.toList.take 2) w hlt (by omega) hr hcapm hvb hcl hvlen hcs (fun j hj => hcell _ (by omega)) (fun j hj => hfrz _) hvs hone hvone vel el vvs.size us.size (by simp [World.shape?, v5]) (by simp [World.shape?, b5]) (by omega) (by simp [World.frozen?, v5]) (by simp [World.frozen?, v5])).mono ?_
        rintro ex w' ⟨rfl, rfl⟩
        have hdl : (cs.drop (i * 2)).length = (es.length - i) * 2 := by rw [List.length_drop, hcl]; omega
        have hdone : ∀ v ∈ cs.drop (i * 2), v.oneCell' = true := fun v hv => hone v (List.mem_of_mem_drop hv)
        rw [setCells_row (P := S.P) w.drew b (0 + (i + 1) * 2) el us _ b5 (by rw [hdl]; omega) hdone]
        generalize hnew1 : (us.toList.take (0 + (i + 1) * 2) ++ cs.drop (i * 2) ++ us.toList.drop (0 + (i + 1) * 2 + (cs.drop (i * 2)).length)) = nw1
        have hsz1 : nw1.length = us.size := by rw [← hnew1]; simp only [List.length_append, hdl, List.length_take, List.length_drop, Array.length_toList]; omega
        have hb1 := setRow_heap w.drew b us nw1.toArray el (0, 0) b5
        rw [setCells_row (P := S.P) _ b (0 + i * 2) el nw1.toArray _ hb1 (by rw [hvlen, List.size_toArray, hsz1]; omega) hvone]
        generalize hnew2 : (nw1.toArray.toList.take (0 + i * 2) ++ vvs.toList.take 2 ++ nw1.toArray.toList.drop (0 + i * 2 + (vvs.toList.take 2).length)) = nw2
        have hsz2 : nw2.length = us.size := by rw [← hnew2]; simp only [List.length_append, hvlen, List.length_take, List.length_drop, hsz1]; omega
        have hk : KeepO (Taken ι) w ((w.drew.setRow b nw1.toArray).setRow b nw2.toArray) := (keep_drew.trans (keep_setRow b1)).trans (keep_setRow b1)
        refine ⟨_, rfl, hk, ?_⟩
        have hd := row_done (args := [.own 2 es, .v (.int .i64 i), .own 2 [e]]) (vs := #[.slice (some ⟨b, 0, none⟩) es.length cap, .int .i64 i, .slice (some ⟨vb, 0, none⟩) 1 vc]) (pre := cs.take (i * 2) ++ vvs.toList.take 2 ++ cs.drop (i * 2)) (rest := us.toList.drop ((i + 1) * 2 + (cs.drop (i * 2)).length)) (cur := nw2.toArray) (cap := cap) (w' := (w.drew.setRow b nw1.toArray).setRow b nw2.toArray) hA0 hιA (.inr b1) hk (by rw [size_setRow, size_setRow]; exact hιw 0 b b1) (setRow_heap _ b _ _ el _ hb1) ?_ hrow (by rw [hfin]; exact hr) b4 (by rw [List.size_toArray, hsz2]; exact b6)
        · rw [hfin] at hd; exact hd
        · rw [← hnew2]
          simp only [Nat.zero_add] at hnew1 ⊢
          exact over_twice (L := us.toList) (m := 1) (by omega) hcsd.symm (by rw [Array.length_toList]; exact hfit) hvlen nw1 hnew1.symm
    · by_cases hin : i = es.length
      · subst hin
        refine (ins_end_grow L (some ⟨b, 0, none⟩) es.length cap vb 0 1 vc cs (vvs.toList.take 2) w (by omega) b3 (by omega) hbig hcl hvlen (fun h => by cases h) (fun a ha j v hj => by cases ha; rw [Addr.add_lit]; exact hcs j v hj) hvs hvone).mono ?_
        rintro ex w' ⟨rfl, rfl⟩
        have hcap := grownCap_ge w (es.length + 1) cap (ρ.t 9)
        have hcapm := grownCap_le_maxLen w (es.length + 1) cap (ρ.t 9) hmax
        generalize grownCap w (es.length + 1) cap (ρ.t 9) = G at hcap hcapm
        refine ⟨_, rfl, keep_drew.trans keep_alloc, ?_⟩
        have hd := row_done (args := [.own 2 es, .v (.int .i64 es.length), .own 2 [e]]) (vs := #[.slice (some ⟨b, 0, none⟩) es.length cap, .int .i64 es.length, .slice (some ⟨vb, 0, none⟩) 1 vc]) (pre := cs.take (es.length * 2) ++ vvs.toList.take 2 ++ cs.drop (es.length * 2)) (rest := (Builtin.zeroCells zc (G - (es.length + 1))).toList)
          (cur := (cs ++ vvs.toList.take 2).toArray ++ Builtin.zeroCells zc (G - (es.length + 1))) (cap := G) (w' := w.drew.alloc (.cells ((cs ++ vvs.toList.take 2).toArray ++ Builtin.zeroCells zc (G - (es.length + 1))) (ρ.t 9))) hA0 hιA (.inl rfl) (keep_drew.trans keep_alloc) (by simp) (heap_alloc_new w.drew _) ?_ hrow (by rw [hfin]; exact hcap) hcapm ?_
        · rw [hfin] at hd; exact hd
        · have e3 : cs.take (es.length * 2) = cs := List.take_of_length_le (by omega)
          have e4 : cs.drop (es.length * 2) = [] := List.drop_eq_nil_of_le (by omega)
          rw [e3, e4]
          simp
        · simp only [Array.size_append, List.size_toArray, List.length_append, hcl, hvlen, size_zeroCells, L.z2]
          omega
      · have hlt : i < es.length := by omega
        refine (ins_grow L b 0 es.length cap i vb 0 1 vc cs (vvs.toList.take 2) w hlt (by omega) b3 (by omega) hbig hcl hvlen hcs hvs hone hvone).mono ?_
        rintro ex w' ⟨rfl, rfl⟩
        have hcap := grownCap_ge w (es.length + 1) cap (ρ.t 9)
        have hcapm := grownCap_le_maxLen w (es.length + 1) cap (ρ.t 9) hmax
        generalize grownCap w (es.length + 1) cap (ρ.t 9) = G at hcap hcapm
        generalize hrowd : (cs.take (i * 2)).toArray ++ Builtin.zeroCells zc (es.length + 1 - i) ++ Builtin.zeroCells zc (G - (es.length + 1)) = ROW
        have hrsz : ROW.size = G * 2 := by
          rw [← hrowd]
          simp only [Array.size_append, List.size_toArray, List.length_take, hcl, size_zeroCells, L.z2]
          omega
        have hrt : ROW.toList.take (i * 2) = cs.take (i * 2) := by
          rw [← hrowd]
          simp only [Array.toList_append, List.append_assoc]
          exact List.take_left' (by rw [List.length_take, hcl]; omega)
        have hdl : (cs.drop (i * 2)).length = (es.length - i) * 2 := by rw [List.length_drop, hcl]; omega
        have hdone : ∀ v ∈ cs.drop (i * 2), v.oneCell' = true := fun v hv => hone v (List.mem_of_mem_drop hv)
        have hb0 : ((w.alloc (.cells ROW (ρ.t 9))).drew).heap[w.heap.size]? = some (.cells ROW (ρ.t 9) (0, 0)) := heap_alloc_new w _
        rw [setCells_row (P := S.P) _ w.heap.size (i * 2) (ρ.t 9) ROW _ hb0 (by rw [hvlen]; omega) hvone]
        generalize hnew1 : (ROW.toList.take (i * 2) ++ vvs.toList.take 2 ++ ROW.toList.drop (i * 2 + (vvs.toList.take 2).length)) = nw1
        have hsz1 : nw1.length = ROW.size := by rw [← hnew1]; simp only [List.length_append, hvlen, List.length_take, List.length_drop, Array.length_toList]; omega
        have hb1 : (((w.alloc (.cells ROW (ρ.t 9))).drew.setRow w.heap.size nw1.toArray).drew).heap[w.heap.size]? = some (.cells nw1.toArray (ρ.t 9) (0, 0)) := setRow_heap _ w.heap.size ROW nw1.toArray (ρ.t 9) (0, 0) hb0
        rw [setCells_row (P := S.P) _ w.heap.size ((i + 1) * 2) (ρ.t 9) nw1.toArray _ hb1 (by rw [hdl, List.size_toArray, hsz1]; omega) hdone]
        generalize hnew2 : (nw1.toArray.toList.take ((i + 1) * 2) ++ cs.drop (i * 2) ++ nw1.toArray.toList.drop ((i + 1) * 2 + (cs.drop (i * 2)).length)) = nw2
        have hsz2 : nw2.length = ROW.size := by rw [← hnew2]; simp only [List.length_append, hdl, List.length_take, List.length_drop, hsz1]; omega
        have hk0 : KeepO (Taken ι) w ((w.alloc (.cells ROW (ρ.t 9))).drew) := keep_alloc.trans keep_drew
        have hk1 : KeepO (Taken ι) w (((w.alloc (.cells ROW (ρ.t 9))).drew.setRow w.heap.size nw1.toArray).drew) := (keep_setRow_new (Nat.le_refl _) hk0).trans keep_drew
        have hk := keep_setRow_new (new := nw2.toArray) (b := w.heap.size) (Nat.le_refl _) hk1
        refine ⟨_, rfl, hk, ?_⟩
        have hd := row_done (args := [.own 2 es, .v (.int .i64 i), .own 2 [e]]) (vs := #[.slice (some ⟨b, 0, none⟩) es.length cap, .int .i64 i, .slice (some ⟨vb, 0, none⟩) 1 vc]) (pre := cs.take (i * 2) ++ vvs.toList.take 2 ++ cs.drop (i * 2)) (rest := nw1.drop ((i + 1) * 2 + (cs.drop (i * 2)).length)) (cur := nw2.toArray) (cap := G) (nb := w.heap.size) (el := ρ.t 9)
          hA0 hιA (.inl rfl) hk (by rw [size_setRow]; exact (List.getElem?_eq_some_iff.1 (by simpa using hb1)).1) (setRow_heap _ w.heap.size _ _ (ρ.t 9) _ hb1) ?_ hrow (by rw [hfin]; exact hcap) hcapm (by rw [List.size_toArray, hsz2, hrsz]; exact Nat.le_refl _)
        · rw [hfin] at hd; exact hd
        · have e5 : nw1.take ((i + 1) * 2) = cs.take (i * 2) ++ vvs.toList.take 2 := by
            rw [← hnew1, hrt]
            exact List.take_left' (by rw [List.length_append, List.length_take, hcl, hvlen]; omega)
          rw [← hnew2]
          simp only [e5]

theorem del_realM {ρ : Ren} {zc : Array Value} (L : DelL S.P ρ zc) {es : List (List AV)} {i j : Nat} (hij : i < j) (hj : j ≤ es.length) :
    RealM S (ρ.f 45) [.own 2 es, .v (.int .i64 i), .v (.int .i64 j)] (.own 2 (es.take i ++ es.drop j)) [] := by
  intro A w vs ι hl hA hι hargs
  have hA0 := hA.1
  have hιA : ∀ i b, ι i = some b → ¬ A b := fun i b hb => (hι.1 i b hb).2.2.1
  have hιw : ∀ i b, ι i = some b → b < w.heap.size := fun i b hb => (hι.1 i b hb).2.1
  have h0 : OwnRel S A w (ι 0) 2 es (vs.getD 0 undef) := hargs 0 _ rfl
  have h1 : VR0 S A w (.v (.int .i64 i)) (vs.getD 1 undef) := (hargs 1 (.v (.int .i64 i)) rfl).2
  have h2 : VR0 S A w (.v (.int .i64 j)) (vs.getD 2 undef) := (hargs 2 (.v (.int .i64 j)) rfl).2
  obtain ⟨x0, x1, x2, rfl⟩ : ∃ x0 x1 x2, vs = #[x0, x1, x2] := by
    obtain ⟨l⟩ := vs
    match l, hl with
    | [x0, x1, x2], _ => exact ⟨x0, x1, x2, rfl⟩
  obtain rfl : x1 = .int .i64 i := VR.v_inv (σ := fun _ => none) (.of0 h1)
  obtain rfl : x2 = .int .i64 j := VR.v_inv (σ := fun _ => none) (.of0 h2)
  have hfin : (es.take i ++ es.drop j).length = i + (es.length - j) := by simp; omega
  rcases own_cases h0 with ⟨b1, b2, b3⟩ | ⟨b, cap, us, el, b1, b2, b3, b4, b5, b6, b7⟩
  · subst b2; simp at hj; omega
  · obtain rfl : x0 = .slice (some ⟨b, 0, none⟩) es.length cap := b2
    generalize hcsd : us.toList.take (es.length * 2) = cs at b7
    have hcl := b7.length
    have hone := b7.one
    have husz : es.length * 2 ≤ us.size := Nat.le_trans (Nat.mul_le_mul_right _ b3) b6
    have hcs : ∀ j v, cs[j]? = some v → w.cell? ⟨b, 0 + j, none⟩ = some v := fun j v hj => by
      rw [← hcsd, List.getElem?_take] at hj
      split at hj
      · rw [Array.getElem?_toList] at hj
        simpa [World.cell?, b5] using hj
      · cases hj
    have hfrz : ∀ j, w.frozen? ⟨b, j, none⟩ = false := fun j => by simp [World.frozen?, b5]
    have hcapm : cap ≤ 9223372036854775807 := by unfold maxLen at b4; omega
    have hrow : Row2 (VR0 S A w) (es.take i ++ es.drop j) (cs.take (i * 2) ++ cs.drop (j * 2)) := (b7.take i).append (b7.drop j)
    refine (del_walk L b 0 es.length cap i j cs w hij hj b3 hcapm hcl hcs (fun k _ => hfrz _) hone).mono ?_
    rintro ex w' ⟨rfl, rfl⟩
    have hdl : (cs.drop (j * 2)).length = (es.length - j) * 2 := by rw [List.length_drop, hcl]; omega
    have hdone : ∀ v ∈ cs.drop (j * 2), v.oneCell' = true := fun v hv => hone v (List.mem_of_mem_drop hv)
    rw [setCells_row (P := S.P) w.drew b (0 + i * 2) el us _ b5 (by rw [hdl]; omega) hdone]
    generalize hnew1 : (us.toList.take (0 + i * 2) ++ cs.drop (j * 2) ++ us.toList.drop (0 + i * 2 + (cs.drop (j * 2)).length)) = nw1
    have hsz1 : nw1.length = us.size := by rw [← hnew1]; simp only [List.length_append, hdl, List.length_take, List.length_drop, Array.length_toList]; omega
    have hb1 := setRow_heap w.drew b us nw1.toArray el (0, 0) b5
    have hzl : (Builtin.zeroCells zc (es.length - (i + (es.length - j)))).toList.length = (es.length - (i + (es.length - j))) * 2 := by rw [Array.length_toList, size_zeroCells, L.z2]
    rw [setCells_row (P := S.P) _ b (0 + (i + (es.length - j)) * 2) el nw1.toArray _ hb1 (by rw [hzl, List.size_toArray, hsz1]; omega) fun u hu => L.z1 u (zeroCells_mem hu)]
    generalize hzr : (Builtin.zeroCells zc (es.length - (i + (es.length - j)))).toList = zs at hzl
    generalize hnew2 : (nw1.toArray.toList.take (0 + (i + (es.length - j)) * 2) ++ zs ++ nw1.toArray.toList.drop (0 + (i + (es.length - j)) * 2 + zs.length)) = nw2
    have hsz2 : nw2.length = us.size := by rw [← hnew2]; simp only [List.length_append, hzl, List.length_take, List.length_drop, hsz1]; omega
    have hk : KeepO (Taken ι) w ((w.drew.setRow b nw1.toArray).setRow b nw2.toArray) := (keep_drew.trans (keep_setRow b1)).trans (keep_setRow b1)
    refine ⟨_, rfl, hk, ?_⟩
    have hd := row_done (args := [.own 2 es, .v (.int .i64 i), .v (.int .i64 j)]) (vs := #[.slice (some ⟨b, 0, none⟩) es.length cap, .int .i64 i, .int .i64 j]) (pre := cs.take (i * 2) ++ cs.drop (j * 2)) (rest := zs ++ nw1.drop ((i + (es.length - j)) * 2 + zs.length)) (cur := nw2.toArray) (cap := cap) (w' := (w.drew.setRow b nw1.toArray).setRow b nw2.toArray) hA0 hιA (.inr b1) hk (by rw [size_setRow, size_setRow]; exact hιw 0 b b1) (setRow_heap _ b _ _ el _ hb1) ?_ hrow (by rw [hfin]; omega) b4 (by rw [List.size_toArray, hsz2]; exact b6)
    · rw [hfin] at hd; exact hd
    · have e5 : nw1.take ((i + (es.length - j)) * 2) = cs.take (i * 2) ++ cs.drop (j * 2) := by
        rw [← hnew1, ← hcsd]
        simp only [Nat.zero_add, List.take_take]
        rw [Nat.min_eq_left (by omega)]
        refine List.take_left' ?_
        rw [hcsd, List.length_append, hdl, List.length_take, Array.length_toList]
        omega
      rw [← hnew2]
      simp only [Nat.zero_add, e5, List.append_assoc]
end

/-! ### the instances -/

/-- The seat's function of this number is slices.Insert (slices.Delete) at entries. -/
def InsAt (S : Seat) (id : Nat) : Prop := ∀ g, assoc g S.fns = some id → ∃ ρ zc, ρ.f 22 = g ∧ InsL S.P ρ zc
def DelAt (S : Seat) (id : Nat) : Prop := ∀ g, assoc g S.fns = some id → ∃ ρ zc, ρ.f 45 = g ∧ DelL S.P ρ zc

noncomputable def P78 (es : List Entry) (i : Int) (ys : List Entry) : Option (List Entry) :=
  ck (decide (0 ≤ i ∧ i ≤ ((List.length es : Nat) : Int) ∧ List.length es + 1 ≤ roomA ∧ List.length ys = 1)) (some (es.take i.toNat ++ ys ++ es.drop i.toNat))
noncomputable def k78 : CSpec := ⟨78, [.own .entry, .int, .own .entry], .own .entry, fun x => P78 x.1 x.2.1 x.2.2, false, [1000, 1002]⟩
theorem r78a {S : Seat} (h : InsAt S 78) (es : List Entry) (i : Int) (ys y : List Entry) (hy : P78 es i ys = some y) : (realRets S).ret 78 [.own 2 (es.map Ty.entry.cells), .v (.int .i64 i), .own 2 (ys.map Ty.entry.cells)] (.own 2 (y.map Ty.entry.cells)) [] := by
  obtain ⟨h1, h2⟩ := ck_some hy
  obtain ⟨h0, hi, hr, hl⟩ := of_decide_eq_true h1
  obtain rfl := Option.some.inj h2
  obtain ⟨k, rfl⟩ : ∃ k : Nat, i = k := ⟨i.toNat, by omega⟩
  obtain ⟨e, rfl⟩ : ∃ e, ys = [e] := by
    match ys, hl with
    | [e], _ => exact ⟨e, rfl⟩
  intro g hg
  obtain ⟨ρ, zc, rfl, L⟩ := h g hg
  have := ins_realM (S := S) L (es := es.map Ty.entry.cells) (e := Ty.entry.cells e) (i := k) (by simpa using hi) (by simpa using hr)
  have e1 : ((es.take (Int.toNat k) ++ [e] ++ es.drop (Int.toNat k)).map Ty.entry.cells) = (es.map Ty.entry.cells).take k ++ [Ty.entry.cells e] ++ (es.map Ty.entry.cells).drop k := by
    simp [List.map_take, List.map_drop]
  show RealM S _ _ (.own 2 ((es.take (Int.toNat k) ++ [e] ++ es.drop (Int.toNat k)).map Ty.entry.cells)) []
  rw [e1]
  exact this
theorem r78 {S : Seat} (h : InsAt S 78) : Rt S k78 := fun x y hy => r78a h x.1 x.2.1 x.2.2 y hy
noncomputable def P77 (es : List Entry) (i j : Int) : Option (List Entry) :=
  ck (decide (0 ≤ i ∧ i < j ∧ j ≤ ((List.length es : Nat) : Int))) (some (es.take i.toNat ++ es.drop j.toNat))
noncomputable def k77 : CSpec := ⟨77, [.own .entry, .int, .int], .own .entry, fun x => P77 x.1 x.2.1 x.2.2, false, [1000]⟩
theorem r77a {S : Seat} (h : DelAt S 77) (es : List Entry) (i j : Int) (y : List Entry) (hy : P77 es i j = some y) : (realRets S).ret 77 [.own 2 (es.map Ty.entry.cells), .v (.int .i64 i), .v (.int .i64 j)] (.own 2 (y.map Ty.entry.cells)) [] := by
  obtain ⟨h1, h2⟩ := ck_some hy
  obtain ⟨h0, hi, hj⟩ := of_decide_eq_true h1
  obtain rfl := Option.some.inj h2
  obtain ⟨k, rfl⟩ : ∃ k : Nat, i = k := ⟨i.toNat, by omega⟩
  obtain ⟨m, rfl⟩ : ∃ m : Nat, j = m := ⟨j.toNat, by omega⟩
  intro g hg
  obtain ⟨ρ, zc, rfl, L⟩ := h g hg
  have := del_realM (S := S) L (es := es.map Ty.entry.cells) (i := k) (j := m) (by omega) (by simpa using hj)
  have e1 : ((es.take (Int.toNat k) ++ es.drop (Int.toNat m)).map Ty.entry.cells) = (es.map Ty.entry.cells).take k ++ (es.map Ty.entry.cells).drop m := by
    simp [List.map_take, List.map_drop]
  show RealM S _ _ (.own 2 ((es.take (Int.toNat k) ++ es.drop (Int.toNat m)).map Ty.entry.cells)) []
  rw [e1]
  exact this
theorem r77 {S : Seat} (h : DelAt S 77) : Rt S k77 := fun x y hy => r77a h x.1 x.2.1 x.2.2 y hy
end Ab
