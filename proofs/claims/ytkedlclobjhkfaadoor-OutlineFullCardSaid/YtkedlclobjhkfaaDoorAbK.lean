/-
  Operations that make or write memory.
-/
import Derived.Test.YtkedlclobjhkfaaDoorAbJ
namespace Ab
open Go Go.RowKit

section
variable {S : Seat} {A0 O : Nat → Prop} {w0 : World} {A : Nat → Prop} {σ : Nat → Option Nat} {w : World} {st st' : ASt} {tm : Array Value} {df : List Deferred} {o : Oper} {v : AV} {d : Nat}

/-- A new variable. -/
theorem newVar_ok (h : SRel S A0 O w0 A σ w st tm) (hd : st.hp d = none) {cs : List AV} {y : Value} {e : TypeId} (hr : (execOp (Act.eval ⟨tm, df⟩) o).run S.P w = .ok (.value (.pointer (some ⟨w.heap.size, 0, none⟩))) (w.alloc (.cells y.cells e)))
    (h1 : cs.length = y.cells.size) (h2 : ∀ (i : Nat) (a : AV), cs[i]? = some a → VR S A σ w a (y.cells.getD i undef)) (h3 : ∀ s ∈ AV.refsL cs, st.hp s ≠ none) :
    OpOk S A0 O w0 w tm df o (.pv d 0) (st.setH d (some (.var cs))) := by
  refine ⟨_, _, A, _, hr, h.newBlk (vs := y.cells) (el := e) (blk := .var cs) hd (by rw [Blk.refs]; exact h3) ?_, .inl ⟨_, rfl, .pv (upd_same _ _ _), fun s hs => ?_⟩⟩
  · refine ⟨w.heap.size, y.cells, e, upd_same _ _ _, heap_alloc_new w _, by omega, fun i x hx => (h2 i x hx).mono (fun _ h => h) (fun b hb => heap_alloc_old w _ b (h.Alt b hb)) fun s hs => ?_⟩
    have hs' := h3 s (mem_refsL.2 ⟨x, List.mem_of_getElem? hx, hs⟩)
    have hne : s ≠ d := fun e => hs' (e ▸ hd)
    exact ⟨upd_ne _ _ _ hne, fun b cs el' hb hc => ⟨cs, by rw [heap_alloc_old w _ b (h.dom s b hb).2.1]; exact hc, rfl⟩⟩
  · rw [AV.refs, List.mem_singleton] at hs
    subst hs
    simp [ASt.setH, upd]

theorem op_box (h : SRel S A0 O w0 A σ w st tm) {e : TypeId} {x : Operand} {x' : AOpd} (ho : o.op = .box e x) (h1 : cOpd S x = some x') (ha : aop (.box x') d st = some (v, st')) : OpOk S A0 O w0 w tm df o v st' := by
  have g1 := h.ev (df := df) h1
  simp only [aop] at ha
  split at ha
  · rename_i cs hcs hd
    simp only [Option.some.injEq, Prod.mk.injEq] at ha; obtain ⟨rfl, rfl⟩ := ha
    obtain ⟨k1, k2, k3, k4⟩ := g1.rel.cells hcs
    exact newVar_ok h hd (y := Act.eval ⟨tm, df⟩ x) (e := e) (by simp [execOp, ho, Instr.box, newVar, newRow]) k1 k2 fun s hs => g1.dang s ((k4 s).1 hs)
  · cases ha

theorem cZero_some {P : Program} {t : TypeId} {l : List Value} (h : cZero P t = some l) : ∃ i z, P.info? t = some i ∧ i.zero = some z ∧ z.cells.toList = l ∧ z.cells.size = i.size ∧ 0 < i.size ∧ ∀ x ∈ l, okConst x = true := by
  unfold cZero at h
  split at h
  · rename_i i hi
    split at h
    · rename_i z hz
      split at h
      · rename_i hc
        cases h
        exact ⟨i, z, hi, hz, rfl, hc.1, hc.2.1, List.all_eq_true.1 hc.2.2⟩
      · cases h
    · cases h
  · cases h

theorem zero_rel {z : Value} (i : Nat) (a : AV) (hi : (z.cells.toList.map AV.v)[i]? = some a) : VR S A σ w a (z.cells.getD i undef) := by
  simp only [List.getElem?_map, Option.map_eq_some_iff] at hi
  obtain ⟨y, hy, rfl⟩ := hi
  have : z.cells.getD i undef = y := by
    rw [Array.getD_eq_getD_getElem?]
    simp only [Array.getElem?_toList] at hy
    rw [hy]; rfl
  rw [this]
  exact .of0 (.v y)
theorem refsL_v (l : List Value) : AV.refsL (l.map AV.v) = [] := by
  induction l with
  | nil => rfl
  | cons x r ih => simp [AV.refsL, AV.refs, ih]

theorem op_alloc (h : SRel S A0 O w0 A σ w st tm) {e : TypeId} {l : List Value} (ho : o.op = .alloc e) (hz : cZero S.P e = some l) (ha : aop (.alloc l) d st = some (v, st')) : OpOk S A0 O w0 w tm df o v st' := by
  obtain ⟨i, z, k1, k2, rfl, k4, k5, _⟩ := cZero_some hz
  simp only [aop] at ha
  split at ha
  · rename_i hd
    simp only [Option.some.injEq, Prod.mk.injEq] at ha; obtain ⟨rfl, rfl⟩ := ha
    exact newVar_ok h hd (y := z) (e := e) (by simp [execOp, ho, Instr.alloc, zeroValue, typeInfo, k1, k2, newVar, newRow]) (by simp) (fun i a hi => zero_rel i a hi) (by rw [refsL_v]; simp)
  · cases ha

/-! ### aggregates -/

theorem overwrite_length {cs new : List AV} {off : Nat} (h : off + new.length ≤ cs.length) : (overwrite cs off new).length = cs.length := by
  simp [overwrite]; omega
theorem overwrite_get {cs new : List AV} {off : Nat} (h : off + new.length ≤ cs.length) (i : Nat) : (overwrite cs off new)[i]? = if off ≤ i ∧ i < off + new.length then new[i - off]? else cs[i]? := by
  have ht : (cs.take off).length = off := by simp; omega
  unfold overwrite
  by_cases h1 : i < off
  · rw [if_neg (by omega), List.append_assoc, List.getElem?_append_left (by omega), List.getElem?_take_of_lt h1]
  · by_cases h2 : i < off + new.length
    · rw [if_pos (by omega), List.append_assoc, List.getElem?_append_right (by omega), ht, List.getElem?_append_left (by omega)]
    · rw [if_neg (by omega), List.getElem?_append_right (by simp; omega), List.getElem?_drop]
      congr 1
      simp
      omega

theorem zf_list (off : Nat) : ∀ (l : List Value) (k : Nat) (arr : Array Value), off + k + l.length ≤ arr.size →
    ((l.zipIdx k).foldl (fun cs p => cs.setIfInBounds (off + p.2) p.1) arr).size = arr.size ∧
    ∀ i, ((l.zipIdx k).foldl (fun cs p => cs.setIfInBounds (off + p.2) p.1) arr).getD i undef = if off + k ≤ i ∧ i < off + k + l.length then l.getD (i - (off + k)) undef else arr.getD i undef
  | [], k, arr, _ => by
    refine ⟨rfl, fun i => ?_⟩
    simp only [List.zipIdx_nil, List.foldl_nil, List.length_nil]
    rw [if_neg (by omega)]
  | x :: r, k, arr, h => by
    simp only [List.length_cons] at h
    obtain ⟨h1, h2⟩ := zf_list off r (k + 1) (arr.setIfInBounds (off + k) x) (by simp; omega)
    simp only [List.zipIdx_cons, List.foldl_cons]
    refine ⟨by rw [h1]; simp, fun i => ?_⟩
    rw [h2 i, getD_setIfInBounds _ _ _ _ _ (by omega)]
    simp only [List.length_cons]
    by_cases e1 : off + (k + 1) ≤ i ∧ i < off + (k + 1) + r.length
    · rw [if_pos e1, if_pos (by omega), show i - (off + k) = (i - (off + (k + 1))) + 1 by omega]
      rfl
    · rw [if_neg e1]
      by_cases e2 : i = off + k
      · subst e2
        rw [if_pos rfl, if_pos (by omega)]
        simp
      · rw [if_neg e2, if_neg (by omega)]

theorem zf_arr (off : Nat) (vs arr : Array Value) (h : off + vs.size ≤ arr.size) :
    (vs.zipIdx.foldl (fun cs (c, j) => cs.setIfInBounds (off + j) c) arr).size = arr.size ∧
    ∀ i, (vs.zipIdx.foldl (fun cs (c, j) => cs.setIfInBounds (off + j) c) arr).getD i undef = if off ≤ i ∧ i < off + vs.size then vs.getD (i - off) undef else arr.getD i undef := by
  have := zf_list off vs.toList 0 arr (by simpa using h)
  rw [← Array.foldl_toList, Array.toList_zipIdx]
  refine ⟨this.1, fun i => ?_⟩
  have h2 := this.2 i
  simp only [Nat.add_zero, Array.length_toList] at h2
  refine h2.trans ?_
  congr 1
  simp [Array.getD_eq_getD_getElem?, List.getD]

/-- Parts that are filled in. -/
theorem fill_ok {R : AV → Value → Prop} (place : Nat → Option (Nat × Nat)) : ∀ (ps : List (Nat × List AV)) (zero res : List AV) (rs : List (Nat × Value)) (arr : Array Value),
    fillZ zero ps = some res → zero.length = arr.size → (∀ (i : Nat) (a : AV), zero[i]? = some a → R a (arr.getD i undef)) → ps.length = rs.length →
    (∀ (j : Nat) (p : Nat × List AV) (r : Nat × Value), ps[j]? = some p → rs[j]? = some r → place r.1 = some (p.1, p.2.length) ∧ p.2.length = r.2.cells.size ∧ ∀ (i : Nat) (a : AV), p.2[i]? = some a → R a (r.2.cells.getD i undef)) →
    ∃ arr', Instr.fill place arr rs = some arr' ∧ res.length = arr'.size ∧ ∀ (i : Nat) (a : AV), res[i]? = some a → R a (arr'.getD i undef)
  | [], zero, res, rs, arr, hf, hl, hr, hn, _ => by
    cases rs with
    | nil => simp only [fillZ, Option.some.injEq] at hf; subst hf; exact ⟨arr, rfl, hl, hr⟩
    | cons => simp at hn
  | (off, cs) :: ps, zero, res, rs, arr, hf, hl, hr, hn, hp => by
    cases rs with
    | nil => simp at hn
    | cons r rs =>
      obtain ⟨k1, k2, k3⟩ := hp 0 (off, cs) r rfl rfl
      simp only at k1 k2 k3
      simp only [fillZ] at hf
      split at hf
      · rename_i hle
        obtain ⟨z1, z2⟩ := zf_arr off r.2.cells arr (by omega)
        obtain ⟨arr', f1, f2, f3⟩ := fill_ok place ps (overwrite zero off cs) res rs _ hf (by rw [overwrite_length hle, z1]; exact hl) (fun i a hi => by
          rw [overwrite_get hle] at hi
          rw [z2]
          split at hi
          · rename_i hc; rw [if_pos (by omega)]; exact k3 _ _ hi
          · rename_i hc; rw [if_neg (by omega)]; exact hr _ _ hi) (by simpa using hn) (fun j p r hj hk => hp (j + 1) p r (by simpa using hj) (by simpa using hk))
        refine ⟨arr', ?_, f2, f3⟩
        obtain ⟨ri, rv⟩ := r
        have k2' : cs.length = rv.cells.size := k2
        simp only [Instr.fill, k1]
        rw [if_neg (by simp; omega)]
        exact f1
      · cases hf

theorem optAll_get {α β : Type} {f : α → Option β} : ∀ {xs : List α} {ys : List β}, optAll f xs = some ys → xs.length = ys.length ∧ ∀ (i : Nat) (y : β), ys[i]? = some y → ∃ x, xs[i]? = some x ∧ f x = some y
  | [], ys, h => by simp only [optAll, Option.some.injEq] at h; subst h; exact ⟨rfl, by simp⟩
  | x :: xs, ys, h => by
    simp only [optAll] at h
    split at h
    · rename_i y ys' hy hys
      cases h
      obtain ⟨h1, h2⟩ := optAll_get hys
      refine ⟨by simp [h1], fun i y' hi => ?_⟩
      cases i with
      | zero => simp at hi; subst hi; exact ⟨x, rfl, hy⟩
      | succ i => simp at hi; obtain ⟨x', h3, h4⟩ := h2 i y' hi; exact ⟨x', by simpa using h3, h4⟩
    · cases h

theorem mapM_of_optAll {P : Program} : ∀ (fs : List Field) (l : List Nat), optAll (fun (f : Field) => cSize P f.type) fs = some l →
    ∃ places, fs.mapM (fun f => (P.info? f.type).map fun i => (f.offset, i.size)) = some places ∧ ∀ (j : Nat) (f : Field) (n : Nat), fs[j]? = some f → cSize P f.type = some n → places[j]? = some (f.offset, n)
  | [], l, _ => ⟨[], rfl, by simp⟩
  | f :: fs, l, h => by
    simp only [optAll] at h
    split at h
    · rename_i y ys hy hys
      obtain ⟨places, h1, h2⟩ := mapM_of_optAll fs ys hys
      obtain ⟨i, hi, rfl⟩ : ∃ i, P.info? f.type = some i ∧ i.size = y := by simpa [cSize] using hy
      refine ⟨(f.offset, i.size) :: places, by simp [List.mapM_cons, hi, h1], fun j f' n hj hn => ?_⟩
      cases j with
      | zero => simp at hj; subst hj; simp [cSize, hi] at hn; subst hn; rfl
      | succ j => simp at hj; simpa using h2 j f' n hj hn
    · cases h

theorem op_build (h : SRel S A0 O w0 A σ w st tm) {t : TypeId} {ps : Array (Nat × Operand)} {fs : Array Field} {zero : List Value} {l : List (Nat × Nat × AOpd)} {szs : List Nat} (ho : o.op = .build t ps) (hu : S.P.underlying t = some (.struct fs))
    (hz : cZero S.P t = some zero) (hl : optAll (fun (p : Nat × Operand) => match cField S.P t p.1, cOpd S p.2 with | some f, some x => (match cSize S.P f.type with | some n => some (f.offset, n, x) | none => none) | _, _ => none) ps.toList = some l)
    (hs : optAll (fun (f : Field) => cSize S.P f.type) fs.toList = some szs) (ha : aop (.build zero l) d st = some (v, st')) : OpOk S A0 O w0 w tm df o v st' := by
  obtain ⟨i, z, k1, k2, rfl, k4, k5, _⟩ := cZero_some hz
  obtain ⟨places, p1, p2⟩ := mapM_of_optAll _ _ hs
  simp only [aop] at ha
  split at ha
  · rename_i pcs hpcs
    split at ha
    · rename_i res hres
      simp only [Option.some.injEq, Prod.mk.injEq] at ha; obtain ⟨rfl, rfl⟩ := ha
      obtain ⟨a1, a2⟩ := optAll_get hl
      obtain ⟨b1, b2⟩ := optAll_get hpcs
      have main := fill_ok (R := fun a x => Got S A σ w st a x) (fun x => places[x]?) pcs (z.cells.toList.map AV.v) res (ps.toList.map fun p => (p.1, Act.eval ⟨tm, df⟩ p.2)) z.cells hres (by simp)
        (fun i a hi => ⟨zero_rel i a hi, fun s hs => by have := mem_refsL.2 ⟨a, List.mem_of_getElem? hi, hs⟩; rw [refsL_v] at this; cases this⟩) (by rw [List.length_map]; omega)
        (fun j p r hj hr => by
          obtain ⟨q, hq, hq2⟩ := b2 j p hj
          obtain ⟨q0, hq0, hq3⟩ := a2 j q hq
          simp only [List.getElem?_map, hq0, Option.map_some, Option.some.injEq] at hr
          subst hr
          split at hq3
          · rename_i f x hf hx
            split at hq3
            · rename_i n hn
              cases hq3
              simp only at hq2
              split at hq2
              · rename_i cs hcs
                split at hq2
                · rename_i hlen
                  cases hq2
                  have g := h.ev (df := df) hx
                  obtain ⟨c1, c2, c3, c4⟩ := g.rel.cells hcs
                  refine ⟨?_, c1, fun i a hi => ⟨c2 i a hi, fun s hs => g.dang s ((c4 s).1 (mem_refsL.2 ⟨a, List.mem_of_getElem? hi, hs⟩))⟩⟩
                  have hfj : fs.toList[q0.1]? = some f := by simpa [cField, hu] using hf
                  simp only [hlen]
                  exact p2 _ _ _ hfj hn
                · cases hq2
              · cases hq2
            · cases hq3
          · cases hq3)
      obtain ⟨arr', f1, f2, f3⟩ := main
      refine .same h (rv := .agg arr') ?_ ⟨.agg f2 fun i a hi => (f3 i a hi).rel, fun s hs => ?_⟩
      · have hb : S.P.built t (ps.map fun (i, x) => (i, Act.eval ⟨tm, df⟩ x)).toList = some arr' := by
          simp only [Program.built, k1, hu, k2, p1]
          simpa using f1
        have := run_build (P := S.P) w t _ arr' hb
        simp [execOp, ho, this]
      · rw [AV.refs, mem_refsL] at hs
        obtain ⟨x, hx, hs⟩ := hs
        obtain ⟨i, hi⟩ := List.mem_iff_getElem?.1 hx
        exact (f3 i x hi).dang s hs
    · cases ha
  · cases ha
end
end Ab
