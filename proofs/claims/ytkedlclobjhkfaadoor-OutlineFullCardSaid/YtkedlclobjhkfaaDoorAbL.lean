/-
  Operations that make or write memory, the second part: slice literals, make, append, stores, a string's bytes.
-/
import Derived.Test.YtkedlclobjhkfaaDoorAbK
namespace Ab
open Go Go.RowKit

section
variable {S : Seat} {A0 O : Nat → Prop} {w0 : World} {A : Nat → Prop} {σ : Nat → Option Nat} {w : World} {st st' : ASt} {tm : Array Value} {df : List Deferred} {o : Oper} {v : AV} {d : Nat}

/-- A row of elements of z cells each. -/
structure RowRel (R : AV → Value → Prop) (z : Nat) (es : List (List AV)) (arr : Array Value) : Prop where
  size : arr.size = es.length * z
  each : ∀ e ∈ es, e.length = z
  rel : ∀ (i : Nat) (e : List AV) (c : Nat) (x : AV), es[i]? = some e → e[c]? = some x → R x (arr.getD (i * z + c) undef)
  one : ∀ j, j < arr.size → (arr.getD j undef).oneCell' = true

theorem idx_lt {i c z n : Nat} (hi : i < n) (hc : c < z) : i * z + c < n * z := by
  have : (i + 1) * z ≤ n * z := Nat.mul_le_mul_right _ hi
  rw [Nat.add_mul] at this
  omega
theorem idx_split {i j c z : Nat} (h1 : j * z ≤ i * z + c) (h2 : i * z + c < j * z + z) (hc : c < z) : i = j := by
  rcases Nat.lt_trichotomy i j with h | h | h
  · have : (i + 1) * z ≤ j * z := Nat.mul_le_mul_right _ h
    rw [Nat.add_mul] at this; omega
  · exact h
  · have : (j + 1) * z ≤ i * z := Nat.mul_le_mul_right _ h
    rw [Nat.add_mul] at this; omega

theorem fillRow_ok {R : AV → Value → Prop} {z : Nat} : ∀ (ps : List (Nat × List AV)) (es : List (List AV)) (rs : List (Nat × Value)) (arr : Array Value), RowRel R z es arr → ps.length = rs.length →
    (∀ (j : Nat) (p : Nat × List AV) (r : Nat × Value), ps[j]? = some p → rs[j]? = some r → r.1 = p.1 ∧ p.1 < es.length ∧ p.2.length = z ∧ p.2.length = r.2.cells.size ∧ (∀ (i : Nat) (a : AV), p.2[i]? = some a → R a (r.2.cells.getD i undef)) ∧
      ∀ x ∈ r.2.cells.toList, x.oneCell' = true) →
    ∃ arr', Instr.fill (fun i => some (i * z, z)) arr rs = some arr' ∧ RowRel R z (ps.foldl (fun es p => es.set p.1 p.2) es) arr'
  | [], es, rs, arr, h, hn, _ => by
    cases rs with
    | nil => exact ⟨arr, rfl, h⟩
    | cons => simp at hn
  | (k, cs) :: ps, es, rs, arr, h, hn, hp => by
    cases rs with
    | nil => simp at hn
    | cons r rs =>
      obtain ⟨ri, rv⟩ := r
      obtain ⟨k1, k2, k3, k4, k5, k6⟩ := hp 0 (k, cs) (ri, rv) rfl rfl
      simp only at k1 k2 k3 k4 k5 k6
      subst k1
      have hle : ri * z + rv.cells.size ≤ arr.size := by
        rw [h.size, ← k4, k3]
        have : (ri + 1) * z ≤ es.length * z := Nat.mul_le_mul_right _ k2
        rw [Nat.add_mul] at this; omega
      obtain ⟨z1, z2⟩ := zf_arr (ri * z) rv.cells arr hle
      have h' : RowRel R z (es.set ri cs) (rv.cells.zipIdx.foldl (fun cs (c, j) => cs.setIfInBounds (ri * z + j) c) arr) := by
        refine ⟨by rw [z1, h.size]; simp, fun e he => ?_, fun i e c x hi hc => ?_, fun j hj => ?_⟩
        · rcases List.mem_or_eq_of_mem_set he with he | rfl
          · exact h.each e he
          · exact k3
        · rw [z2]
          by_cases hri : ri = i
          · subst hri
            rw [List.getElem?_set_self k2] at hi
            cases hi
            have hcl := (List.getElem?_eq_some_iff.1 hc).1
            rw [if_pos (by omega), show ri * z + c - ri * z = c by omega]
            exact k5 c x hc
          · have hne := hri
            rw [List.getElem?_set_ne hri] at hi
            have hez := h.each e (List.mem_of_getElem? hi)
            have hcl := (List.getElem?_eq_some_iff.1 hc).1
            rw [if_neg (fun hh => hne (idx_split hh.1 (by omega) (by omega)).symm)]
            exact h.rel i e c x hi hc
        · rw [z2]
          rw [z1] at hj
          by_cases hc : ri * z ≤ j ∧ j < ri * z + rv.cells.size
          · rw [if_pos hc]
            apply k6
            have : j - ri * z < rv.cells.size := by omega
            rw [Array.mem_toList_iff]
            simp [Array.getD, this]
          · rw [if_neg hc]
            exact h.one j hj
      obtain ⟨arr', f1, f2⟩ := fillRow_ok ps (es.set ri cs) rs _ h' (by simpa using hn) (fun j p r hj hk => by simpa using hp (j + 1) p r (by simpa using hj) (by simpa using hk))
      refine ⟨arr', ?_, f2⟩
      simp only [Instr.fill]
      rw [if_neg (by simp; omega)]
      exact f1

theorem zeroRow {R : AV → Value → Prop} {z : Value} {n : Nat} (hs : 0 < z.cells.size) (hR : ∀ x ∈ z.cells.toList, R (.v x) x) (h1 : ∀ x ∈ z.cells.toList, x.oneCell' = true) :
    RowRel R z.cells.size (List.replicate n (z.cells.toList.map AV.v)) ((Array.range (n * z.cells.size)).map (z.cells[· % z.cells.size]!)) := by
  have get : ∀ j, j < n * z.cells.size → ((Array.range (n * z.cells.size)).map (z.cells[· % z.cells.size]!)).getD j undef = z.cells[j % z.cells.size]'(Nat.mod_lt _ hs) := by
    intro j hj
    have hm := Nat.mod_lt j hs
    simp [Array.getD, hj, getElem!_pos, hm]
  refine ⟨by simp, fun e he => ?_, fun i e c x hi hc => ?_, fun j hj => ?_⟩
  · rw [List.mem_replicate] at he
    rw [he.2]; simp
  · rw [List.getElem?_replicate] at hi
    split at hi
    · rename_i hin
      cases hi
      have hcl := (List.getElem?_eq_some_iff.1 hc).1
      simp only [List.length_map, Array.length_toList] at hcl
      simp only [List.getElem?_map, Option.map_eq_some_iff] at hc
      obtain ⟨y, hy, rfl⟩ := hc
      rw [get _ (idx_lt hin hcl)]
      have hmod : (i * z.cells.size + c) % z.cells.size = c := by rw [Nat.mul_comm, Nat.mul_add_mod]; exact Nat.mod_eq_of_lt hcl
      have hyv : z.cells[(i * z.cells.size + c) % z.cells.size]'(Nat.mod_lt _ hs) = y := by
        have : z.cells[c]? = some y := by simpa using hy
        obtain ⟨h2, h3⟩ := Array.getElem?_eq_some_iff.1 this
        simp only [hmod, h3]
      rw [hyv]
      exact hR y (List.mem_of_getElem? hy)
    · cases hi
  · simp only [Array.size_map, Array.size_range] at hj
    rw [get j hj]
    exact h1 _ (by rw [Array.mem_toList_iff]; exact Array.getElem_mem _)

theorem RowRel.blk {z : Nat} {es : List (List AV)} {arr : Array Value} {w' : World} {σ' : Nat → Option Nat} {s b : Nat} {el : TypeId} (h : RowRel (VR0 S A w') z es arr) (hσ : σ' s = some b) (hb : w'.heap[b]? = some (.cells arr el (0, 0))) :
    BlkRel S A σ' w' s (.arr z es) :=
  ⟨h.each, .inr ⟨b, arr, el, hσ, hb, by rw [h.size]; exact Nat.le_refl _, fun j hj => h.one j (by rw [h.size]; exact hj), h.rel⟩⟩
theorem RowRel.imp {R R' : AV → Value → Prop} {z : Nat} {es : List (List AV)} {arr : Array Value} (h : RowRel R z es arr) (hr : ∀ x v, R x v → R' x v) : RowRel R' z es arr :=
  ⟨h.size, h.each, fun i e c x hi hc => hr _ _ (h.rel i e c x hi hc), h.one⟩

theorem okConst_one {x : Value} (h : okConst x = true) : x.oneCell' = true := by cases x <;> simp_all [okConst, Value.oneCell']

/-- A value, handed on without references. -/
theorem snap1_rel (h : SRel S A0 O w0 A σ w st tm) {A' : Nat → Prop} (hA : ∀ b, A b → A' b) {x y : AV} {v : Value} (hv : VR S A σ w x v) (hs : snap1 st.hp x = some y) (hr : ∀ s ∈ x.refs, ∀ b, σ s = some b → A' b) :
    VR0 S A' w y v ∧ ∀ s ∈ x.refs, isArr st.hp s = true := by
  unfold snap1 at hs
  split at hs
  · rename_i s z i off
    split at hs
    · rename_i z' es hb
      split at hs
      · rename_i hz
        split at hs
        · rename_i cs hcs
          cases hs
          have := VR.frz h hb hv
          simp only [Ab.frz, if_true, hz, hcs] at this
          refine ⟨?_, fun s' hs' => by rw [AV.refs, List.mem_singleton] at hs'; subst hs'; simp [isArr, hb]⟩
          cases this with
          | of0 h0 => exact h0.mono (fun b (hb : A b ∨ σ s = some b) => hb.elim (hA b) (hr s (by simp [AV.refs]) b)) (fun _ _ => rfl)
        · cases hs
      · cases hs
    · cases hs
  · rename_i s z off len
    split at hs
    · rename_i z' es hb
      split at hs
      · rename_i hz
        cases hs
        have := VR.frz h hb hv
        simp only [Ab.frz, if_true, hz.1, hz.2, and_self] at this
        refine ⟨?_, fun s' hs' => by rw [AV.refs, List.mem_singleton] at hs'; subst hs'; simp [isArr, hb]⟩
        cases this with
        | of0 h0 => exact (hz.1 ▸ h0).mono (fun b (hb : A b ∨ σ s = some b) => hb.elim (hA b) (hr s (by simp [AV.refs]) b)) (fun _ _ => rfl)
      · cases hs
    · cases hs
  · cases hs
  · split at hs
    · rename_i he
      cases hs
      have he' : x.refs = [] := by simpa using he
      exact ⟨(hv.to0 he').mono hA (fun _ _ => rfl), by rw [he']; simp⟩
    · cases hs

theorem freezeL_none : ∀ (l : List Nat) {st : ASt} {d : Nat}, st.hp d = none → (st.freezeL l).hp d = none
  | [], _, _, h => h
  | s :: r, st, d, h => by
    refine freezeL_none r ?_
    unfold ASt.freeze
    split
    · simp [h]
    · exact h

theorem cElem_some {P : Program} {t : TypeId} {p : TypeId × Nat} (h : cElem P t = some p) : P.underlying t = some (.slice p.1) ∧ ∃ i, P.info? p.1 = some i ∧ i.size = p.2 ∧ 0 < i.size ∧ i.size ≤ 128 ∧ i.bytes ≤ 128 := by
  unfold cElem at h
  split at h
  · rename_i e hu
    split at h
    · rename_i i hi
      split at h
      · rename_i hc
        cases h
        exact ⟨hu, i, hi, rfl, hc.1, hc.2.1, hc.2.2⟩
      · cases h
    · cases h
  · cases h

theorem op_bslice (h : SRel S A0 O w0 A σ w st tm) {t e : TypeId} {i : TypeInfo} {z : Value} {len : Nat} {ps : Array (Nat × Operand)} {l : List (Nat × AOpd)} {frz : Bool} (ho : o.op = .buildSlice t len ps) (hu : S.P.underlying t = some (.slice e)) (hi : S.P.info? e = some i) (hz : i.zero = some z)
    (hzs : z.cells.size = i.size) (hpos : 0 < i.size) (h128 : i.size ≤ 128) (hok : ∀ x ∈ z.cells.toList, okConst x = true) (hl : optAll (fun (p : Nat × Operand) => if p.1 < len then (cOpd S p.2).map fun x => (p.1, x) else none) ps.toList = some l)
    (hlen : 0 < len ∧ len ≤ 4096) (ha : aop (.bslice frz i.size z.cells.toList len l) d st = some (v, st')) : OpOk S A0 O w0 w tm df o v st' := by
  simp only [aop] at ha
  split at ha
  · rename_i pcs hd hpcs
    split at ha
    · simp only [Option.some.injEq, Prod.mk.injEq] at ha; obtain ⟨rfl, rfl⟩ := ha
      obtain ⟨A1, σ1, h1, m1, m2⟩ := h.freezeL (partRefs st l)
      obtain ⟨a1, a2⟩ := optAll_get hl
      obtain ⟨b1, b2⟩ := optAll_get hpcs
      have zr := zeroRow (R := VR0 S A1 w) (z := z) (n := len) (by omega) (fun x _ => .v x) (fun x hx => okConst_one (hok x hx))
      rw [hzs] at zr
      obtain ⟨arr', f1, f2⟩ := fillRow_ok (R := VR0 S A1 w) (z := i.size) pcs (List.replicate len (z.cells.toList.map AV.v)) (ps.toList.map fun p => (p.1, Act.eval ⟨tm, df⟩ p.2)) _ zr (by rw [List.length_map]; omega)
        (fun j p r hj hr => by
          obtain ⟨q, hq, hq2⟩ := b2 j p hj
          obtain ⟨q0, hq0, hq3⟩ := a2 j q hq
          simp only [List.getElem?_map, hq0, Option.map_some, Option.some.injEq] at hr
          subst hr
          split at hq3
          · rename_i hlt
            simp only [Option.map_eq_some_iff] at hq3
            obtain ⟨x, hx, rfl⟩ := hq3
            split at hq2
            · rename_i cs0 hcs0
              split at hq2
              · rename_i cs hcs
                split at hq2
                · rename_i hcl
                  cases hq2
                  have g := h.ev (df := df) hx
                  obtain ⟨c1, c2, c3, c4⟩ := g.rel.cells hcs0
                  obtain ⟨d1, d2⟩ := optAll_get hcs
                  refine ⟨rfl, by simpa using hlt, hcl, by simp only; omega, fun i a hi => ?_, c3⟩
                  obtain ⟨x0, hx0, hx1⟩ := d2 i a hi
                  have href : ∀ s ∈ x0.refs, s ∈ partRefs st l := fun s hs => by
                    unfold partRefs
                    rw [mem_refsL]
                    exact ⟨st.ev x, List.mem_map.2 ⟨_, List.mem_of_getElem? hq, rfl⟩, (c4 s).1 (mem_refsL.2 ⟨x0, List.mem_of_getElem? hx0, hs⟩)⟩
                  have arrs := (snap1_rel h (A' := fun _ => True) (fun _ _ => trivial) (c2 i x0 hx0) hx1 (fun _ _ _ _ => trivial)).2
                  exact (snap1_rel h m1 (c2 i x0 hx0) hx1 fun s hs b hb => m2 s (href s hs) b (arrs s hs) hb).1
                · cases hq2
              · cases hq2
            · cases hq2
          · cases hq3)
      have hrun := run_buildSlice (P := S.P) w t e len (ps.map fun (i, x) => (i, Act.eval ⟨tm, df⟩ x)) arr' i z hu hi hz (by
          have : len * i.size ≤ 4096 * 128 := Nat.mul_le_mul hlen.2 h128
          omega) (by have := Nat.mul_pos hlen.1 hpos; omega) (by rw [hzs]; simpa using f1)
      have f2' : RowRel (VR0 S A1 (w.alloc (.cells arr' e))) i.size (pcs.foldl (fun es p => es.set p.1 p.2) (List.replicate len (z.cells.toList.map AV.v))) arr' :=
        f2.imp fun x v hx => hx.mono (fun _ h => h) fun b hb => heap_alloc_old w _ b (h1.Alt b hb)
      have hes : (pcs.foldl (fun es p => es.set p.1 p.2) (List.replicate len (z.cells.toList.map AV.v))).length = len := by
        have : ∀ (ps : List (Nat × List AV)) (es : List (List AV)), (ps.foldl (fun es p => es.set p.1 p.2) es).length = es.length := by
          intro ps
          induction ps with
          | nil => intro es; rfl
          | cons p ps ih => intro es; simp only [List.foldl_cons]; rw [ih]; simp
        rw [this]; simp
      refine ⟨.value (.slice (some ⟨w.heap.size, 0, none⟩) len len), _, A1, _, by simp only [execOp, ho, Sem.run_bind, hrun, Result.andThen_ok, Sem.run_pure], h1.newBlk (vs := arr') (el := e) (freezeL_none _ hd) (by simp [Blk.refs]) (f2'.blk (upd_same _ _ _) (heap_alloc_new w _)), .inl ⟨_, rfl, ?_, fun s hs => ?_⟩⟩
      · refine .lsl (cs := arr') (el := e) (upd_same _ _ _) (Nat.le_refl _) (fun _ => by simp) (heap_alloc_new w _) (by rw [f2'.size, hes]; simp) (by unfold maxLen; omega)
      · rw [AV.refs, List.mem_singleton] at hs
        subst hs
        simp [ASt.setH, upd]
    · cases ha
  · cases ha

theorem op_mksl (h : SRel S A0 O w0 A σ w st tm) {t e : TypeId} {i : TypeInfo} {z : Value} {n c : Operand} {n' c' : AOpd} (ho : o.op = .makeSlice t n c) (hu : S.P.underlying t = some (.slice e)) (hi : S.P.info? e = some i) (hz : i.zero = some z)
    (hzs : z.cells.size = i.size) (hpos : 0 < i.size) (h128 : i.bytes ≤ 128) (hok : ∀ x ∈ z.cells.toList, okConst x = true) (h1 : cOpd S n = some n') (h2 : cOpd S c = some c')
    (ha : aop (.mksl i.size z.cells.toList n' c') d st = some (v, st')) : OpOk S A0 O w0 w tm df o v st' := by
  have g1 := h.ev (df := df) h1
  have g2 := h.ev (df := df) h2
  simp only [aop] at ha
  split at ha
  · rename_i m k hd he1 he2
    split at ha
    · rename_i hc
      obtain ⟨c1, c2, c3⟩ := hc
      rw [he1] at g1
      rw [he2] at g2
      have e1 := g1.rel.v_inv
      have e2 := g2.rel.v_inv
      simp only [Option.some.injEq, Prod.mk.injEq] at ha; obtain ⟨rfl, rfl⟩ := ha
      have hb : (i.bytes : Int) * k ≤ 281474976710656 := by
        have h3 : (i.bytes : Int) ≤ 128 := by omega
        have h4 : k ≤ 1099511627776 := by simpa [roomA] using c3
        have h5 : (i.bytes : Int) * k ≤ 128 * 1099511627776 := Int.mul_le_mul h3 h4 (by omega) (by omega)
        omega
      have hk : k ≤ 1099511627776 := by simpa [roomA] using c3
      have hr := run_make (P := S.P) w t e i z hu hi hz .i64 .i64 m k c1 c2 hb (by omega)
      have hk0 : (k.toNat : Int) = k := Int.toNat_of_nonneg (by omega)
      have zr : ∀ w', RowRel (VR0 S A w') i.size (List.replicate k.toNat (z.cells.toList.map AV.v)) (madeCells z.cells (k.toNat * i.size)) := by
        intro w'
        have := zeroRow (R := VR0 S A w') (z := z) (n := k.toNat) (by omega) (fun x _ => .v x) (fun x hx => okConst_one (hok x hx))
        rw [hzs] at this
        unfold madeCells
        rw [hzs]
        exact this
      have zr' := zr (w.alloc (.cells (madeCells z.cells (k.toNat * i.size)) e))
      have hsz : m.toNat * i.size ≤ (madeCells z.cells (k.toNat * i.size)).size := by rw [size_madeCells]; exact Nat.mul_le_mul_right _ (by omega)
      have hblk : BlkRel S A (upd σ d (some w.heap.size)) (w.alloc (.cells (madeCells z.cells (k.toNat * i.size)) e)) d (.arr i.size (List.replicate m.toNat (z.cells.toList.map AV.v))) := by
        refine ⟨fun e he => ?_, .inr ⟨w.heap.size, _, e, upd_same _ _ _, heap_alloc_new w _, by simpa using hsz, fun j hj => zr'.one j (by simp at hj; omega), fun a b cc x ha hb => zr'.rel a b cc x ?_ hb⟩⟩
        · rw [List.mem_replicate] at he; rw [he.2]; simp [hzs]
        · rw [List.getElem?_replicate] at ha ⊢
          split at ha
          · rw [if_pos (by omega)]; exact ha
          · cases ha
      refine ⟨.value (.slice (some ⟨w.heap.size, 0, none⟩) m.toNat k.toNat), _, A, _, by simp only [execOp, ho, e1, e2, Sem.run_bind, hr, Result.andThen_ok, Sem.run_pure], h.newBlk (vs := madeCells z.cells (k.toNat * i.size)) (el := e) hd (by simp [Blk.refs]) hblk, .inl ⟨_, rfl, ?_, fun s hs => ?_⟩⟩
      · exact .lsl (upd_same _ _ _) (by omega) (fun _ => by simp) (heap_alloc_new w _) (by rw [size_madeCells]; simp) (by unfold maxLen; omega)
      · rw [AV.refs, List.mem_singleton] at hs
        subst hs
        simp [ASt.setH, upd]
    · cases ha
  · cases ha

theorem op_store (h : SRel S A0 O w0 A σ w st tm) {t : TypeId} {a x : Operand} {a' x' : AOpd} {z : Nat} (ho : o.op = .store t a x) (hs : cSize S.P t = some z) (h1 : cOpd S a = some a') (h2 : cOpd S x = some x')
    (ha : aop (.store z a' x') d st = some (v, st')) : OpOk S A0 O w0 w tm df o v st' := by
  have g1 := h.ev (df := df) h1
  have g2 := h.ev (df := df) h2
  obtain ⟨i, hi, rfl⟩ : ∃ i, S.P.info? t = some i ∧ i.size = z := by simpa [cSize] using hs
  simp only [aop] at ha
  split at ha
  · rename_i new hnew
    obtain ⟨c1, c2, c3, c4⟩ := g2.rel.cells hnew
    split at ha
    · rename_i hnl
      have key : ∀ b off (old : Array Value) el, Act.eval ⟨tm, df⟩ a = .pointer (some ⟨b, off, none⟩) → w.heap[b]? = some (.cells old el (0, 0)) → off + i.size ≤ old.size →
          ∃ arr : Array Value, (execOp (Act.eval ⟨tm, df⟩) o).run S.P w = .ok .skip (w.setRow b arr) ∧ arr.size = old.size ∧
            ∀ j, arr.getD j undef = if off ≤ j ∧ j < off + i.size then (Act.eval ⟨tm, df⟩ x).cells.getD (j - off) undef else old.getD j undef := by
        intro b off old el e hb hle
        have hcl : (Act.eval ⟨tm, df⟩ x).cells.toList.length = i.size := by simp; omega
        have hr := run_storeCells_at S.P b off el (Act.eval ⟨tm, df⟩ x).cells.toList 0 old w hb (by omega) c3
        simp only [Nat.add_zero] at hr
        refine ⟨(old.toList.take off ++ (Act.eval ⟨tm, df⟩ x).cells.toList ++ old.toList.drop (off + (Act.eval ⟨tm, df⟩ x).cells.toList.length)).toArray, ?_, ?_, fun j => ?_⟩
        · have hsz : (Act.eval ⟨tm, df⟩ x).cells.size = i.size := by omega
          simp only [execOp, ho, Instr.storeAt, e, Instr.sureAddr, storeVar, Go.sizeOf, typeInfo, Sem.run_bind, Sem.run_pure, Result.andThen_ok, run_program, hi, hsz, ne_eq, not_true_eq_false, if_false, hr]
        · simp; omega
        · simp only [Array.getD_eq_getD_getElem?, List.getElem?_toArray, List.append_assoc]
          by_cases j1 : j < off
          · rw [if_neg (by omega), List.getElem?_append_left (by simp; omega), List.getElem?_take_of_lt j1]
            simp
          · by_cases j2 : j < off + i.size
            · rw [if_pos (by omega), List.getElem?_append_right (by simp; omega), List.getElem?_append_left (by simp; omega)]
              simp
              congr 2
              omega
            · rw [if_neg (by omega), List.getElem?_append_right (by simp; omega), List.getElem?_append_right (by simp; omega), List.getElem?_drop]
              simp
              congr 2
              omega
      split at ha
      · rename_i s off he
        rw [he] at g1
        split at ha
        · rename_i cs hb
          split at ha
          · rename_i hle
            simp only [Option.some.injEq, Prod.mk.injEq] at ha; obtain ⟨rfl, rfl⟩ := ha
            obtain ⟨b, e, hσ⟩ := g1.rel.pv_inv
            obtain ⟨b', old, el, k1, k2, k3, k4⟩ := h.hp _ _ hb
            obtain rfl : b' = b := Option.some.inj (k1.symm.trans hσ)
            obtain ⟨arr, r1, r2, r3⟩ := key b' off old el e k2 (by omega)
            have hks : ∀ s', KeepS σ σ w (w.setRow b' arr) s' := fun s' => setRow_keep w b' old arr el k2 r2 s'
            have hA : ∀ c, A c → (w.setRow b' arr).heap[c]? = w.heap[c]? := fun c hc => setRow_other w b' c arr (fun e => (h.dom s b' hσ).2.2.1 (e ▸ hc))
            refine ⟨_, _, A, σ, r1, h.setBlk hσ k2 r2 (fun s' hs' => ?_) ⟨b', arr, el, hσ, setRow_heap w b' old arr el _ k2, by rw [overwrite_length (by omega), r2]; exact k3, fun j y hj => ?_⟩, .inr ⟨rfl, rfl⟩⟩
            · rw [Blk.refs, mem_refsL] at hs'
              obtain ⟨y, hy, hys⟩ := hs'
              obtain ⟨j, hj⟩ := List.mem_iff_getElem?.1 hy
              rw [overwrite_get (by omega)] at hj
              split at hj
              · exact g2.dang s' ((c4 s').1 (mem_refsL.2 ⟨y, List.mem_of_getElem? hj, hys⟩))
              · exact h.dangV s cs hb s' (mem_refsL.2 ⟨y, List.mem_of_getElem? hj, hys⟩)
            · rw [overwrite_get (by omega)] at hj
              rw [r3]
              split at hj
              · rename_i hc
                rw [if_pos (by omega)]
                exact (c2 _ _ hj).mono (fun _ h => h) hA fun s' _ => hks s'
              · rename_i hc
                rw [if_neg (by omega)]
                exact (k4 _ _ hj).mono (fun _ h => h) hA fun s' _ => hks s'
          · cases ha
        · cases ha
      · rename_i s z0 k off he
        rw [he] at g1
        split at ha
        · rename_i z' es hb
          split at ha
          · rename_i cs hcs
            split at ha
            · rename_i hle
              obtain ⟨rfl, hle, hnr⟩ := hle
              simp only [Option.some.injEq, Prod.mk.injEq] at ha; obtain ⟨rfl, rfl⟩ := ha
              obtain ⟨b, e, hσ⟩ := g1.rel.pe_inv
              obtain ⟨k0, ⟨k1, rfl⟩ | ⟨b', old, el, k1, k2, k3, k5, k4⟩⟩ := h.hp _ _ hb
              · simp at hcs
              · obtain rfl : b' = b := Option.some.inj (k1.symm.trans hσ)
                have hcz : cs.length = z0 := k0 _ (List.mem_of_getElem? hcs)
                have hk : k < es.length := (List.getElem?_eq_some_iff.1 hcs).1
                have hrow : (k + 1) * z0 ≤ es.length * z0 := Nat.mul_le_mul_right _ hk
                rw [Nat.add_mul] at hrow
                obtain ⟨arr, r1, r2, r3⟩ := key b' (k * z0 + off) old el e k2 (by omega)
                have hA : ∀ c, A c → (w.setRow b' arr).heap[c]? = w.heap[c]? := fun c hc => setRow_other w b' c arr (fun e => (h.dom s b' hσ).2.2.1 (e ▸ hc))
                have hnr' : ∀ (j : Nat) (y : AV), new[j]? = some y → y.refs = [] := by
                  intro j y hj
                  exact List.eq_nil_iff_forall_not_mem.2 fun s' hs' => by have := mem_refsL.2 ⟨y, List.mem_of_getElem? hj, hs'⟩; rw [hnr] at this; cases this
                refine ⟨_, _, A, σ, r1, h.setBlk hσ k2 r2 (by simp [Blk.refs]) ⟨fun e' he' => ?_, .inr ⟨b', arr, el, hσ, setRow_heap w b' old arr el _ k2, by rw [r2]; simpa using k3, fun j hj => ?_, fun ii ee c y hi' hc => ?_⟩⟩, .inr ⟨rfl, rfl⟩⟩
                · rcases List.mem_or_eq_of_mem_set he' with he' | rfl
                  · exact k0 _ he'
                  · rw [overwrite_length (by omega)]; exact hcz
                · rw [r3]
                  by_cases hc : k * z0 + off ≤ j ∧ j < k * z0 + off + i.size
                  · rw [if_pos hc]
                    apply c3
                    have : j - (k * z0 + off) < (Act.eval ⟨tm, df⟩ x).cells.size := by omega
                    rw [Array.mem_toList_iff]
                    simp [Array.getD, this]
                  · rw [if_neg hc]
                    exact k5 j (by simpa using hj)
                · rw [r3]
                  by_cases hki : k = ii
                  · subst hki
                    rw [List.getElem?_set_self hk] at hi'
                    cases hi'
                    rw [overwrite_get (by omega)] at hc
                    split at hc
                    · rename_i hcc
                      rw [if_pos (by omega), show k * z0 + c - (k * z0 + off) = c - off by omega]
                      exact ((c2 _ _ hc).to0 (hnr' _ _ hc)).mono (fun _ h => h) hA
                    · rename_i hcc
                      rw [if_neg (by omega)]
                      exact (k4 _ _ _ _ hcs hc).mono (fun _ h => h) hA
                  · have hne := hki
                    rw [List.getElem?_set_ne hki] at hi'
                    have hez := k0 _ (List.mem_of_getElem? hi')
                    have hcl := (List.getElem?_eq_some_iff.1 hc).1
                    rw [if_neg (fun hh => hne (idx_split (i := ii) (j := k) (c := c) (z := z0) (by omega) (by omega) (by omega)).symm)]
                    exact (k4 _ _ _ _ hi' hc).mono (fun _ h => h) hA
            · cases ha
          · cases ha
        · cases ha
      · cases ha
    · cases ha
  · cases ha
end
end Ab
