/-
  What turns memory: a new block; a row or a variable that is written; a row that is written no more.
-/
import Derived.Test.YtkedlclobjhkfaaDoorAbI
namespace Ab
open Go Go.RowKit

section
variable {S : Seat} {A0 O : Nat → Prop} {w0 : World} {A : Nat → Prop} {σ : Nat → Option Nat} {w : World} {st st' : ASt} {tm : Array Value} {df : List Deferred} {o : Oper} {v : AV} {d : Nat}

theorem BlkRel.mono {A' : Nat → Prop} {σ' : Nat → Option Nat} {w' : World} {s : Nat} {blk : Blk} (h : BlkRel S A σ w s blk) (hA : ∀ b, A b → A' b) (hw : ∀ b, A b → w'.heap[b]? = w.heap[b]?)
    (hs : σ' s = σ s) (hb : ∀ b, σ s = some b → w'.heap[b]? = w.heap[b]?) (hr : ∀ s' ∈ blk.refs, KeepS σ σ' w w' s') : BlkRel S A' σ' w' s blk := by
  cases blk with
  | var cs =>
    obtain ⟨b, vs, el, h1, h2, h3, h4⟩ := h
    exact ⟨b, vs, el, hs.trans h1, (hb _ h1).trans h2, h3, fun i x hx => (h4 i x hx).mono hA hw fun s' hs' => hr s' (by rw [Blk.refs]; exact mem_refsL.2 ⟨x, List.mem_of_getElem? hx, hs'⟩)⟩
  | arr z es =>
    obtain ⟨h0, ⟨h1, h2⟩ | ⟨b, vs, el, h1, h2, h3, h5, h4⟩⟩ := h
    · exact ⟨h0, .inl ⟨hs.trans h1, h2⟩⟩
    · exact ⟨h0, .inr ⟨b, vs, el, hs.trans h1, (hb _ h1).trans h2, h3, h5, fun i e c x hi hc => (h4 i e c x hi hc).mono hA hw⟩⟩

theorem SRel.keepS_refl (s : Nat) : KeepS σ σ w w s := ⟨rfl, fun _ cs _ _ h => ⟨cs, h, rfl⟩⟩

theorem KeepO.alloc (w : World) (O : Nat → Prop) (ob : Obj) : KeepO O w (w.alloc ob) := ⟨rfl, rfl, rfl, by simp, fun k hk _ => heap_alloc_old w ob k hk⟩
theorem KeepO.drew (w : World) (O : Nat → Prop) : KeepO O w w.drew := ⟨rfl, rfl, rfl, Nat.le_refl _, fun _ _ _ => rfl⟩

theorem VR0.heap {w' : World} (hw : w'.heap = w.heap) {x : AV} {v : Value} (h : VR0 S A w x v) : VR0 S A w' x v := h.mono (fun _ h => h) fun _ _ => by rw [hw]
theorem VR.heap {w' : World} (hw : w'.heap = w.heap) {x : AV} {v : Value} (h : VR S A σ w x v) : VR S A σ w' x v :=
  h.mono (fun _ h => h) (fun _ _ => by rw [hw]) fun s _ => ⟨rfl, fun b cs el _ hb => ⟨cs, by rw [hw]; exact hb, rfl⟩⟩

theorem SRel.drew (h : SRel S A0 O w0 A σ w st tm) : SRel S A0 O w0 A σ w.drew st tm :=
  ⟨fun k => VR.heap (w := w) (w' := w.drew) rfl (h.fr k), fun s blk hb => (h.hp s blk hb).mono (fun _ h => h) (fun _ _ => rfl) rfl (fun _ _ => rfl) fun _ _ => ⟨rfl, fun _ cs _ _ hb => ⟨cs, hb, rfl⟩⟩,
    h.dang, h.dangV, h.dom, h.inj, h.Alt, h.Asub, h.keep.trans (KeepO.drew _ _), h.Olt⟩

/-- A new block for a new name. -/
theorem SRel.newBlk (h : SRel S A0 O w0 A σ w st tm) {d : Nat} (hd : st.hp d = none) {vs : Array Value} {el : TypeId} {blk : Blk} (hk : ∀ s ∈ blk.refs, st.hp s ≠ none)
    (hb : BlkRel S A (upd σ d (some w.heap.size)) (w.alloc (.cells vs el)) d blk) :
    SRel S A0 O w0 A (upd σ d (some w.heap.size)) (w.alloc (.cells vs el)) (st.setH d (some blk)) tm := by
  have hσd : σ d = none := by
    cases hq : σ d with
    | none => rfl
    | some b => exact absurd hd (h.dom d b hq).1
  have hA : ∀ b, A b → (w.alloc (.cells vs el)).heap[b]? = w.heap[b]? := fun b hb => heap_alloc_old w _ b (h.Alt b hb)
  have hks : ∀ s, st.hp s ≠ none → KeepS σ (upd σ d (some w.heap.size)) w (w.alloc (.cells vs el)) s := by
    intro s hs
    have hne : s ≠ d := fun e => hs (e ▸ hd)
    exact ⟨upd_ne _ _ _ hne, fun b cs el' hb hc => ⟨cs, by rw [heap_alloc_old w _ b (h.dom s b hb).2.1]; exact hc, rfl⟩⟩
  refine ⟨fun k => (h.fr k).mono (fun _ h => h) hA fun s hs => hks s (h.dang k s hs), fun s b hs => ?_, fun k s hs => ?_, fun s cs hs s' hs' => ?_, fun s b hs => ?_, fun s s' b h1 h2 => ?_,
    fun b hb => by have := h.Alt b hb; simp; omega, h.Asub, h.keep.trans (KeepO.alloc _ _ _), h.Olt⟩
  · simp only [ASt.setH, upd] at hs
    split at hs
    · rename_i e; subst e; cases hs; exact hb
    · rename_i hne
      refine (h.hp s b hs).mono (fun _ h => h) hA (upd_ne _ _ _ hne) (fun b' hb' => heap_alloc_old w _ b' (h.dom s b' hb').2.1) fun s' hs' => hks s' ?_
      cases b with
      | var cs => exact h.dangV s cs hs s' (by rw [Blk.refs] at hs'; exact hs')
      | arr z es => simp [Blk.refs] at hs'
  · simp only [ASt.setH, upd]
    split
    · simp
    · exact h.dang k s hs
  · simp only [ASt.setH, upd] at hs ⊢
    split
    · simp
    · split at hs
      · cases hs; exact hk s' (by rw [Blk.refs]; exact hs')
      · exact h.dangV s cs hs s' hs'
  · simp only [upd] at hs
    split at hs
    · rename_i e; subst e
      cases hs
      refine ⟨by simp [ASt.setH, upd], by simp, fun ha => ?_, .inl h.keep.size⟩
      have := h.Alt _ ha
      omega
    · rename_i hne
      obtain ⟨k1, k2, k3, k4⟩ := h.dom s b hs
      exact ⟨by simp [ASt.setH, upd, hne]; exact k1, by simp; omega, k3, k4⟩
  · simp only [upd] at h1 h2
    split at h1
    · rename_i e1; subst e1
      cases h1
      split at h2
      · rename_i e2; exact e2.symm
      · have := (h.dom s' _ h2).2.1; omega
    · split at h2
      · rename_i e2; subst e2
        cases h2
        have := (h.dom s _ h1).2.1; omega
      · exact h.inj s s' b h1 h2

theorem setRow_keep (w : World) (g : Nat) (old new : Array Value) (el : TypeId) (hg : w.heap[g]? = some (.cells old el (0, 0))) (hs : new.size = old.size) (s : Nat) : KeepS σ σ w (w.setRow g new) s := by
  refine ⟨rfl, fun b cs el' _ hc => ?_⟩
  by_cases hb : b = g
  · subst hb
    rw [hg] at hc
    cases hc
    exact ⟨new, setRow_heap w b old new el _ hg, hs⟩
  · exact ⟨cs, by rw [setRow_other w g b new hb]; exact hc, rfl⟩

/-- A block of the call's own is written: it keeps its size. -/
theorem SRel.setBlk (h : SRel S A0 O w0 A σ w st tm) {s b : Nat} (hσ : σ s = some b) {old new : Array Value} {el : TypeId} (hg : w.heap[b]? = some (.cells old el (0, 0))) (hs : new.size = old.size) {blk : Blk}
    (hk : ∀ s' ∈ blk.refs, st.hp s' ≠ none) (hb : BlkRel S A σ (w.setRow b new) s blk) : SRel S A0 O w0 A σ (w.setRow b new) (st.setH s (some blk)) tm := by
  obtain ⟨d1, d2, d3, d4⟩ := h.dom s b hσ
  have hA : ∀ c, A c → (w.setRow b new).heap[c]? = w.heap[c]? := fun c hc => setRow_other w b c new (fun e => d3 (e ▸ hc))
  refine ⟨fun k => (h.fr k).mono (fun _ h => h) hA fun s' _ => setRow_keep w b old new el hg hs s', fun s' b' hs' => ?_, fun k s' hs' => ?_, fun s' cs hs' s'' hs'' => ?_, fun s' b' hs' => ?_, h.inj,
    fun c hc => by rw [size_setRow]; exact h.Alt c hc, h.Asub, ⟨h.keep.os, h.keep.tape, h.keep.output, by rw [size_setRow]; exact h.keep.size, fun k hk hO => ?_⟩, h.Olt⟩
  · simp only [ASt.setH, upd] at hs'
    split at hs'
    · rename_i e; subst e; cases hs'; exact hb
    · rename_i hne
      refine (h.hp s' b' hs').mono (fun _ h => h) hA rfl (fun c hc => setRow_other w b c new fun e => hne (h.inj s' s b (e ▸ hc) hσ)) fun s'' _ => setRow_keep w b old new el hg hs s''
  · simp only [ASt.setH, upd]
    split
    · simp
    · exact h.dang k s' hs'
  · simp only [ASt.setH, upd] at hs' ⊢
    split
    · simp
    · split at hs'
      · cases hs'; exact hk s'' (by rw [Blk.refs]; exact hs'')
      · exact h.dangV s' cs hs' s'' hs''
  · obtain ⟨k1, k2, k3, k4⟩ := h.dom s' b' hs'
    refine ⟨?_, by rw [size_setRow]; exact k2, k3, k4⟩
    simp only [ASt.setH, upd]
    split
    · simp
    · exact k1
  · rw [setRow_other w b k new (fun e => by subst e; exact d4.elim (fun d4 => by omega) hO)]
    exact h.keep.block k hk hO

/-- References to a row are forgotten; the row itself stands. -/
theorem SRel.scrub (h : SRel S A0 O w0 A σ w st tm) (s : Nat) : SRel S A0 O w0 A σ w (st.scrub s) tm := by
  have hx : ∀ x v, VR S A σ w x v → VR S A σ w (Ab.scrub s x) v := by
    intro x v hv
    unfold Ab.scrub
    split
    · exact .of0 (.bot v)
    · exact hv
  have hr : ∀ x s', s' ∈ (Ab.scrub s x).refs → s' ∈ x.refs := by
    intro x s' hs
    unfold Ab.scrub at hs
    split at hs
    · simp [AV.refs] at hs
    · exact hs
  have hn : ∀ k, (st.scrub s).hp k ≠ none ↔ st.hp k ≠ none := by intro k; simp [ASt.scrub]
  refine ⟨fun k => hx _ _ (h.fr k), fun s' blk hb => ?_, fun k s' hs' => (hn s').2 (h.dang k s' (hr _ _ hs')), fun s' cs hs' s'' hs'' => (hn s'').2 ?_, fun s' b hs' => ?_, h.inj, h.Alt, h.Asub, h.keep, h.Olt⟩
  · simp only [ASt.scrub, Option.map_eq_some_iff] at hb
    obtain ⟨b0, hb0, rfl⟩ := hb
    have := h.hp s' b0 hb0
    cases b0 with
    | var cs =>
      obtain ⟨b, vs, el, h1, h2, h3, h4⟩ := this
      refine ⟨b, vs, el, h1, h2, by simpa using h3, fun i x hi => ?_⟩
      simp only [List.getElem?_map, Option.map_eq_some_iff] at hi
      obtain ⟨y, hy, rfl⟩ := hi
      exact hx _ _ (h4 i y hy)
    | arr z es => exact this
  · simp only [ASt.scrub, Option.map_eq_some_iff] at hs'
    obtain ⟨b0, hb0, he⟩ := hs'
    cases b0 with
    | var cs0 =>
      simp only [scrubB, Blk.var.injEq] at he
      subst he
      rw [mem_refsL] at hs''
      obtain ⟨x, hx', hxs⟩ := hs''
      rw [List.mem_map] at hx'
      obtain ⟨y, hy, rfl⟩ := hx'
      exact h.dangV s' cs0 hb0 s'' (mem_refsL.2 ⟨y, hy, hr _ _ hxs⟩)
    | arr z es => simp [scrubB] at he
  · obtain ⟨k1, k2⟩ := h.dom s' b hs'
    exact ⟨(hn s').2 k1, k2⟩
theorem scrub_refs (s : Nat) (x : AV) : s ∉ (Ab.scrub s x).refs := by
  unfold Ab.scrub
  split
  · simp [AV.refs]
  · rename_i h
    simpa using h

/-- A value as it reads when row s is written no more. -/
theorem VR.frz (h : SRel S A0 O w0 A σ w st tm) {s z0 : Nat} {es : List (List AV)} (hb : st.hp s = some (.arr z0 es)) {x : AV} {v : Value} (hv : VR S A σ w x v) :
    VR S (fun b => A b ∨ σ s = some b) (fun k => if k = s then none else σ k) w (Ab.frz s z0 es x) v := by
  have gen : x.refs.contains s = false → VR S (fun b => A b ∨ σ s = some b) (fun k => if k = s then none else σ k) w x v := by
    intro hc
    refine hv.mono (fun _ h => .inl h) (fun _ _ => rfl) fun s' hs' => ?_
    have hne : s' ≠ s := fun e => by subst e; simp at hc; exact hc hs'
    exact ⟨by simp [hne], fun b cs el _ hb => ⟨cs, hb, rfl⟩⟩
  obtain ⟨k0, hbr⟩ := h.hp s _ hb
  unfold Ab.frz
  split
  · rename_i s' z off len
    split
    · rename_i e
      subst e
      split
      · rename_i hc
        obtain ⟨rfl, hle⟩ := hc
        have hlen : ((es.drop off).take len).length = len := by simp; omega
        rcases hv.lsl_inv with ⟨rfl, rfl, k1, rfl⟩ | ⟨b, o', cap, cs, el, rfl, k1, k2, k3, k4, k5, k6⟩
        · exact .of0 (by simpa using VR0.slnil _)
        · rcases hbr with ⟨j1, _⟩ | ⟨b', vs, el', j1, j2, j3, j5, j4⟩
          · rw [j1] at k1; cases k1
          · obtain rfl : b' = b := Option.some.inj (j1.symm.trans k1)
            refine .of0 ?_
            by_cases h0 : len = 0
            · subst h0
              simp only [List.take_zero]
              exact VR0.sl (es := []) (o := o') (u := fun _ => undef) (.inr k1) (Nat.zero_le _) (by simp) (by simp) (by simp) (by simp)
            · have ho := k3 (.inl (by omega))
              subst ho
              have hsz : len * z + off * z ≤ es.length * z := by rw [← Nat.add_mul]; exact Nat.mul_le_mul_right _ (by omega)
              have := VR0.sl (S := S) (A := fun b => A b ∨ σ s' = some b) (w := w) (z := z) (es := (es.drop off).take len) (b := b') (o := off * z) (cap := cap) (u := fun j => vs.getD (off * z + j) undef) (.inr k1) (by omega)
                (fun e he => k0 e (List.mem_of_mem_drop (List.mem_of_mem_take he)))
                (fun j hj => by
                  rw [hlen] at hj
                  have : off * z + j < vs.size := by omega
                  simp [World.cell?, j2, this, Array.getD])
                (fun j hj => by rw [hlen] at hj; exact j5 _ (by omega))
                (fun i e c a hi hc => by
                  have hlt : i < len := by have := (List.getElem?_eq_some_iff.1 hi).1; omega
                  rw [List.getElem?_take_of_lt hlt, List.getElem?_drop] at hi
                  have := (j4 _ _ _ _ hi hc).mono (A' := fun b => A b ∨ σ s' = some b) (fun _ h => .inl h) (fun _ _ => rfl)
                  rwa [Nat.add_mul, Nat.add_assoc] at this)
              rwa [hlen] at this
      · exact .of0 (.bot _)
    · rename_i hne
      exact gen (by simp [AV.refs, Ne.symm hne])
  · rename_i s' z i off
    split
    · rename_i e
      subst e
      split
      · rename_i hz
        subst hz
        split
        · rename_i cs hcs
          obtain ⟨b, rfl, k1⟩ := hv.pe_inv
          rcases hbr with ⟨j1, _⟩ | ⟨b', vs, el', j1, j2, j3, j5, j4⟩
          · rw [j1] at k1; cases k1
          · obtain rfl : b' = b := Option.some.inj (j1.symm.trans k1)
            have hcl : cs.length = z := k0 _ (List.mem_of_getElem? hcs)
            have hi : i < es.length := (List.getElem?_eq_some_iff.1 hcs).1
            have hsz : (i + 1) * z ≤ es.length * z := Nat.mul_le_mul_right _ hi
            rw [Nat.add_mul] at hsz
            exact .of0 (.ep (.inr k1) (u := fun j => vs.getD (i * z + j) undef) (fun j hj => by
              have : i * z + j < vs.size := by omega
              simp [World.cell?, j2, this, Array.getD]) fun j x hj => (j4 _ _ _ _ hcs hj).mono (fun _ h => .inl h) (fun _ _ => rfl))
        · exact .of0 (.bot _)
      · exact .of0 (.bot _)
    · rename_i hne
      exact gen (by simp [AV.refs, Ne.symm hne])
  · split
    · exact .of0 (.bot _)
    · rename_i hc
      exact gen (by simpa using hc)

theorem frz_refs (s z0 : Nat) (es : List (List AV)) (x : AV) (s' : Nat) (h : s' ∈ (Ab.frz s z0 es x).refs) : s' ∈ x.refs ∧ s' ≠ s := by
  unfold Ab.frz at h
  split at h
  · split at h
    · split at h <;> simp [AV.refs] at h
    · rename_i hne; simp [AV.refs] at h; subst h; exact ⟨by simp [AV.refs], hne⟩
  · split at h
    · split at h
      · split at h <;> simp [AV.refs] at h
      · simp [AV.refs] at h
    · rename_i hne; simp [AV.refs] at h; subst h; exact ⟨by simp [AV.refs], hne⟩
  · split at h
    · simp [AV.refs] at h
    · rename_i hc
      exact ⟨h, fun e => by subst e; simp at hc; exact hc h⟩

/-- A row is written no more. -/
theorem SRel.freeze (h : SRel S A0 O w0 A σ w st tm) (s : Nat) : ∃ A' σ', SRel S A0 O w0 A' σ' w (st.freeze s) tm ∧ (∀ b, A b → A' b) ∧ (∀ b, isArr st.hp s = true → σ s = some b → A' b) ∧
    (∀ s', s' ≠ s → σ' s' = σ s' ∧ isArr (st.freeze s).hp s' = isArr st.hp s') := by
  unfold ASt.freeze
  split
  · rename_i z es hb
    refine ⟨fun b => A b ∨ σ s = some b, fun k => if k = s then none else σ k, ⟨fun k => VR.frz h hb (h.fr k), fun s' blk hs' => ?_, fun k s' hs' => ?_, fun s' cs hs' s'' hs'' => ?_, fun s' b hs' => ?_, fun s1 s2 b h1 h2 => ?_,
      fun b hb' => ?_, fun b hb' => ?_, h.keep, h.Olt⟩, fun b hb => .inl hb, fun b _ hs => .inr hs, fun s' hne => ⟨by simp [hne], ?_⟩⟩
    · dsimp only at hs'
      split at hs'
      · cases hs'
      · rename_i hne
        simp only [Option.map_eq_some_iff] at hs'
        obtain ⟨b0, hb0, rfl⟩ := hs'
        have hr := h.hp s' b0 hb0
        cases b0 with
        | var cs =>
          obtain ⟨b, vs, el, h1, h2, h3, h4⟩ := hr
          refine ⟨b, vs, el, by simp [hne, h1], h2, by simpa using h3, fun i x hi => ?_⟩
          simp only [List.getElem?_map, Option.map_eq_some_iff] at hi
          obtain ⟨y, hy, rfl⟩ := hi
          exact VR.frz h hb (h4 i y hy)
        | arr z' es' =>
          exact hr.mono (fun _ h => .inl h) (fun _ _ => rfl) (by simp [hne]) (fun _ _ => rfl) (by simp [Blk.refs])
    · obtain ⟨k1, k2⟩ := frz_refs _ _ _ _ _ hs'
      have := h.dang k s' k1
      simp [k2, this]
    · dsimp only at hs'
      split at hs'
      · cases hs'
      · simp only [Option.map_eq_some_iff] at hs'
        obtain ⟨b0, hb0, he⟩ := hs'
        cases b0 with
        | var cs0 =>
          simp only [frzB, Blk.var.injEq] at he
          subst he
          rw [mem_refsL] at hs''
          obtain ⟨x, hx', hxs⟩ := hs''
          rw [List.mem_map] at hx'
          obtain ⟨y, hy, rfl⟩ := hx'
          obtain ⟨k1, k2⟩ := frz_refs _ _ _ _ _ hxs
          have := h.dangV s' cs0 hb0 s'' (mem_refsL.2 ⟨y, hy, k1⟩)
          simp [k2, this]
        | arr z' es' => simp [frzB] at he
    · split at hs'
      · cases hs'
      · rename_i hne
        obtain ⟨k1, k2, k3, k4⟩ := h.dom s' b hs'
        exact ⟨by simp [hne, k1], k2, fun hh => hh.elim k3 fun e => hne (h.inj s' s b hs' e), k4⟩
    · split at h1
      · cases h1
      · split at h2
        · cases h2
        · exact h.inj s1 s2 b h1 h2
    · rcases hb' with hb' | hb'
      · exact h.Alt b hb'
      · exact (h.dom s b hb').2.1
    · rcases hb' with hb' | hb'
      · exact h.Asub b hb'
      · exact .inr (h.dom s b hb').2.2.2
    · simp only [isArr, if_neg hne]
      cases hq : st.hp s' with
      | none => simp
      | some b0 => cases b0 <;> simp [frzB]
  · rename_i hn
    refine ⟨A, σ, h, fun _ h => h, fun b hb _ => ?_, fun s' _ => ⟨rfl, rfl⟩⟩
    unfold isArr at hb
    split at hb
    · rename_i z es he; exact absurd he (hn z es)
    · cases hb

theorem SRel.freezeL : ∀ (l : List Nat) {A : Nat → Prop} {σ : Nat → Option Nat} {st : ASt}, SRel S A0 O w0 A σ w st tm → ∃ A' σ', SRel S A0 O w0 A' σ' w (st.freezeL l) tm ∧ (∀ b, A b → A' b) ∧
    (∀ s ∈ l, ∀ b, isArr st.hp s = true → σ s = some b → A' b)
  | [], A, σ, st, h => ⟨A, σ, h, fun _ h => h, by simp⟩
  | s :: r, A, σ, st, h => by
    obtain ⟨A1, σ1, h1, m1, k1, k2⟩ := h.freeze s
    obtain ⟨A2, σ2, h2, m2, k3⟩ := SRel.freezeL r h1
    refine ⟨A2, σ2, h2, fun b hb => m2 b (m1 b hb), fun s' hs' b ha hs => ?_⟩
    by_cases e : s' = s
    · subst e; exact m2 b (k1 b ha hs)
    · obtain ⟨e1, e2⟩ := k2 s' e
      rcases List.mem_cons.1 hs' with hs' | hs'
      · exact absurd hs' e
      · exact k3 s' hs' b (e2.trans ha) (e1.trans hs)

theorem SRel.Alt_heap (h : SRel S A0 O w0 A σ w st tm) : ∀ b, A b → b < w.heap.size := h.Alt
end
end Ab
