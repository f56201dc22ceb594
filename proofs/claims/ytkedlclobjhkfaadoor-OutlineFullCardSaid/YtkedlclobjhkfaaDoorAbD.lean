/-
  What the abstract machine's values and states say of a real run's values and memory.
-/
import Derived.Test.YtkedlclobjhkfaaDoorAbC
namespace Ab
open Go Go.RowKit

theorem getD_setIfInBounds (tm : Array Value) (d k : Nat) (v u : Value) (h : d < tm.size) : (tm.setIfInBounds d v).getD k u = if k = d then v else tm.getD k u := by
  simp only [Array.getD_eq_getD_getElem?, Array.getElem?_setIfInBounds]
  by_cases hk : d = k
  · subst hk; simp [h]
  · rw [if_neg hk, if_neg (fun e => hk e.symm)]

inductive VR0 (S : Seat) (A : Nat → Prop) (w : World) : AV → Value → Prop
  | bot (v : Value) : VR0 S A w .bot v
  | v (x : Value) : VR0 S A w (.v x) x
  | agg {cs : List AV} {vs : Array Value} : cs.length = vs.size → (∀ (i : Nat) (x : AV), cs[i]? = some x → VR0 S A w x (vs.getD i undef)) → VR0 S A w (.agg cs) (.agg vs)
  | tup {cs : List AV} {vs : Array Value} : cs.length = vs.size → (∀ (i : Nat) (x : AV), cs[i]? = some x → VR0 S A w x (vs.getD i undef)) → VR0 S A w (.tup cs) (.tuple vs)
  | sl {z : Nat} {es : List (List AV)} {b o cap : Nat} {u : Nat → Value} : A b → es.length ≤ cap → (∀ e ∈ es, e.length = z) → (∀ j, j < es.length * z → w.cell? ⟨b, o + j, none⟩ = some (u j)) → (∀ j, j < es.length * z → (u j).oneCell' = true) →
      (∀ (i : Nat) (e : List AV) (c : Nat) (x : AV), es[i]? = some e → e[c]? = some x → VR0 S A w x (u (i * z + c))) → VR0 S A w (.sl z es) (.slice (some ⟨b, o, none⟩) es.length cap)
  | slnil (z : Nat) : VR0 S A w (.sl z []) (.slice none 0 0)
  | slemp (z : Nat) (a : Addr) (cap : Nat) : VR0 S A w (.sl z []) (.slice (some a) 0 cap)
  | ep {cs : List AV} {off b o : Nat} {u : Nat → Value} : A b → (∀ j, j < cs.length → w.cell? ⟨b, o + j, none⟩ = some (u j)) → (∀ (j : Nat) (x : AV), cs[j]? = some x → VR0 S A w x (u j)) →
      VR0 S A w (.ep cs off) (.pointer (some ⟨b, o + off, none⟩))
  | fn {f g : Nat} {caps : List AV} {vs : Array Value} : assoc g S.fns = some f → caps.length = vs.size → (∀ (i : Nat) (x : AV), caps[i]? = some x → VR0 S A w x (vs.getD i undef)) → VR0 S A w (.fn f caps) (.func (.func g) #[] vs)
  | ifc {t T : Nat} {x : AV} {v : Value} : assoc T S.tys = some t → VR0 S A w x v → VR0 S A w (.ifc t x) (.iface T v)

inductive VR (S : Seat) (A : Nat → Prop) (σ : Nat → Option Nat) (w : World) : AV → Value → Prop
  | of0 {x : AV} {v : Value} : VR0 S A w x v → VR S A σ w x v
  | agg {cs : List AV} {vs : Array Value} : cs.length = vs.size → (∀ (i : Nat) (x : AV), cs[i]? = some x → VR S A σ w x (vs.getD i undef)) → VR S A σ w (.agg cs) (.agg vs)
  | tup {cs : List AV} {vs : Array Value} : cs.length = vs.size → (∀ (i : Nat) (x : AV), cs[i]? = some x → VR S A σ w x (vs.getD i undef)) → VR S A σ w (.tup cs) (.tuple vs)
  | fn {f g : Nat} {caps : List AV} {vs : Array Value} : assoc g S.fns = some f → caps.length = vs.size → (∀ (i : Nat) (x : AV), caps[i]? = some x → VR S A σ w x (vs.getD i undef)) → VR S A σ w (.fn f caps) (.func (.func g) #[] vs)
  | ifc {t T : Nat} {x : AV} {v : Value} : assoc T S.tys = some t → VR S A σ w x v → VR S A σ w (.ifc t x) (.iface T v)
  | pv {s off b : Nat} : σ s = some b → VR S A σ w (.pv s off) (.pointer (some ⟨b, off, none⟩))
  | pe {s z i off b : Nat} : σ s = some b → VR S A σ w (.pe s z i off) (.pointer (some ⟨b, i * z + off, none⟩))
  | lsl {s z off len b o cap : Nat} {cs : Array Value} {el : TypeId} : σ s = some b → len ≤ cap → (cap ≠ 0 ∨ off = 0 → o = off * z) → w.heap[b]? = some (.cells cs el (0, 0)) → (off + cap) * z ≤ cs.size → cap ≤ maxLen →
      VR S A σ w (.lsl s z off len) (.slice (some ⟨b, o, none⟩) len cap)
  | lslnil {s z : Nat} : σ s = none → VR S A σ w (.lsl s z 0 0) (.slice none 0 0)

theorem VR0.mono {S : Seat} {A A' : Nat → Prop} {w w' : World} (hA : ∀ b, A b → A' b) (hw : ∀ b, A b → w'.heap[b]? = w.heap[b]?) {x : AV} {v : Value} (h : VR0 S A w x v) : VR0 S A' w' x v := by
  induction h with
  | bot v => exact .bot v
  | v x => exact .v x
  | agg h1 _ ih => exact .agg h1 ih
  | tup h1 _ ih => exact .tup h1 ih
  | sl h1 h2 h3 h4 h5 _ ih => exact .sl (hA _ h1) h2 h3 (fun j hj => (World.cell?_of_block (a := ⟨_, _, none⟩) (hw _ h1)).trans (h4 j hj)) h5 ih
  | slnil z => exact .slnil z
  | slemp z a cap => exact .slemp z a cap
  | ep h1 h2 _ ih => exact .ep (hA _ h1) (fun j hj => (World.cell?_of_block (a := ⟨_, _, none⟩) (hw _ h1)).trans (h2 j hj)) ih
  | fn h0 h1 _ ih => exact .fn h0 h1 ih
  | ifc h0 _ ih => exact .ifc h0 ih

/-- The rows that a value refers to keep their place and their size. -/
def KeepS (σ σ' : Nat → Option Nat) (w w' : World) (s : Nat) : Prop :=
  σ' s = σ s ∧ ∀ b cs el, σ s = some b → w.heap[b]? = some (.cells cs el (0, 0)) → ∃ cs', w'.heap[b]? = some (.cells cs' el (0, 0)) ∧ cs'.size = cs.size

theorem VR.mono {S : Seat} {A A' : Nat → Prop} {σ σ' : Nat → Option Nat} {w w' : World} (hA : ∀ b, A b → A' b) (hw : ∀ b, A b → w'.heap[b]? = w.heap[b]?) {x : AV} {v : Value} (h : VR S A σ w x v)
    (hs : ∀ s ∈ x.refs, KeepS σ σ' w w' s) : VR S A' σ' w' x v := by
  induction h with
  | of0 h => exact .of0 (h.mono hA hw)
  | agg h1 _ ih => exact .agg h1 fun i x hx => ih i x hx fun s hm => hs s (by rw [AV.refs, mem_refsL]; exact ⟨x, List.mem_of_getElem? hx, hm⟩)
  | tup h1 _ ih => exact .tup h1 fun i x hx => ih i x hx fun s hm => hs s (by rw [AV.refs, mem_refsL]; exact ⟨x, List.mem_of_getElem? hx, hm⟩)
  | fn h0 h1 _ ih => exact .fn h0 h1 fun i x hx => ih i x hx fun s hm => hs s (by rw [AV.refs, mem_refsL]; exact ⟨x, List.mem_of_getElem? hx, hm⟩)
  | ifc h0 _ ih => exact .ifc h0 (ih fun s hm => hs s (by rw [AV.refs]; exact hm))
  | pv h => exact .pv ((hs _ (by rw [AV.refs]; exact List.mem_cons_self)).1.trans h)
  | pe h => exact .pe ((hs _ (by rw [AV.refs]; exact List.mem_cons_self)).1.trans h)
  | lsl h1 h2 h3 h4 h5 h6 =>
    obtain ⟨k1, k2⟩ := hs _ (by rw [AV.refs]; exact List.mem_cons_self)
    obtain ⟨cs', h7, h8⟩ := k2 _ _ _ h1 h4
    exact .lsl (k1.trans h1) h2 h3 h7 (by omega) h6
  | lslnil h => exact .lslnil ((hs _ (by rw [AV.refs]; exact List.mem_cons_self)).1.trans h)

/-- A value without references speaks of what is only read. -/
theorem VR.to0 {S : Seat} {A : Nat → Prop} {σ : Nat → Option Nat} {w : World} {x : AV} {v : Value} (h : VR S A σ w x v) (hr : x.refs = []) : VR0 S A w x v := by
  induction h with
  | of0 h => exact h
  | agg h1 _ ih => exact .agg h1 fun i x hx => ih i x hx (by
      rw [AV.refs] at hr
      exact List.eq_nil_iff_forall_not_mem.2 fun s hs => by have := mem_refsL.2 ⟨x, List.mem_of_getElem? hx, hs⟩; rw [hr] at this; cases this)
  | tup h1 _ ih => exact .tup h1 fun i x hx => ih i x hx (by
      rw [AV.refs] at hr
      exact List.eq_nil_iff_forall_not_mem.2 fun s hs => by have := mem_refsL.2 ⟨x, List.mem_of_getElem? hx, hs⟩; rw [hr] at this; cases this)
  | fn h0 h1 _ ih => exact .fn h0 h1 fun i x hx => ih i x hx (by
      rw [AV.refs] at hr
      exact List.eq_nil_iff_forall_not_mem.2 fun s hs => by have := mem_refsL.2 ⟨x, List.mem_of_getElem? hx, hs⟩; rw [hr] at this; cases this)
  | ifc h0 _ ih => exact .ifc h0 (ih (by rw [AV.refs] at hr; exact hr))
  | pv _ => simp [AV.refs] at hr
  | pe _ => simp [AV.refs] at hr
  | lsl => simp [AV.refs] at hr
  | lslnil => simp [AV.refs] at hr

/-- A slice of the call's own (or nil), its cells, its elements. -/
def OwnRel (S : Seat) (A : Nat → Prop) (w : World) (b? : Option Nat) (z : Nat) (es : List (List AV)) (v : Value) : Prop :=
  (∀ e ∈ es, e.length = z) ∧
  ((b? = none ∧ es = [] ∧ v = .slice none 0 0) ∨
   ∃ b cap vs el, b? = some b ∧ v = .slice (some ⟨b, 0, none⟩) es.length cap ∧ es.length ≤ cap ∧ cap ≤ maxLen ∧ w.heap[b]? = some (.cells vs el (0, 0)) ∧ cap * z ≤ vs.size ∧ (∀ j, j < es.length * z → (vs.getD j undef).oneCell' = true) ∧
     ∀ (i : Nat) (e : List AV) (c : Nat) (x : AV), es[i]? = some e → e[c]? = some x → VR0 S A w x (vs.getD (i * z + c) undef))

def BlkRel (S : Seat) (A : Nat → Prop) (σ : Nat → Option Nat) (w : World) (s : Nat) : Blk → Prop
  | .var cs => ∃ b vs el, σ s = some b ∧ w.heap[b]? = some (.cells vs el (0, 0)) ∧ cs.length ≤ vs.size ∧ ∀ (i : Nat) (x : AV), cs[i]? = some x → VR S A σ w x (vs.getD i undef)
  | .arr z es => (∀ e ∈ es, e.length = z) ∧
      ((σ s = none ∧ es = []) ∨ ∃ b vs el, σ s = some b ∧ w.heap[b]? = some (.cells vs el (0, 0)) ∧ es.length * z ≤ vs.size ∧ (∀ j, j < es.length * z → (vs.getD j undef).oneCell' = true) ∧
        ∀ (i : Nat) (e : List AV) (c : Nat) (x : AV), es[i]? = some e → e[c]? = some x → VR0 S A w x (vs.getD (i * z + c) undef))

/-- From w to w' nothing has turned but new blocks and those of O. -/
structure KeepO (O : Nat → Prop) (w w' : World) : Prop where
  os : w'.os = w.os
  tape : w'.tape = w.tape
  output : w'.output = w.output
  size : w.heap.size ≤ w'.heap.size
  block : ∀ k, k < w.heap.size → ¬ O k → w'.heap[k]? = w.heap[k]?

theorem KeepO.refl (O : Nat → Prop) (w : World) : KeepO O w w := ⟨rfl, rfl, rfl, Nat.le_refl _, fun _ _ _ => rfl⟩
theorem KeepO.trans {O : Nat → Prop} {a b c : World} (h : KeepO O a b) (k : KeepO O b c) : KeepO O a c :=
  ⟨k.os.trans h.os, k.tape.trans h.tape, k.output.trans h.output, Nat.le_trans h.size k.size, fun i hi hn => (k.block i (Nat.lt_of_lt_of_le hi h.size) hn).trans (h.block i hi hn)⟩

/-- What package-level variables hold. -/
def Inv (S : Seat) (w : World) : Prop := ∀ p ∈ S.glob, w.cell? ⟨p.1, 0, none⟩ = some p.2
theorem Inv.keep {S : Seat} {O : Nat → Prop} {w w' : World} (h : Inv S w) (hO : ∀ p ∈ S.glob, ¬ O p.1) (hk : KeepO O w w') : Inv S w' := by
  intro p hp
  have hc := h p hp
  have hb : p.1 < w.heap.size := World.block_lt_of_cell? w ⟨p.1, 0, none⟩ hc
  exact (World.cell?_of_block (a := ⟨p.1, 0, none⟩) (hk.block p.1 hb (hO p hp))).trans hc
/-- The state st tells of the slots tm and the world w; O: the blocks that were handed in to be written, w0: the world at the call's begin, A0: what may be read of it. -/
structure SRel (S : Seat) (A0 O : Nat → Prop) (w0 : World) (A : Nat → Prop) (σ : Nat → Option Nat) (w : World) (st : ASt) (tm : Array Value) : Prop where
  fr : ∀ k, VR S A σ w (st.fr k) (tm.getD k undef)
  hp : ∀ s blk, st.hp s = some blk → BlkRel S A σ w s blk
  dang : ∀ k s, s ∈ (st.fr k).refs → st.hp s ≠ none
  dangV : ∀ s cs, st.hp s = some (.var cs) → ∀ s' ∈ AV.refsL cs, st.hp s' ≠ none
  dom : ∀ s b, σ s = some b → st.hp s ≠ none ∧ b < w.heap.size ∧ ¬ A b ∧ (w0.heap.size ≤ b ∨ O b)
  inj : ∀ s s' b, σ s = some b → σ s' = some b → s = s'
  Alt : ∀ b, A b → b < w.heap.size
  Asub : ∀ b, A b → A0 b ∨ w0.heap.size ≤ b ∨ O b
  keep : KeepO O w0 w
  Olt : (∀ b, O b → b < w0.heap.size) ∧ (∀ p ∈ S.glob, ¬ O p.1) ∧ Inv S w0

/-- A value of the state, and that what it refers to is there. -/
structure Got (S : Seat) (A : Nat → Prop) (σ : Nat → Option Nat) (w : World) (st : ASt) (x : AV) (v : Value) : Prop where
  rel : VR S A σ w x v
  dang : ∀ s ∈ x.refs, st.hp s ≠ none

section
variable {S : Seat} {A0 O : Nat → Prop} {w0 : World} {A : Nat → Prop} {σ : Nat → Option Nat} {w : World} {st : ASt} {tm : Array Value}

theorem SRel.inv (h : SRel S A0 O w0 A σ w st tm) : Inv S w := h.Olt.2.2.keep h.Olt.2.1 h.keep
theorem okConst_refs (x : Value) : (AV.v x).refs = [] := by simp [AV.refs]

theorem SRel.ev (h : SRel S A0 O w0 A σ w st tm) {df : List Deferred} {x : Operand} {a : AOpd} (hc : cOpd S x = some a) : Got S A σ w st (st.ev a) (Act.eval ⟨tm, df⟩ x) := by
  cases x with
  | tmp t => simp only [cOpd, Option.some.injEq] at hc; subst hc; exact ⟨h.fr t, h.dang t⟩
  | const v =>
    simp only [cOpd] at hc
    split at hc
    · cases hc; exact ⟨.of0 (.v v), by simp [ASt.ev, AV.refs]⟩
    · cases hc
  | func f =>
    simp only [cOpd, Option.map_eq_some_iff] at hc
    obtain ⟨id, h1, rfl⟩ := hc
    exact ⟨.of0 (.fn h1 (by simp) (by simp)), by simp [ASt.ev, AV.refs, AV.refsL]⟩
  | global g => simp [cOpd] at hc

theorem SRel.put (h : SRel S A0 O w0 A σ w st tm) {d : Nat} (hd : d < tm.size) {x : AV} {v : Value} (hg : Got S A σ w st x v) : SRel S A0 O w0 A σ w (st.put d x) (tm.setIfInBounds d v) := by
  refine ⟨fun k => ?_, h.hp, fun k s hs => ?_, h.dangV, h.dom, h.inj, h.Alt, h.Asub, h.keep, h.Olt⟩
  · rw [getD_setIfInBounds _ _ _ _ _ hd]
    simp only [ASt.put, upd]
    split
    · exact hg.rel
    · exact h.fr k
  · simp only [ASt.put, upd] at hs ⊢
    split at hs
    · exact hg.dang s hs
    · exact h.dang k s hs
end

end Ab
