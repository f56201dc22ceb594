/-
  Calls by contract, in the real machine; a string's bytes.
-/
import Derived.Test.YtkedlclobjhkfaaDoorAbM
namespace Ab
open Go Go.RowKit
set_option linter.unusedVariables false
set_option linter.unusedSimpArgs false
set_option linter.unnecessarySimpa false

section
variable {S : Seat} {A0 O : Nat → Prop} {w0 : World} {A : Nat → Prop} {σ : Nat → Option Nat} {w : World} {st st' : ASt} {tm : Array Value} {df : List Deferred} {o : Oper} {v : AV} {d : Nat}

/-- New memory besides; more that may be read. -/
theorem SRel.grow (h : SRel S A0 O w0 A σ w st tm) {w' : World} {A' : Nat → Prop} (hk : KeepO (fun _ => False) w w') (h1 : ∀ b, A b → A' b) (h2 : ∀ b, A' b → A b ∨ w.heap.size ≤ b) (h3 : ∀ b, A' b → b < w'.heap.size) : SRel S A0 O w0 A' σ w' st tm := by
  have hA : ∀ b, A b → w'.heap[b]? = w.heap[b]? := fun b hb => hk.block b (h.Alt b hb) (fun e => e)
  have hs : ∀ s, KeepS σ σ w w' s := fun s => ⟨rfl, fun b cs el hb hc => ⟨cs, by rw [hk.block b (h.dom s b hb).2.1 (fun e => e)]; exact hc, rfl⟩⟩
  refine ⟨fun k => (h.fr k).mono h1 hA fun s _ => hs s, fun s blk hb => (h.hp s blk hb).mono h1 hA rfl (fun b hb => hk.block b (h.dom s b hb).2.1 (fun e => e)) fun s' _ => hs s', h.dang, h.dangV, fun s b hb => ?_, h.inj, h3, fun b hb => ?_, ?_, h.Olt⟩
  · obtain ⟨k1, k2, k3, k4⟩ := h.dom s b hb
    exact ⟨k1, Nat.lt_of_lt_of_le k2 hk.size, fun hb' => (h2 b hb').elim k3 (fun e => by omega), k4⟩
  · rcases h2 b hb with hb | hb
    · exact h.Asub b hb
    · exact .inr (.inl (Nat.le_trans h.keep.size hb))
  · exact h.keep.trans ⟨hk.os, hk.tape, hk.output, hk.size, fun k hk' _ => hk.block k hk' (fun e => e)⟩

theorem op_cvs (h : SRel S A0 O w0 A σ w st tm) {s t e : TypeId} {i : TypeInfo} {x : Operand} {x' : AOpd} (ho : o.op = .convert s t x) (hs : S.P.underlying s = some .string) (ht : S.P.underlying t = some (.slice e)) (he : S.P.underlying e = some (.int .u8)) (h1 : cOpd S x = some x')
    (ha : aop (.cvs x') d st = some (v, st')) : OpOk S A0 O w0 w tm df o v st' := by
  have g1 := h.ev (df := df) h1
  simp only [aop] at ha
  split at ha
  · rename_i b hb
    rw [hb] at g1
    have e1 := g1.rel.v_inv
    simp only [Option.some.injEq, Prod.mk.injEq] at ha; obtain ⟨rfl, rfl⟩ := ha
    generalize hcs : (b.data.map (fun c => Value.int .u8 c.toNat) ++ Array.replicate (grownCap w b.size 0 e - b.size) (.int .u8 0)) = cs
    have hrun : (execOp (Act.eval ⟨tm, df⟩) o).run S.P w = .ok (.value (.slice (some ⟨w.heap.size, 0, none⟩) b.size (grownCap w b.size 0 e))) ((w.drew.alloc (.cells cs e)).freeze ⟨w.heap.size, cs.size, none⟩ 1) := by
      have h0 : (w.drew.alloc (.cells cs e)).heap[w.heap.size]? = some (.cells cs e (0, 0)) := heap_alloc_new w.drew _
      have hsh : (w.drew.alloc (.cells cs e)).shape? w.heap.size = some (e, cs.size) := by simp only [World.shape?, h0]
      have hcs' : (b.data.map (fun c => Value.int .u8 c.toNat) ++ Array.replicate ((Question.appendCap b.size 0 e).cut (w.tape w.drawn (Question.appendCap b.size 0 e)) - b.size) (.int .u8 0)) = cs := hcs
      have hcv : (Conv.stringToBytes e b).run S.P w = .ok (.slice (some ⟨w.heap.size, 0, none⟩) b.size (grownCap w b.size 0 e)) ((w.drew.alloc (.cells cs e)).freeze ⟨w.heap.size, cs.size, none⟩ 1) := by
        simp [Conv.stringToBytes, Question.forced, newRow, markStringish]
        rw [hcs', hsh]
        simp [grownCap]
      simp [execOp, ho, e1, convert, run_underlying hs, run_underlying ht, run_underlying he, hcv]
    have hlen : b.size ≤ cs.size := by rw [← hcs]; simp
    have hnew : ((w.drew.alloc (.cells cs e)).freeze ⟨w.heap.size, cs.size, none⟩ 1).heap[w.heap.size]? = some (.cells cs e (cs.size, cs.size + 1)) := by
      have h0 : (w.drew.alloc (.cells cs e)).heap[w.heap.size]? = some (.cells cs e (0, 0)) := heap_alloc_new w.drew _
      have hlt : w.heap.size < (w.drew.alloc (.cells cs e)).heap.size := by simp
      simp only [World.freeze]
      rw [if_neg (by omega)]
      simp only [Array.getElem?_modify, if_true, h0, Option.map_some]
      simp
    have hold : ∀ k, k < w.heap.size → ((w.drew.alloc (.cells cs e)).freeze ⟨w.heap.size, cs.size, none⟩ 1).heap[k]? = w.heap[k]? := by
      intro k hk
      simp only [World.freeze]
      rw [if_neg (by omega)]
      simp only [Array.getElem?_modify]
      rw [if_neg (by omega)]
      exact heap_alloc_old w.drew _ k hk
    have hsize : ((w.drew.alloc (.cells cs e)).freeze ⟨w.heap.size, cs.size, none⟩ 1).heap.size = w.heap.size + 1 := by
      simp [World.freeze]
    generalize hw' : (w.drew.alloc (.cells cs e)).freeze ⟨w.heap.size, cs.size, none⟩ 1 = w' at *
    have hkeep : KeepO (fun _ => False) w w' := by
      refine ⟨?_, ?_, ?_, by omega, fun k hk _ => hold k hk⟩ <;> (subst hw'; simp only [World.freeze]; rw [if_neg (by omega)]; rfl)
    have hgr := h.grow (A' := fun c => A c ∨ c = w.heap.size) hkeep (fun _ h => .inl h) (fun c hc => hc.imp id (fun e => by omega)) (fun c hc => hc.elim (fun hc => by have := h.Alt c hc; omega) (fun e => by omega))
    refine ⟨_, w', _, σ, hrun, hgr, .inl ⟨_, rfl, .of0 ?_, by simp [AV.refs]⟩⟩
    have hl : (b.data.toList.map fun c => [AV.v (.int .u8 c.toNat)]).length = b.size := by simp
    have hget : ∀ j, j < b.size → cs.getD j undef = .int .u8 (b.data.toList.getD j 0).toNat := by
      intro j hj
      have hj' : j < b.data.size := hj
      rw [← hcs, Array.getD_eq_getD_getElem?, Array.getElem?_append_left (by simpa using hj'), Array.getElem?_map, List.getD_eq_getElem?_getD, Array.getElem?_toList, Array.getElem?_eq_getElem hj']
      rfl
    have := VR0.sl (S := S) (A := fun c => A c ∨ c = w.heap.size) (w := w') (z := 1) (es := b.data.toList.map fun c => [AV.v (.int .u8 c.toNat)]) (b := w.heap.size) (o := 0) (cap := grownCap w b.size 0 e) (u := fun j => cs.getD j undef) (.inr rfl)
      (by rw [hl]; exact grownCap_ge w _ _ _) (by intro e he; rw [List.mem_map] at he; obtain ⟨c, _, rfl⟩ := he; rfl)
      (fun j hj => by
        rw [hl, Nat.mul_one] at hj
        have : j < cs.size := by omega
        simp [World.cell?, hnew, Array.getD, this])
      (fun j hj => by rw [hl, Nat.mul_one] at hj; simp only [hget j hj]; rfl)
      (fun ii ee c xx hi hc => by
        have hii : ii < b.size := by rw [← hl]; exact (List.getElem?_eq_some_iff.1 hi).1
        simp only [List.getElem?_map, Option.map_eq_some_iff] at hi
        obtain ⟨y, hy, rfl⟩ := hi
        cases c with
        | zero =>
          simp at hc
          subst hc
          simp only [Nat.mul_one, Nat.add_zero, hget ii hii, List.getD, hy, Option.getD_some]
          exact .v _
        | succ c => simp at hc)
    rwa [hl] at this
  · cases ha

/-! ### calls -/

theorem snap2_rel (h : SRel S A0 O w0 A σ w st tm) {A' : Nat → Prop} (hA : ∀ b, A b → A' b) {x y : AV} {v : Value} (hv : VR S A σ w x v) (hs : snap2 st.hp x = some y)
    (hr : ∀ s b, σ s = some b → (s ∈ x.refs ∨ ∃ s' ∈ x.refs, isArr st.hp s' = false) → A' b) : VR0 S A' w y v := by
  unfold snap2 at hs
  split at hs
  · rename_i s off
    split at hs
    · rename_i cs hb
      split at hs
      · rename_i cs' hcs
        cases hs
        obtain ⟨b, rfl, hσ⟩ := hv.pv_inv
        obtain ⟨b', vs, el, k1, k2, k3, k4⟩ := h.hp _ _ hb
        obtain rfl : b' = b := Option.some.inj (k1.symm.trans hσ)
        obtain ⟨d1, d2⟩ := optAll_get hcs
        have all : ∀ s' b', σ s' = some b' → A' b' := fun s' b' hs' => hr s' b' hs' (.inr ⟨s, by simp [AV.refs], by simp [isArr, hb]⟩)
        have := VR0.ep (S := S) (A := A') (w := w) (cs := cs') (off := off) (b := b') (o := 0) (u := fun j => vs.getD j undef) (all s b' hσ) (fun j hj => by
          have : j < vs.size := by omega
          simp [World.cell?, k2, this, Array.getD]) (fun j x hj => by
          obtain ⟨x0, hx0, hx1⟩ := d2 j x hj
          exact (snap1_rel h hA (k4 j x0 hx0) hx1 fun s' _ b'' hs' => all s' b'' hs').1)
        simpa using this
      · cases hs
    · cases hs
  · rename_i cs
    split at hs
    · rename_i cs' hcs
      cases hs
      obtain ⟨vs, rfl, k1, k2⟩ := hv.agg_inv
      obtain ⟨d1, d2⟩ := optAll_get hcs
      refine .agg (by omega) fun j x hj => ?_
      obtain ⟨x0, hx0, hx1⟩ := d2 j x hj
      exact (snap1_rel h hA (k2 j x0 hx0) hx1 fun s hs b hb => hr s b hb (.inl (by rw [AV.refs]; exact mem_refsL.2 ⟨x0, List.mem_of_getElem? hx0, hs⟩))).1
    · cases hs
  · exact (snap1_rel h hA hv hs fun s hs' b hb => hr s b hb (.inl hs')).1

theorem snap_rel (h : SRel S A0 O w0 A σ w st tm) {A' : Nat → Prop} (hA : ∀ b, A b → A' b) {x y : AV} {v : Value} (hv : VR S A σ w x v) (hs : snap st.hp x = some y)
    (hr : ∀ s b, σ s = some b → (s ∈ x.refs ∨ ∃ s' ∈ x.refs, isArr st.hp s' = false) → A' b) : VR0 S A' w y v := by
  have sub : ∀ {cs : List AV} {x0 : AV} {j : Nat}, cs[j]? = some x0 → ∀ s ∈ x0.refs, s ∈ AV.refsL cs := fun hx s hs => mem_refsL.2 ⟨_, List.mem_of_getElem? hx, hs⟩
  unfold snap at hs
  split at hs
  · rename_i f caps
    split at hs
    · rename_i cs' hcs
      cases hs
      obtain ⟨g, vs, rfl, k0, k1, k2⟩ := hv.fn_inv
      obtain ⟨d1, d2⟩ := optAll_get hcs
      refine .fn k0 (by omega) fun j x hj => ?_
      obtain ⟨x0, hx0, hx1⟩ := d2 j x hj
      exact snap2_rel h hA (k2 j x0 hx0) hx1 fun s b hb hh => hr s b hb (by rw [AV.refs]; exact hh.imp (sub hx0 s) fun ⟨s', h1, h2⟩ => ⟨s', sub hx0 s' h1, h2⟩)
    · cases hs
  · rename_i cs
    split at hs
    · rename_i cs' hcs
      cases hs
      obtain ⟨vs, rfl, k1, k2⟩ := hv.tup_inv
      obtain ⟨d1, d2⟩ := optAll_get hcs
      refine .tup (by omega) fun j x hj => ?_
      obtain ⟨x0, hx0, hx1⟩ := d2 j x hj
      exact snap2_rel h hA (k2 j x0 hx0) hx1 fun s b hb hh => hr s b hb (by rw [AV.refs]; exact hh.imp (sub hx0 s) fun ⟨s', h1, h2⟩ => ⟨s', sub hx0 s' h1, h2⟩)
    · cases hs
  · rename_i cs
    split at hs
    · rename_i cs' hcs
      cases hs
      obtain ⟨vs, rfl, k1, k2⟩ := hv.agg_inv
      obtain ⟨d1, d2⟩ := optAll_get hcs
      refine .agg (by omega) fun j x hj => ?_
      obtain ⟨x0, hx0, hx1⟩ := d2 j x hj
      exact snap2_rel h hA (k2 j x0 hx0) hx1 fun s b hb hh => hr s b hb (by rw [AV.refs]; exact hh.imp (sub hx0 s) fun ⟨s', h1, h2⟩ => ⟨s', sub hx0 s' h1, h2⟩)
    · cases hs
  · exact snap2_rel h hA hv hs hr

theorem plain1_rel {A' : Nat → Prop} {w' : World} {x : AV} {v : Value} (h : VR0 S A w x v) (hp : x.plain1 = true) : VR0 S A' w' x v := by
  cases h with
  | bot => exact .bot _
  | v => exact .v _
  | @ifc t T y v h1 h2 =>
    cases y with
    | v x => cases h2; exact .ifc h1 (.v _)
    | bot => exact .ifc h1 (.bot _)
    | _ => simp [AV.plain1] at hp
  | _ => simp [AV.plain1] at hp
theorem plain2_rel {A' : Nat → Prop} {w' : World} {x : AV} {v : Value} (h : VR0 S A w x v) (hp : x.plain2 = true) : VR0 S A' w' x v := by
  by_cases hx : ∃ cs, x = .agg cs
  · obtain ⟨cs, rfl⟩ := hx
    cases h with
    | agg h1 h2 => exact .agg h1 fun i x hx => plain1_rel (h2 i x hx) (List.all_eq_true.1 hp x (List.mem_of_getElem? hx))
  · refine plain1_rel h ?_
    unfold AV.plain2 at hp
    unfold AV.plain1
    split at hp
    · rfl
    · rfl
    · rfl
    · rfl
    · exact absurd ⟨_, rfl⟩ hx
    · cases hp
theorem plain_rel {A' : Nat → Prop} {w' : World} {x : AV} {v : Value} (h : VR0 S A w x v) (hp : x.plain = true) : VR0 S A' w' x v := by
  by_cases hx : ∃ cs, x = .agg cs
  · obtain ⟨cs, rfl⟩ := hx
    cases h with
    | agg h1 h2 => exact .agg h1 fun i x hx => plain1_rel (h2 i x hx) (List.all_eq_true.1 hp x (List.mem_of_getElem? hx))
  · by_cases hy : ∃ cs, x = .tup cs
    · obtain ⟨cs, rfl⟩ := hy
      cases h with
      | tup h1 h2 => exact .tup h1 fun i x hx => plain2_rel (h2 i x hx) (List.all_eq_true.1 hp x (List.mem_of_getElem? hx))
    · refine plain1_rel h ?_
      unfold AV.plain at hp
      unfold AV.plain1
      split at hp
      · rfl
      · rfl
      · rfl
      · rfl
      · exact absurd ⟨_, rfl⟩ hx
      · exact absurd ⟨_, rfl⟩ hy
      · cases hp

/-- A part of an answer: a fresh slice, or what is only read. -/
def ArgR (S : Seat) (A : Nat → Prop) (w : World) (b? : Option Nat) (x : AV) (v : Value) : Prop :=
  match x with
  | .own z es => OwnRel S A w b? z es v
  | x => b? = none ∧ VR0 S A w x v

/-- What may be read behind a call, its fresh slices aside. -/
def After (A : Nat → Prop) (β : Nat → Option Nat) (w w' : World) (b : Nat) : Prop := (A b ∨ w.heap.size ≤ b) ∧ b < w'.heap.size ∧ ∀ i, β i ≠ some b

/-- An answer. -/
def RetR (S : Seat) (A : Nat → Prop) (w w' : World) (r : AV) (v : Value) : Prop :=
  ∃ β : Nat → Option Nat, (∀ i b, β i = some b → w.heap.size ≤ b ∧ b < w'.heap.size) ∧ (∀ i j b, β i = some b → β j = some b → i = j) ∧
    match r with
    | .tup rs => ∃ vs, v = .tuple vs ∧ rs.length = vs.size ∧ ∀ (i : Nat) (x : AV), rs[i]? = some x → ArgR S (After A β w w') w' (β i) x (vs.getD i undef)
    | r => ArgR S (After A β w w') w' (β 0) r v

/-- The function g of the program answers so. -/
def RealRet (S : Seat) (g : FuncId) (args : List AV) (r : AV) : Prop :=
  ∀ (A : Nat → Prop) (w : World) (vs : Array Value), vs.size = args.length → ((∀ b, A b → b < w.heap.size) ∧ Inv S w) → (∀ (i : Nat) (x : AV), args[i]? = some x → VR0 S A w x (vs.getD i undef)) →
    Calls S.P g vs w fun e w' => ∃ v, e = .returned v ∧ KeepO (fun _ => False) w w' ∧ RetR S A w w' r v

/-- The answers of one seat's program. -/
def realRets (S : Seat) : Rets := ⟨fun f args r outs => ∀ g, assoc g S.fns = some f → outs = [] ∧ RealRet S g args r, fun st st1 => ∀ (A0 O : Nat → Prop) (w0 : World) (A : Nat → Prop) (σ : Nat → Option Nat) (w : World) (tm : Array Value), SRel S A0 O w0 A σ w st tm → ∃ A' σ', SRel S A0 O w0 A' σ' w st1 tm⟩
end
end Ab
