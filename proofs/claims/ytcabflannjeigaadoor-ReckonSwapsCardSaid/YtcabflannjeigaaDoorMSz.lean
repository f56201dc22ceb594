/-
  reckon.Swap's closure, walked at this seat's program: what stands while it runs; a node that is a leaf.
-/
import Derived.Test.YtcabflannjeigaaDoorMSx
import Derived.BigQuiet
set_option linter.unusedSimpArgs false
namespace Go.Proofs.TrydSwap
open Go Go.RowKit Ab
set_option linter.unusedVariables false

structure PD (n0 n1 lb pb ob : Nat) (l : List Ab.Node) (lv : Value) (W : World) (v : Value) (out : List Ab.Node) : Prop where
  cell : W.heap[ob]? = some (.cells #[v] 22 (0, 0))
  row : W.ownsRow n1 45 5 v out.length (rowN out)
  nodes : NodesIn n0 W lv l
  lbc : W.cell? ⟨lb, 0, none⟩ = some lv
  pbc : W.cell? ⟨pb, 0, none⟩ = some (.func (.func 35) #[] #[.pointer (some ⟨lb, 0, none⟩), .pointer (some ⟨pb, 0, none⟩), .pointer (some ⟨ob, 0, none⟩)])
  size : n1 ≤ W.heap.size
structure PO (n0 n1 lb pb ob : Nat) : Prop where
  h0 : n0 ≤ ob
  ho : ob < n1
  hl : lb < n1
  hp : pb < n1
  l : lb ≠ ob
  p : pb ≠ ob

section
variable {n0 n1 lb pb ob : Nat} {l : List Ab.Node} {lv v v' : Value} {W W' : World} {out y : List Ab.Node}
theorem PD.oc (h : PD n0 n1 lb pb ob l lv W v out) : W.cell? ⟨ob, 0, none⟩ = some v := by simp [World.cell?, h.cell]
theorem PD.of (h : PD n0 n1 lb pb ob l lv W v out) (j : Nat) : W.frozen? ⟨ob, j, none⟩ = false := by simp [World.frozen?, h.cell]
/-- Behind a step that leaves all but the row and its variable as it was. -/
theorem PD.step (o : PO n0 n1 lb pb ob) (h : PD n0 n1 lb pb ob l lv W v out) (s : Stp (some ob) v W W' v') (hc : W'.heap[ob]? = some (.cells #[v'] 22 (0, 0))) (hr : W'.ownsRow n1 45 5 v' y.length (rowN y)) : PD n0 n1 lb pb ob l lv W' v' y := by
  have hge := own_ge h.row
  have h1 := o.ho
  have h0 := o.h0
  refine ⟨hc, hr, s.nodes (by have := h.size; omega) (fun b e => by cases e; exact h0) (fun b e => by have := hge b e; omega) h.nodes, ?_, ?_, Nat.le_trans h.size s.size⟩
  · exact (s.cell (p := ⟨lb, 0, none⟩) (by show lb < _; have := o.hl; have := h.size; omega) (fun e => o.l (Option.some.inj e)) (fun e => by have h3 : n1 ≤ lb := hge _ e.symm; have := o.hl; omega)).trans h.lbc
  · exact (s.cell (p := ⟨pb, 0, none⟩) (by show pb < _; have := o.hp; have := h.size; omega) (fun e => o.p (Option.some.inj e)) (fun e => by have h3 : n1 ≤ pb := hge _ e.symm; have := o.hp; omega)).trans h.pbc
/-- Behind one that turns neither. -/
theorem PD.quiet (o : PO n0 n1 lb pb ob) (h : PD n0 n1 lb pb ob l lv W v out) (hos : W'.os = W.os) (ht : W'.tape = W.tape) (hu : W'.output = W.output) (hs : W.heap.size ≤ W'.heap.size) (hb : ∀ k, k < W.heap.size → W'.heap[k]? = W.heap[k]?) : PD n0 n1 lb pb ob l lv W' v out := by
  have h1 : ob < W.heap.size := (Array.getElem?_eq_some_iff.1 h.cell).1
  refine h.step o ⟨hos, ht, hu, hs, fun k hk _ _ => hb k hk, .inl rfl⟩ ((hb _ h1).trans h.cell) ?_
  exact h.row.kept (row := none) ⟨hos, ht, hu, hs, fun k hk _ => hb k hk⟩ (Classical.em _)
end
theorem alloc_lt {W : World} {o : Obj} {k : Nat} (h : k < W.heap.size) : (W.alloc o).heap[k]? = W.heap[k]? := by
  simp [World.alloc, -World.alloc_eq, Array.getElem?_push, Nat.ne_of_lt h]
theorem at_row {X w1 : World} {r : Option Nat} {ob : Nat} {O : Obj} (hgrow : X.grownBy w1 r) (h : X.heap[ob]? = some O) (hr : some ob ≠ r) : w1.heap[ob]? = some O :=
  (hgrow.block ob (Array.getElem?_eq_some_iff.1 h).1 hr).trans h
theorem alloc_at {W : World} {o O : Obj} {k : Nat} (h : W.heap[k]? = some O) : (W.alloc o).heap[k]? = some O := (alloc_lt (Array.getElem?_eq_some_iff.1 h).1).trans h
theorem one_cell {W : World} {ob : Nat} {v : Value} {T : TypeId} (h : W.heap[ob]? = some (.cells #[v] T (0, 0))) : W.cell? ⟨ob, 0, none⟩ = some v := by simp [World.cell?, h]
theorem one_free {W : World} {ob : Nat} {c : Array Value} {T : TypeId} (h : W.heap[ob]? = some (.cells c T (0, 0))) (j : Nat) : W.frozen? ⟨ob, j, none⟩ = false := by simp [World.frozen?, h]
theorem one_set {w1 : World} {ob : Nat} {v v' : Value} {T : TypeId} (h : w1.heap[ob]? = some (.cells #[v] T (0, 0))) : (w1.setCell ⟨ob, 0, none⟩ v').heap[ob]? = some (.cells #[v'] T (0, 0)) := by
  simp only [World.setCell, Array.getElem?_modify, if_true, h, Option.map_some]
  rfl
theorem put_end {B T n1 n : Nat} {v v2 v' : Value} {W X w1 : World} {ys : List Value} (s : Stp (some B) v W X v2) (h : X.heap[B]? = some (.cells #[v2] T (0, 0))) (hgrow : X.grownBy w1 v2.ownBlock) (hat : v'.ownBlock = v2.ownBlock ∨ v'.ownBlock = some X.heap.size)
    (hb : some B ≠ v2.ownBlock) (hown : w1.ownsRow n1 45 5 v' n ys) : (w1.setCell ⟨B, 0, none⟩ v').heap[B]? = some (.cells #[v'] T (0, 0)) ∧ (w1.setCell ⟨B, 0, none⟩ v').ownsRow n1 45 5 v' n ys ∧ Stp (some B) v W (w1.setCell ⟨B, 0, none⟩ v') v' := by
  have h1 := at_row hgrow h hb
  have hlt := (Array.getElem?_eq_some_iff.1 h).1
  refine ⟨one_set h1, row_set hown _ _ fun e => ?_, stp_set (s.trans (stp_grown hgrow hat)) (.inr rfl) _⟩
  rcases hat with e2 | e2
  · exact hb (e.symm.trans e2)
  · have := Option.some.inj (e.symm.trans e2)
    simp only at this
    omega
structure Qt (W X : World) : Prop where
  os : X.os = W.os
  tape : X.tape = W.tape
  output : X.output = W.output
  size : W.heap.size ≤ X.heap.size
  block : ∀ k, k < W.heap.size → X.heap[k]? = W.heap[k]?
theorem qt_refl (W : World) : Qt W W := ⟨rfl, rfl, rfl, Nat.le_refl _, fun _ _ => rfl⟩
theorem qt_alloc {W X : World} (h : Qt W X) (o : Obj) : Qt W (X.alloc o) := ⟨h.os, h.tape, h.output, by have := h.size; simp; omega, fun k hk => (alloc_lt (Nat.lt_of_lt_of_le hk h.size)).trans (h.block k hk)⟩
theorem qt_drewN {W X : World} (h : Qt W X) (n : Nat) : Qt W (X.drewN n) := ⟨h.os, h.tape, h.output, h.size, h.block⟩
theorem stp_qt {B : Option Nat} {v : Value} {W X : World} (h : Qt W X) : Stp B v W X v := ⟨h.os, h.tape, h.output, h.size, fun k hk _ _ => h.block k hk, .inl rfl⟩
section
variable {n0 n1 lb pb ob : Nat} {l : List Ab.Node} {lv v : Value} {W X : World} {out : List Ab.Node}
theorem PD.qt (o : PO n0 n1 lb pb ob) (h : PD n0 n1 lb pb ob l lv W v out) (q : Qt W X) : PD n0 n1 lb pb ob l lv X v out := h.quiet o q.os q.tape q.output q.size q.block
theorem PD.set (o : PO n0 n1 lb pb ob) (h : PD n0 n1 lb pb ob l lv W v out) {bx : Nat} (hb : n1 ≤ bx) (hv : some bx ≠ v.ownBlock) (j : Nat) (u : Value) : PD n0 n1 lb pb ob l lv (W.setCell ⟨bx, j, none⟩ u) v out := by
  have hk : ∀ k, k ≠ bx → (W.setCell ⟨bx, j, none⟩ u).heap[k]? = W.heap[k]? := fun k hk => Below.heap_setCell _ _ _ k fun e => hk e
  have hc : ∀ (k j' : Nat), k ≠ bx → (W.setCell ⟨bx, j, none⟩ u).cell? ⟨k, j', none⟩ = W.cell? ⟨k, j', none⟩ := fun k j' h => by simp only [World.cell?, hk k h]
  have h0 := o.h0
  have h1 := o.ho
  have h2 := o.hl
  have h3 := o.hp
  refine ⟨(hk _ (by omega)).trans h.cell, row_set h.row _ _ (fun e => hv e.symm), ?_, (hc _ _ (by omega)).trans h.lbc, (hc _ _ (by omega)).trans h.pbc, Nat.le_trans h.size (KeepsWalks.setCell W _ u).size⟩
  rcases h.nodes with e | ⟨b, off, cap, e, hb', hn⟩
  · exact .inl e
  · exact .inr ⟨b, off, cap, e, hb', fun i x hx j' u' hu => (hc _ _ (by omega)).trans (hn i x hx j' u' hu)⟩
end

set_option maxRecDepth 100000 in
set_option maxHeartbeats 4000000 in
theorem put_leaf (n0 n1 lb pb ob b off cap k : Nat) (o : PO n0 n1 lb pb ob) (l : List Ab.Node) (x : Ab.Node) (h3 : ¬ 3 ≤ x.op) (out : List Ab.Node) (W : World) (v : Value) (hk : l[k]? = some x) (hy : out.length + 1 ≤ 1000000)
    (hP : PD n0 n1 lb pb ob l (.slice (some ⟨b, off, none⟩) l.length cap) W v out)
    (hc0 : W.cell? ⟨b, off + k * 5, none⟩ = some (.int .i64 x.op)) (hc1 : W.cell? ⟨b, off + k * 5 + 1, none⟩ = some (.int .i64 x.n)) (hc2 : W.cell? ⟨b, off + k * 5 + 2, none⟩ = some (.string x.name)) (hc3 : W.cell? ⟨b, off + k * 5 + 3, none⟩ = some (.int .i64 x.left)) (hc4 : W.cell? ⟨b, off + k * 5 + 4, none⟩ = some (.int .i64 x.right)) :
    Calls Tryd.prog 35 #[.int .i64 k, .pointer (some ⟨lb, 0, none⟩), .pointer (some ⟨pb, 0, none⟩), .pointer (some ⟨ob, 0, none⟩)] W fun e W' => ∃ v', e = .returned (.int .i64 out.length) ∧ W'.heap[ob]? = some (.cells #[v'] 22 (0, 0)) ∧ W'.ownsRow n1 45 5 v' (out.length + 1) (rowN (out ++ [x])) ∧ Stp (some ob) v W W' v' := by
  obtain ⟨i0, hi, hz0, hz1, hz2⟩ := info_parts infoN
  have hkl := (List.getElem?_eq_some_iff.1 hk).1
  have f1 := hP.lbc
  have f2 := hP.oc
  have f3 := hP.of 0
  have hobW : ob < W.heap.size := (Array.getElem?_eq_some_iff.1 hP.cell).1
  have hobv : some ob ≠ v.ownBlock := fun e => by have h3 : n1 ≤ ob := own_ge hP.row _ e.symm; have := o.ho; omega
  go_enter Tryd.func35, Tryd.ntmps35
  go_wp2_with (at_builtin; go_loud (refine wpList_append_own_at _ rfl _ _ 22 rfl n1 45 i0 _ 5 48 Tryd.underlying22 hi hz0 hz1 hz2 rfl (by decide) _ _ _ rfl ((hP.row.alloc _).alloc _) ⟨W.heap.size + 1, 0, none⟩ 1 1 (nodeV x) rfl rfl (cell_five_new (W.alloc (.cells (nodeV x).toArray 45)) x 45 (by simp)) (nodeV_one x) (by unfold maxLen; omega) (by omega) (by simp; have := hP.size; omega) ?_); intro v' w1 hown' hgrow hnil hat; obtain ⟨g3, cap3, rfl⟩ := own_form hown' (Nat.succ_pos _); have g0 := at_row hgrow (alloc_at (alloc_at hP.cell)) hobv; have g1 := one_cell g0; have g2 := one_free g0 0)
  go_ret
  obtain ⟨e1, e2, e3⟩ := put_end (stp_qt (qt_alloc (qt_alloc (qt_refl W) _) _)) (alloc_at (alloc_at hP.cell)) hgrow hat hobv hown'
  exact ⟨rfl, _, e1, by rw [rowN_append, rowN_one]; exact e2, e3⟩
def SwD (n0 n1 lb pb ob : Nat) (l : List Ab.Node) (lv : Value) (i : Int) (out y : List Ab.Node) : Prop := ∀ (W : World) (v : Value), PD n0 n1 lb pb ob l lv W v out →
  Calls Tryd.prog 35 #[.int .i64 i, .pointer (some ⟨lb, 0, none⟩), .pointer (some ⟨pb, 0, none⟩), .pointer (some ⟨ob, 0, none⟩)] W fun e W' => ∃ v', e = .returned (.int .i64 ((y.length : Int) - 1)) ∧ PD n0 n1 lb pb ob l lv W' v' y ∧ Stp (some ob) v W W' v'
end Go.Proofs.TrydSwap
