/-
  reckon.Swap and the document's Swapped, walked at this seat's program.
-/
import Derived.Test.YtcabflannjeigaaDoorProg
import Derived.Test.YtcabflannjeigaaDoorMSu
import Derived.WalkKit
import Derived.Maps.AppendAt
import Derived.OwnWalk
import Derived.RangeFuncBox
import Derived.KernelRfl
namespace Go.Proofs.TrydSwap
open Go Go.RowKit Ab
set_option linter.unusedVariables false

theorem infoN : (Tryd.prog.info? 45).map (fun i => (i.zero, i.size, i.bytes)) = some (some (.agg #[.int .i64 0, .int .i64 0, .string ⟨#[]⟩, .int .i64 0, .int .i64 0]), 5, 48) := by kernel_rfl

theorem cell_five_new (w : World) (x : Ab.Node) (T : TypeId) {g : Nat} (hg : g = w.heap.size) : ∀ j u, (nodeV x)[j]? = some u → (w.alloc (.cells (nodeV x).toArray T)).cell? ((⟨g, 0, none⟩ : Addr).add j) = some u := by
  intro j u hj
  subst hg
  have h := World.alloc_heap_new w (.cells (nodeV x).toArray T)
  rw [Addr.add_lit]
  simp only [World.cell?, h]
  simpa using hj

section
variable {B : Option Nat} {v : Value} {W X : World}
theorem stp_alloc {v' : Value} (h : Stp B v W X v') (o : Obj) : Stp B v W (X.alloc o) v' :=
  ⟨h.os, h.tape, h.output, by have := h.size; simp; omega, fun k hk h1 h2 => by
    have := h.size
    rw [← h.block k hk h1 h2]
    simp [World.alloc, -World.alloc_eq, Array.getElem?_push, Nat.ne_of_lt (Nat.lt_of_lt_of_le hk this)], h.own⟩
theorem stp_set {v' : Value} (h : Stp B v W X v') {p : Addr} (hp : W.heap.size ≤ p.block ∨ some p.block = B) (u : Value) : Stp B v W (X.setCell p u) v' :=
  ⟨h.os, h.tape, h.output, Nat.le_trans h.size (KeepsWalks.setCell X p u).size, fun k hk h1 h2 => by
    rw [← h.block k hk h1 h2]
    refine Below.heap_setCell _ _ _ k fun e => ?_
    rcases hp with hp | hp
    · omega
    · exact h1 (by rw [← hp, e]), h.own⟩
theorem stp_grown {v' : Value} {w1 : World} (hg : X.grownBy w1 v.ownBlock) (hat : v'.ownBlock = v.ownBlock ∨ v'.ownBlock = some X.heap.size) : Stp B v X w1 v' :=
  ⟨hg.os, hg.tape, hg.output, hg.size, fun k hk _ h2 => hg.block k hk h2, hat.imp id fun e => ⟨_, e, Nat.le_refl _⟩⟩
end
def XB (W : World) (bx : Nat) (x : Ab.Node) : Prop := W.heap[bx]? = some (.cells (nodeV x).toArray 45 (0, 0))
theorem xb_new (W : World) (x : Ab.Node) : XB (W.alloc (.cells (nodeV x).toArray 45)) W.heap.size x := World.alloc_heap_new W _
theorem xb_cell {W : World} {bx : Nat} {x : Ab.Node} (h : XB W bx x) {j : Nat} {u : Value} (hj : (nodeV x)[j]? = some u) : W.cell? ⟨bx, j, none⟩ = some u := by
  unfold XB at h
  simp [World.cell?, h, hj]
theorem xb_free {W : World} {bx : Nat} {x : Ab.Node} (h : XB W bx x) (j : Nat) : W.frozen? ⟨bx, j, none⟩ = false := by
  unfold XB at h
  simp [World.frozen?, h]
theorem xb_left {W : World} {bx : Nat} {x : Ab.Node} (h : XB W bx x) (n : Int) : XB (W.setCell ⟨bx, 3, none⟩ (.int .i64 n)) bx { x with left := n } := by
  unfold XB at h ⊢
  simp only [World.setCell, Array.getElem?_modify, if_true, h, Option.map_some]
  rfl
theorem xb_step {B : Option Nat} {v v' : Value} {W X : World} (h : Stp B v W X v') {bx : Nat} {x : Ab.Node} (hx : XB W bx x) (hB : some bx ≠ B) (hv : some bx ≠ v.ownBlock) : XB X bx x :=
  (h.block bx (Array.getElem?_eq_some_iff.1 hx).1 hB hv).trans hx
theorem own_lt {W : World} {base e size n : Nat} {v : Value} {xs : List Value} (h : W.ownsRow base e size v n xs) : ∀ b, v.ownBlock = some b → b < W.heap.size := by
  intro b hb
  rcases h.2 with ⟨rfl, _⟩ | ⟨g, cap, cur, rfl, _, hg, _⟩
  · cases hb
  · cases hb; exact (Array.getElem?_eq_some_iff.1 hg).1
theorem own_form {W : World} {base e size n : Nat} {v : Value} {xs : List Value} (h : W.ownsRow base e size v n xs) (hn : 0 < n) : ∃ g cap, v = .slice (some ⟨g, 0, none⟩) n cap := by
  rcases h.2 with ⟨_, h0⟩ | ⟨g, cap, _, rfl, _⟩
  · omega
  · exact ⟨g, cap, rfl⟩
theorem row_set {W : World} {base e size n : Nat} {v : Value} {xs : List Value} (h : W.ownsRow base e size v n xs) (p : Addr) (u : Value) (hp : v.ownBlock ≠ some p.block) : (W.setCell p u).ownsRow base e size v n xs :=
  h.kept (row := some p.block) ⟨rfl, rfl, rfl, (KeepsWalks.setCell W p u).size, fun k _ hk => Below.heap_setCell _ _ _ k fun e => hk (by rw [e])⟩ (.inr hp)

end Go.Proofs.TrydSwap
