/-
  reckon.Swap, and the document's Swapped of nil, as functions of the abstract machine: what they come to.
-/
import Derived.Test.YtchidgkpkhloeaaDoorB2
import Derived.Laws.AppendOwn
namespace Ab
open Go Go.RowKit
set_option linter.unusedVariables false
set_option linter.unusedSimpArgs false

def nodeV (x : Node) : List Value := [.int .i64 x.op, .int .i64 x.n, .string x.name, .int .i64 x.left, .int .i64 x.right]
def rowN (l : List Node) : List Value := l.flatMap nodeV
theorem rowN_append (a b : List Node) : rowN (a ++ b) = rowN a ++ rowN b := by simp [rowN]
theorem rowN_one (x : Node) : rowN [x] = nodeV x := by simp [rowN]
theorem nodeV_one (x : Node) : ∀ u ∈ nodeV x, u.oneCell' = true := by
  intro u hu
  simp only [nodeV, List.mem_cons, List.not_mem_nil, or_false] at hu
  rcases hu with rfl | rfl | rfl | rfl | rfl <;> rfl
/-- A slice value's nodes. -/
def NodesIn (n : Nat) (w : World) (lv : Value) (l : List Node) : Prop :=
  (∃ a cap, lv = .slice a 0 cap ∧ l = []) ∨ ∃ b off cap, lv = .slice (some ⟨b, off, none⟩) l.length cap ∧ b < n ∧ ∀ (i : Nat) (x : Node), l[i]? = some x → ∀ j u, (nodeV x)[j]? = some u → w.cell? ⟨b, off + i * 5 + j, none⟩ = some u
/-- A step of a walk that writes a box and a row of its own. -/
structure Stp (B : Option Nat) (v : Value) (W W' : World) (v' : Value) : Prop where
  os : W'.os = W.os
  tape : W'.tape = W.tape
  output : W'.output = W.output
  size : W.heap.size ≤ W'.heap.size
  block : ∀ k, k < W.heap.size → some k ≠ B → some k ≠ v.ownBlock → W'.heap[k]? = W.heap[k]?
  own : v'.ownBlock = v.ownBlock ∨ ∃ g, v'.ownBlock = some g ∧ W.heap.size ≤ g
theorem Stp.trans {B : Option Nat} {v v1 v2 : Value} {W W1 W2 : World} (h : Stp B v W W1 v1) (k : Stp B v1 W1 W2 v2) : Stp B v W W2 v2 :=
  ⟨k.os.trans h.os, k.tape.trans h.tape, k.output.trans h.output, Nat.le_trans h.size k.size,
    fun i hi hB hv => (k.block i (Nat.lt_of_lt_of_le hi h.size) hB (by
      rcases h.own with e | ⟨g, e, hg⟩
      · rw [e]; exact hv
      · rw [e]; intro e2; have := Option.some.inj e2; omega)).trans (h.block i hi hB hv),
    by
      rcases k.own with e | ⟨g, e, hg⟩
      · rw [e]; exact h.own
      · exact .inr ⟨g, e, Nat.le_trans h.size hg⟩⟩
theorem Stp.cell {B : Option Nat} {v v' : Value} {W W' : World} (h : Stp B v W W' v') {p : Addr} (hp : p.block < W.heap.size) (hB : some p.block ≠ B) (hv : some p.block ≠ v.ownBlock) : W'.cell? p = W.cell? p := by
  unfold World.cell?
  rw [h.block _ hp hB hv]
theorem Stp.nodes {B : Option Nat} {v v' : Value} {W W' : World} (h : Stp B v W W' v') {n : Nat} (hn : n ≤ W.heap.size) (hB : ∀ b, B = some b → n ≤ b) (hv : ∀ b, v.ownBlock = some b → n ≤ b) {lv : Value} {l : List Node} : NodesIn n W lv l → NodesIn n W' lv l
  | .inl e => .inl e
  | .inr ⟨b, off, cap, e, hb, hc⟩ => .inr ⟨b, off, cap, e, hb, fun i x hx j u hu => (h.cell (p := ⟨b, off + i * 5 + j, none⟩) (by show b < _; omega) (fun e => by have := hB b e.symm; omega) (fun e => by have := hv b e.symm; omega)).trans (hc i x hx j u hu)⟩
theorem own_ge {W : World} {base e size n : Nat} {v : Value} {xs : List Value} (h : W.ownsRow base e size v n xs) : ∀ b, v.ownBlock = some b → base ≤ b := by
  intro b hb
  rcases h.2 with ⟨rfl, _⟩ | ⟨g, cap, cur, rfl, hg, _⟩
  · cases hb
  · cases hb; exact hg
/-- A slice value that is new: its nodes. -/
def NodesNew (n : Nat) (w : World) (v : Value) (l : List Node) : Prop :=
  (v = .slice none 0 0 ∧ l = []) ∨ ∃ b cap, v = .slice (some ⟨b, 0, none⟩) l.length cap ∧ n ≤ b ∧ b < w.heap.size ∧ l.length ≤ cap ∧ ∀ (i : Nat) (x : Node), l[i]? = some x → ∀ j u, (nodeV x)[j]? = some u → w.cell? ⟨b, i * 5 + j, none⟩ = some u
theorem nodeV_cs (x : Node) (j : Nat) (u : Value) (h : (nodeV x)[j]? = some u) : (Node.cs x)[j]? = some (.v u) := by
  match j, h with
  | 0, h => cases h; rfl
  | 1, h => cases h; rfl
  | 2, h => cases h; rfl
  | 3, h => cases h; rfl
  | 4, h => cases h; rfl
  | j + 5, h => simp [nodeV] at h
theorem cs_nodeV (x : Node) (j : Nat) (u : AV) (h : (Node.cs x)[j]? = some u) : ∃ r, (nodeV x)[j]? = some r ∧ u = .v r := by
  match j, h with
  | 0, h => cases h; exact ⟨_, rfl, rfl⟩
  | 1, h => cases h; exact ⟨_, rfl, rfl⟩
  | 2, h => cases h; exact ⟨_, rfl, rfl⟩
  | 3, h => cases h; exact ⟨_, rfl, rfl⟩
  | 4, h => cases h; exact ⟨_, rfl, rfl⟩
  | j + 5, h => simp [Node.cs] at h
theorem nodes_of {S : Seat} {A : Nat → Prop} {w : World} {n : Nat} {l : List Node} {v : Value} (hA : ∀ b, A b → b < n) (h : VR0 S A w (.sl 5 (l.map Node.cs)) v) : NodesIn n w v l := by
  generalize hes : l.map Node.cs = es at h
  cases h with
  | sl hb hlen hz hcell hone hval =>
    rename_i b o cap u
    have el : es.length = l.length := by rw [← hes]; simp
    rw [el] at hlen hcell ⊢
    refine .inr ⟨b, o, cap, rfl, hA _ hb, fun i x hx j r hr => ?_⟩
    have hi := (List.getElem?_eq_some_iff.1 hx).1
    have hj : j < 5 := by have := (List.getElem?_eq_some_iff.1 hr).1; simpa [nodeV] using this
    have h1 := hcell (i * 5 + j) (by omega)
    rw [Nat.add_assoc, h1]
    have := hval i (Node.cs x) j (.v r) (by rw [← hes]; simp [hx]) (nodeV_cs x j r hr)
    rw [VR.v_inv (σ := fun _ => none) (.of0 this)]
  | slnil _ => exact .inl ⟨none, 0, rfl, by cases l with | nil => rfl | cons a r => simp at hes⟩
  | slemp _ a cap => exact .inl ⟨some a, cap, rfl, by cases l with | nil => rfl | cons a r => simp at hes⟩
theorem nodes_back {S : Seat} {A : Nat → Prop} {w : World} {n : Nat} {l : List Node} {v : Value} (hA : ∀ b, n ≤ b → b < w.heap.size → A b) (h : NodesNew n w v l) : VR0 S A w (.sl 5 (l.map Node.cs)) v := by
  rcases h with ⟨rfl, rfl⟩ | ⟨b, cap, rfl, hn, hb, hcap, hc⟩
  · exact .slnil _
  · have e : (l.map Node.cs).length = l.length := by simp
    have hx : ∀ j, j < l.length * 5 → ∃ x : Node, ∃ u, l[j / 5]? = some x ∧ (nodeV x)[j % 5]? = some u ∧ w.cell? ⟨b, 0 + j, none⟩ = some u := fun j hj => by
      have h1 : j / 5 < l.length := by omega
      have h2 : j % 5 < (nodeV l[j / 5]).length := by simp [nodeV]; omega
      refine ⟨l[j / 5], (nodeV l[j / 5])[j % 5], by simp [h1], by simp [h2], ?_⟩
      have := hc (j / 5) l[j / 5] (by simp [h1]) (j % 5) _ (by rw [List.getElem?_eq_getElem h2])
      rw [show 0 + j = j / 5 * 5 + j % 5 by omega]
      exact this
    rw [← e]
    refine .sl (u := fun j => (w.cell? ⟨b, 0 + j, none⟩).getD undef) (hA b hn hb) (by rw [e]; exact hcap) (by intro q hq; obtain ⟨x, _, rfl⟩ := List.mem_map.1 hq; rfl) (fun j hj => ?_) (fun j hj => ?_) fun i q c x hi hq => ?_
    · obtain ⟨x, u, _, _, h3⟩ := hx j (by rw [e] at hj; exact hj)
      simp only [h3, Option.getD_some]
    · obtain ⟨x, u, _, h2, h3⟩ := hx j (by rw [e] at hj; exact hj)
      simp only [h3, Option.getD_some]
      exact nodeV_one x u (List.mem_of_getElem? h2)
    · simp only [List.getElem?_map, Option.map_eq_some_iff] at hi
      obtain ⟨y, hy, rfl⟩ := hi
      obtain ⟨r, hr, rfl⟩ := cs_nodeV y c x hq
      have := hc i y hy c r hr
      simp only [Nat.zero_add, this, Option.getD_some]
      exact .v _
end Ab
