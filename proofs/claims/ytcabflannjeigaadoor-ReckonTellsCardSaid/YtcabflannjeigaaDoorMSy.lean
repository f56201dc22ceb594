/-
  the document's Swapped, walked at this seat's program: any node.
-/
import Derived.Test.YtcabflannjeigaaDoorMSya
import Derived.Test.YtcabflannjeigaaDoorMSyb
set_option linter.unusedSimpArgs false
namespace Go.Proofs.TrydSwap
open Go Go.RowKit Ab
set_option linter.unusedVariables false

theorem swapped_node (n₀ b off cap k : Nat) (l : List Ab.Node) (x : Ab.Node) (h3 : 3 ≤ x.op) (p q : Int) (h6 : x.op ≤ 6) (hpq : (x.op = 3 ∧ p = x.right ∧ q = x.left) ∨ (x.op = 5 ∧ p = x.right ∧ q = x.left) ∨ (x.op ≠ 3 ∧ x.op ≠ 5 ∧ p = x.left ∧ q = x.right)) (out o1 o2 : List Ab.Node) (l1 : 0 < o1.length) (l2 : 0 < o2.length) (b1 : o1.length ≤ 1000000) (b2 : o2.length + 1 ≤ 1000000)
    (ih1 : SwC n₀ l (.slice (some ⟨b, off, none⟩) l.length cap) p out o1) (ih2 : SwC n₀ l (.slice (some ⟨b, off, none⟩) l.length cap) q o1 o2) (W : World) (v : Value) (hkl : k < l.length) (hrow : W.ownsRow n₀ 45 5 v out.length (rowN out)) (hN : NodesIn n₀ W (.slice (some ⟨b, off, none⟩) l.length cap) l) (hn : n₀ ≤ W.heap.size)
    (hc0 : W.cell? ⟨b, off + k * 5, none⟩ = some (.int .i64 x.op)) (hc1 : W.cell? ⟨b, off + k * 5 + 1, none⟩ = some (.int .i64 x.n)) (hc2 : W.cell? ⟨b, off + k * 5 + 2, none⟩ = some (.string x.name)) (hc3 : W.cell? ⟨b, off + k * 5 + 3, none⟩ = some (.int .i64 x.left)) (hc4 : W.cell? ⟨b, off + k * 5 + 4, none⟩ = some (.int .i64 x.right)) :
    Calls Tryd.prog 14 #[v, .slice (some ⟨b, off, none⟩) l.length cap, .int .i64 k] W fun e W' => ∃ v', e = .returned v' ∧ W'.ownsRow n₀ 45 5 v' (o2.length + 1) (rowN (o2 ++ [⟨x.op, x.n, x.name, (o1.length : Int) - 1, (o2.length : Int) - 1⟩])) ∧ Stp none v W W' v' := by
  rcases hpq with h | h | ⟨h1, h2, h⟩
  · exact swapped_node_3 n₀ b off cap k l x h3 p q h out o1 o2 l1 l2 b1 b2 ih1 ih2 W v hkl hrow hN hn hc0 hc1 hc2 hc3 hc4
  · exact swapped_node_5 n₀ b off cap k l x h3 p q h out o1 o2 l1 l2 b1 b2 ih1 ih2 W v hkl hrow hN hn hc0 hc1 hc2 hc3 hc4
  · by_cases h4 : x.op = 4
    · exact swapped_node_4 n₀ b off cap k l x h3 p q ⟨h4, h⟩ out o1 o2 l1 l2 b1 b2 ih1 ih2 W v hkl hrow hN hn hc0 hc1 hc2 hc3 hc4
    · exact swapped_node_6 n₀ b off cap k l x h3 p q ⟨by omega, h⟩ out o1 o2 l1 l2 b1 b2 ih1 ih2 W v hkl hrow hN hn hc0 hc1 hc2 hc3 hc4
theorem swapped_calls (n₀ : Nat) (l : List Ab.Node) (lv : Value) : ∀ (f : Nat) (i : Int) (out y : List Ab.Node), swN l f i out = some y → y.length ≤ 1000000 → SwC n₀ l lv i out y := by
  intro f
  induction f with
  | zero => intro i out y h; cases h
  | succ f ih =>
    intro i out y h hy W v hrow hN0 hn
    have hN := hN0
    simp only [swN] at h
    cases hx : lookI l i with
    | none => rw [hx] at h; cases h
    | some x =>
      rw [hx] at h
      simp only at h
      obtain ⟨k, rfl, hk⟩ : ∃ k : Nat, i = (k : Int) ∧ l[k]? = some x := by
        unfold lookI at hx
        split at hx
        · exact ⟨i.toNat, by omega, hx⟩
        · cases hx
      have hkl := (List.getElem?_eq_some_iff.1 hk).1
      rcases hN with ⟨a, cap, _, rfl⟩ | ⟨b, off, cap, rfl, hb, hc⟩
      · simp at hkl
      have hc0 := hc k x hk 0 _ rfl
      have hc1 := hc k x hk 1 _ rfl
      have hc2 := hc k x hk 2 _ rfl
      have hc3 := hc k x hk 3 _ rfl
      have hc4 := hc k x hk 4 _ rfl
      simp only [Nat.add_zero] at hc0
      by_cases h3 : 3 ≤ x.op
      · rw [if_pos h3] at h
        have h6 : x.op ≤ 6 := Decidable.byContradiction fun h6 => by rw [if_neg h6] at h; cases h
        rw [if_pos h6] at h
        split at h
        · cases h
        rename_i o1 h1
        split at h
        · cases h
        rename_i o2 h2
        cases h
        have l1 := swN_lt _ _ _ _ h1
        have l2 := swN_lt _ _ _ _ h2
        simp only [List.length_append, List.length_cons, List.length_nil] at hy
        have := swapped_node n₀ b off cap k l x h3 (if x.op = 3 ∨ x.op = 5 then x.right else x.left) (if x.op = 3 ∨ x.op = 5 then x.left else x.right) h6 (by
          by_cases e3 : x.op = 3
          · simp [e3]
          · by_cases e5 : x.op = 5
            · simp [e5]
            · simp [e3, e5]) out o1 o2 (by omega) (by omega) (by omega) (by omega) (ih _ _ _ h1 (by omega)) (ih _ _ _ h2 (by omega)) W v hkl hrow hN0 hn hc0 hc1 hc2 hc3 hc4
        simpa using this
      · rw [if_neg h3] at h
        cases h
        simp only [List.length_append, List.length_cons, List.length_nil] at hy
        have := swapped_leaf n₀ b off cap l.length k x h3 out W v hkl (by omega) hrow hn hc0 hc1 hc2 hc3 hc4
        simpa using this
end Go.Proofs.TrydSwap
