/-
  the document's Swapped, walked at this seat's program: a node of two (minus, over).
-/
import Derived.Test.YtcabflannjeigaaDoorMSx
set_option linter.unusedSimpArgs false
namespace Go.Proofs.TrydSwap
open Go Go.RowKit Ab
set_option linter.unusedVariables false

set_option maxRecDepth 100000 in
set_option maxHeartbeats 6000000 in
theorem swapped_node_4 (n₀ b off cap k : Nat) (l : List Ab.Node) (x : Ab.Node) (h3 : 3 ≤ x.op) (p q : Int) (hpq : (x.op = 4 ∧ p = x.left ∧ q = x.right)) (out o1 o2 : List Ab.Node) (l1 : 0 < o1.length) (l2 : 0 < o2.length) (b1 : o1.length ≤ 1000000) (b2 : o2.length + 1 ≤ 1000000)
    (ih1 : SwC n₀ l (.slice (some ⟨b, off, none⟩) l.length cap) p out o1) (ih2 : SwC n₀ l (.slice (some ⟨b, off, none⟩) l.length cap) q o1 o2) (W : World) (v : Value) (hkl : k < l.length) (hrow : W.ownsRow n₀ 45 5 v out.length (rowN out)) (hN : NodesIn n₀ W (.slice (some ⟨b, off, none⟩) l.length cap) l) (hn : n₀ ≤ W.heap.size)
    (hc0 : W.cell? ⟨b, off + k * 5, none⟩ = some (.int .i64 x.op)) (hc1 : W.cell? ⟨b, off + k * 5 + 1, none⟩ = some (.int .i64 x.n)) (hc2 : W.cell? ⟨b, off + k * 5 + 2, none⟩ = some (.string x.name)) (hc3 : W.cell? ⟨b, off + k * 5 + 3, none⟩ = some (.int .i64 x.left)) (hc4 : W.cell? ⟨b, off + k * 5 + 4, none⟩ = some (.int .i64 x.right)) :
    Calls Tryd.prog 14 #[v, .slice (some ⟨b, off, none⟩) l.length cap, .int .i64 k] W fun e W' => ∃ v', e = .returned v' ∧ W'.ownsRow n₀ 45 5 v' (o2.length + 1) (rowN (o2 ++ [⟨x.op, x.n, x.name, (o1.length : Int) - 1, (o2.length : Int) - 1⟩])) ∧ Stp none v W W' v' := by
  obtain ⟨i0, hi, hz0, hz1, hz2⟩ := info_parts infoN
  obtain ⟨xo, xn, xm, xl, xr⟩ := x
  simp only at hpq hc0 hc1 hc2 hc3 hc4 h3 ⊢
  have hvlt := own_lt hrow
  have s0 : Stp none v W (W.alloc (.cells #[.int .i64 xo, .int .i64 xn, .string xm, .int .i64 xl, .int .i64 xr] 45)) v := stp_alloc (stp_refl none v W) _
  have hN1 := s0.nodes hn (fun b e => by cases e) (own_ge hrow) hN
  have hvx : some W.heap.size ≠ v.ownBlock := fun e => by have := hvlt _ e.symm; omega
  have hsz : n₀ ≤ (W.alloc (.cells #[.int .i64 xo, .int .i64 xn, .string xm, .int .i64 xl, .int .i64 xr] 45)).heap.size := by simp; omega
  have c1 := ih1 (W.alloc (.cells #[.int .i64 xo, .int .i64 xn, .string xm, .int .i64 xl, .int .i64 xr] 45)) v (hrow.alloc _) hN1 hsz
  have c2 : ∀ W1 v1, W1.ownsRow n₀ 45 5 v1 o1.length (rowN o1) → Stp none v (W.alloc (.cells #[.int .i64 xo, .int .i64 xn, .string xm, .int .i64 xl, .int .i64 xr] 45)) W1 v1 → some W.heap.size ≠ v1.ownBlock ∧
      Calls Tryd.prog 14 #[v1, .slice (some ⟨b, off, none⟩) l.length cap, .int .i64 q] (W1.setCell ⟨W.heap.size, 3, none⟩ (.int .i64 ((o1.length : Int) - 1))) fun e W' => ∃ v', e = .returned v' ∧ W'.ownsRow n₀ 45 5 v' o2.length (rowN o2) ∧ Stp none v1 (W1.setCell ⟨W.heap.size, 3, none⟩ (.int .i64 ((o1.length : Int) - 1))) W' v' ∧ some W.heap.size ≠ v'.ownBlock ∧ Stp none v W W' v' ∧ n₀ ≤ W'.heap.size := by
    intro W1 v1 hrow1 s1
    have hne : some W.heap.size ≠ v1.ownBlock := fun e => by
      rcases s1.own with e2 | ⟨g, e2, hg⟩
      · exact hvx (by rw [← e2, e])
      · rw [e2] at e
        have := Option.some.inj e
        simp at hg
        omega
    have st := stp_set (p := ⟨W.heap.size, 3, none⟩) (s0.trans s1) (.inl (Nat.le_refl _)) (.int .i64 ((o1.length : Int) - 1))
    refine ⟨hne, (ih2 _ v1 (row_set hrow1 _ _ fun e => hne e.symm) (st.nodes hn (fun b e => by cases e) (own_ge hrow) hN) (Nat.le_trans hn st.size)).mono ?_⟩
    rintro e W2 ⟨v2, rfl, hr2, s2⟩
    refine ⟨v2, rfl, hr2, s2, fun e => ?_, st.trans s2, Nat.le_trans hn (st.trans s2).size⟩
    rcases s2.own with e2 | ⟨g, e2, hg⟩
    · exact hne (by rw [← e2, e])
    · rw [e2] at e
      have := Option.some.inj e
      have h1 := s1.size
      have h2 := (KeepsWalks.setCell W1 ⟨W.heap.size, 3, none⟩ (.int .i64 ((o1.length : Int) - 1))).size
      simp at h1
      omega
  have x0 : ∀ W1 v1, Stp none v (W.alloc (.cells #[.int .i64 xo, .int .i64 xn, .string xm, .int .i64 xl, .int .i64 xr] 45)) W1 v1 → XB W1 W.heap.size ⟨xo, xn, xm, xl, xr⟩ := fun W1 v1 s1 => xb_step s1 (xb_new W ⟨xo, xn, xm, xl, xr⟩) (by simp) hvx
  obtain ⟨rfl, rfl, rfl⟩ := hpq
  · go_enter Tryd.func14, Tryd.ntmps14
    go_wp2_with (first
      | (go_at_call 14; refine c3.mono ?_; rintro e W2 ⟨v2, rfl, hrow2, s2, hne2, s3, hn2⟩; obtain ⟨g2, cap2, rfl⟩ := own_form hrow2 l2; have x2 := xb_step s2 (xb_left x1 ((o1.length : Int) - 1)) (by simp) hne1; have r4 := xb_free x2 4; have r0c := xb_cell x2 (j := 0) rfl; have r1c := xb_cell x2 (j := 1) rfl; have r2c := xb_cell x2 (j := 2) rfl; have r3c := xb_cell x2 (j := 3) rfl; have r4c := xb_cell x2 (j := 4) rfl)
      | (go_at_call 14; refine c1.mono ?_; rintro e W1 ⟨v1, rfl, hrow1, s1⟩; obtain ⟨hne1, c3⟩ := c2 W1 v1 hrow1 s1; obtain ⟨g1, cap1, rfl⟩ := own_form hrow1 l1; have x1 := x0 _ _ s1; have q3 := xb_free x1 3; have q3c := xb_cell x1 (j := 3) rfl)
      | (at_builtin; refine wpList_append_own_at _ rfl _ _ 22 rfl n₀ 45 i0 _ 5 48 Tryd.underlying22 hi hz0 hz1 hz2 rfl (by decide) _ _ _ rfl ((row_set hrow2 _ _ (fun e => hne2 e.symm)).alloc _) _ 1 1 (nodeV ⟨4, xn, xm, (o1.length : Int) - 1, (o2.length : Int) - 1⟩) rfl rfl (cell_five_new _ _ 45 (by simp)) (nodeV_one _) (by unfold maxLen; omega) (by omega) (by simp; omega) ?_; intro v' w1 hown' hgrow hnil hat))
    go_ret
    refine ⟨_, rfl, ?_, ?_⟩
    · rw [rowN_append, rowN_one]
      exact hown'
    · have z1 := stp_set (p := ⟨W.heap.size, 4, none⟩) s3 (.inl (Nat.le_refl _)) (.int .i64 ((o2.length : Int) - 1))
      have z2 := stp_grown (B := none) hgrow hat
      exact (stp_alloc z1 _).trans z2
set_option maxRecDepth 100000 in
set_option maxHeartbeats 6000000 in
theorem swapped_node_6 (n₀ b off cap k : Nat) (l : List Ab.Node) (x : Ab.Node) (h3 : 3 ≤ x.op) (p q : Int) (hpq : (x.op = 6 ∧ p = x.left ∧ q = x.right)) (out o1 o2 : List Ab.Node) (l1 : 0 < o1.length) (l2 : 0 < o2.length) (b1 : o1.length ≤ 1000000) (b2 : o2.length + 1 ≤ 1000000)
    (ih1 : SwC n₀ l (.slice (some ⟨b, off, none⟩) l.length cap) p out o1) (ih2 : SwC n₀ l (.slice (some ⟨b, off, none⟩) l.length cap) q o1 o2) (W : World) (v : Value) (hkl : k < l.length) (hrow : W.ownsRow n₀ 45 5 v out.length (rowN out)) (hN : NodesIn n₀ W (.slice (some ⟨b, off, none⟩) l.length cap) l) (hn : n₀ ≤ W.heap.size)
    (hc0 : W.cell? ⟨b, off + k * 5, none⟩ = some (.int .i64 x.op)) (hc1 : W.cell? ⟨b, off + k * 5 + 1, none⟩ = some (.int .i64 x.n)) (hc2 : W.cell? ⟨b, off + k * 5 + 2, none⟩ = some (.string x.name)) (hc3 : W.cell? ⟨b, off + k * 5 + 3, none⟩ = some (.int .i64 x.left)) (hc4 : W.cell? ⟨b, off + k * 5 + 4, none⟩ = some (.int .i64 x.right)) :
    Calls Tryd.prog 14 #[v, .slice (some ⟨b, off, none⟩) l.length cap, .int .i64 k] W fun e W' => ∃ v', e = .returned v' ∧ W'.ownsRow n₀ 45 5 v' (o2.length + 1) (rowN (o2 ++ [⟨x.op, x.n, x.name, (o1.length : Int) - 1, (o2.length : Int) - 1⟩])) ∧ Stp none v W W' v' := by
  obtain ⟨i0, hi, hz0, hz1, hz2⟩ := info_parts infoN
  obtain ⟨xo, xn, xm, xl, xr⟩ := x
  simp only at hpq hc0 hc1 hc2 hc3 hc4 h3 ⊢
  have hvlt := own_lt hrow
  have s0 : Stp none v W (W.alloc (.cells #[.int .i64 xo, .int .i64 xn, .string xm, .int .i64 xl, .int .i64 xr] 45)) v := stp_alloc (stp_refl none v W) _
  have hN1 := s0.nodes hn (fun b e => by cases e) (own_ge hrow) hN
  have hvx : some W.heap.size ≠ v.ownBlock := fun e => by have := hvlt _ e.symm; omega
  have hsz : n₀ ≤ (W.alloc (.cells #[.int .i64 xo, .int .i64 xn, .string xm, .int .i64 xl, .int .i64 xr] 45)).heap.size := by simp; omega
  have c1 := ih1 (W.alloc (.cells #[.int .i64 xo, .int .i64 xn, .string xm, .int .i64 xl, .int .i64 xr] 45)) v (hrow.alloc _) hN1 hsz
  have c2 : ∀ W1 v1, W1.ownsRow n₀ 45 5 v1 o1.length (rowN o1) → Stp none v (W.alloc (.cells #[.int .i64 xo, .int .i64 xn, .string xm, .int .i64 xl, .int .i64 xr] 45)) W1 v1 → some W.heap.size ≠ v1.ownBlock ∧
      Calls Tryd.prog 14 #[v1, .slice (some ⟨b, off, none⟩) l.length cap, .int .i64 q] (W1.setCell ⟨W.heap.size, 3, none⟩ (.int .i64 ((o1.length : Int) - 1))) fun e W' => ∃ v', e = .returned v' ∧ W'.ownsRow n₀ 45 5 v' o2.length (rowN o2) ∧ Stp none v1 (W1.setCell ⟨W.heap.size, 3, none⟩ (.int .i64 ((o1.length : Int) - 1))) W' v' ∧ some W.heap.size ≠ v'.ownBlock ∧ Stp none v W W' v' ∧ n₀ ≤ W'.heap.size := by
    intro W1 v1 hrow1 s1
    have hne : some W.heap.size ≠ v1.ownBlock := fun e => by
      rcases s1.own with e2 | ⟨g, e2, hg⟩
      · exact hvx (by rw [← e2, e])
      · rw [e2] at e
        have := Option.some.inj e
        simp at hg
        omega
    have st := stp_set (p := ⟨W.heap.size, 3, none⟩) (s0.trans s1) (.inl (Nat.le_refl _)) (.int .i64 ((o1.length : Int) - 1))
    refine ⟨hne, (ih2 _ v1 (row_set hrow1 _ _ fun e => hne e.symm) (st.nodes hn (fun b e => by cases e) (own_ge hrow) hN) (Nat.le_trans hn st.size)).mono ?_⟩
    rintro e W2 ⟨v2, rfl, hr2, s2⟩
    refine ⟨v2, rfl, hr2, s2, fun e => ?_, st.trans s2, Nat.le_trans hn (st.trans s2).size⟩
    rcases s2.own with e2 | ⟨g, e2, hg⟩
    · exact hne (by rw [← e2, e])
    · rw [e2] at e
      have := Option.some.inj e
      have h1 := s1.size
      have h2 := (KeepsWalks.setCell W1 ⟨W.heap.size, 3, none⟩ (.int .i64 ((o1.length : Int) - 1))).size
      simp at h1
      omega
  have x0 : ∀ W1 v1, Stp none v (W.alloc (.cells #[.int .i64 xo, .int .i64 xn, .string xm, .int .i64 xl, .int .i64 xr] 45)) W1 v1 → XB W1 W.heap.size ⟨xo, xn, xm, xl, xr⟩ := fun W1 v1 s1 => xb_step s1 (xb_new W ⟨xo, xn, xm, xl, xr⟩) (by simp) hvx
  obtain ⟨rfl, rfl, rfl⟩ := hpq
  · go_enter Tryd.func14, Tryd.ntmps14
    go_wp2_with (first
      | (go_at_call 14; refine c3.mono ?_; rintro e W2 ⟨v2, rfl, hrow2, s2, hne2, s3, hn2⟩; obtain ⟨g2, cap2, rfl⟩ := own_form hrow2 l2; have x2 := xb_step s2 (xb_left x1 ((o1.length : Int) - 1)) (by simp) hne1; have r4 := xb_free x2 4; have r0c := xb_cell x2 (j := 0) rfl; have r1c := xb_cell x2 (j := 1) rfl; have r2c := xb_cell x2 (j := 2) rfl; have r3c := xb_cell x2 (j := 3) rfl; have r4c := xb_cell x2 (j := 4) rfl)
      | (go_at_call 14; refine c1.mono ?_; rintro e W1 ⟨v1, rfl, hrow1, s1⟩; obtain ⟨hne1, c3⟩ := c2 W1 v1 hrow1 s1; obtain ⟨g1, cap1, rfl⟩ := own_form hrow1 l1; have x1 := x0 _ _ s1; have q3 := xb_free x1 3; have q3c := xb_cell x1 (j := 3) rfl)
      | (at_builtin; refine wpList_append_own_at _ rfl _ _ 22 rfl n₀ 45 i0 _ 5 48 Tryd.underlying22 hi hz0 hz1 hz2 rfl (by decide) _ _ _ rfl ((row_set hrow2 _ _ (fun e => hne2 e.symm)).alloc _) _ 1 1 (nodeV ⟨6, xn, xm, (o1.length : Int) - 1, (o2.length : Int) - 1⟩) rfl rfl (cell_five_new _ _ 45 (by simp)) (nodeV_one _) (by unfold maxLen; omega) (by omega) (by simp; omega) ?_; intro v' w1 hown' hgrow hnil hat))
    go_ret
    refine ⟨_, rfl, ?_, ?_⟩
    · rw [rowN_append, rowN_one]
      exact hown'
    · have z1 := stp_set (p := ⟨W.heap.size, 4, none⟩) s3 (.inl (Nat.le_refl _)) (.int .i64 ((o2.length : Int) - 1))
      have z2 := stp_grown (B := none) hgrow hat
      exact (stp_alloc z1 _).trans z2
end Go.Proofs.TrydSwap
