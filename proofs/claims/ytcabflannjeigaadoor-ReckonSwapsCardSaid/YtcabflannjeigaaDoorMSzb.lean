/-
  reckon.Swap's closure, walked at this seat's program: a node of two (minus, over).
-/
import Derived.Test.YtcabflannjeigaaDoorMSz
import Derived.Deep.DeepMust
set_option linter.unusedSimpArgs false
namespace Go.Proofs.TrydSwap
open Go Go.RowKit Ab
set_option linter.unusedVariables false

set_option maxRecDepth 100000 in
set_option maxHeartbeats 6000000 in
theorem put_node_4 (n0 n1 lb pb ob b off cap k : Nat) (o : PO n0 n1 lb pb ob) (l : List Ab.Node) (x : Ab.Node) (h3 : x.op = 4) (p q : Int) (hp : p = x.left) (hq : q = x.right) (out o1 o2 : List Ab.Node) (l1 : 0 < o1.length) (l2 : 0 < o2.length) (b1 : o1.length ≤ 1000000) (b2 : o2.length + 1 ≤ 1000000)
    (ih1 : SwD n0 n1 lb pb ob l (.slice (some ⟨b, off, none⟩) l.length cap) p out o1) (ih2 : SwD n0 n1 lb pb ob l (.slice (some ⟨b, off, none⟩) l.length cap) q o1 o2) (W : World) (v : Value) (hk : l[k]? = some x)
    (hP : PD n0 n1 lb pb ob l (.slice (some ⟨b, off, none⟩) l.length cap) W v out)
    (hc0 : W.cell? ⟨b, off + k * 5, none⟩ = some (.int .i64 x.op)) (hc1 : W.cell? ⟨b, off + k * 5 + 1, none⟩ = some (.int .i64 x.n)) (hc2 : W.cell? ⟨b, off + k * 5 + 2, none⟩ = some (.string x.name)) (hc3 : W.cell? ⟨b, off + k * 5 + 3, none⟩ = some (.int .i64 x.left)) (hc4 : W.cell? ⟨b, off + k * 5 + 4, none⟩ = some (.int .i64 x.right)) :
    Calls Tryd.prog 35 #[.int .i64 k, .pointer (some ⟨lb, 0, none⟩), .pointer (some ⟨pb, 0, none⟩), .pointer (some ⟨ob, 0, none⟩)] W fun e W' => ∃ v', e = .returned (.int .i64 o2.length) ∧ W'.heap[ob]? = some (.cells #[v'] 22 (0, 0)) ∧ W'.ownsRow n1 45 5 v' (o2.length + 1) (rowN (o2 ++ [⟨x.op, x.n, x.name, (o1.length : Int) - 1, (o2.length : Int) - 1⟩])) ∧ Stp (some ob) v W W' v' := by
  obtain ⟨i0, hi, hz0, hz1, hz2⟩ := info_parts infoN
  have hkl := (List.getElem?_eq_some_iff.1 hk).1
  obtain ⟨xo, xn, xm, xl, xr⟩ := x
  simp only at h3 hp hq hc0 hc1 hc2 hc3 hc4 ⊢
  obtain rfl := h3
  obtain rfl := hp
  obtain rfl := hq
  have f1 := hP.lbc
  have f2 := hP.pbc
  have hobW : ob < W.heap.size := (Array.getElem?_eq_some_iff.1 hP.cell).1
  have hne1 : ¬ ob = W.heap.size := by omega
  have hne2 : ¬ W.heap.size = ob := by omega
  have hn1 : n1 ≤ W.heap.size := hP.size
  have own : ∀ {v : Value} {W : World} {out : List Ab.Node}, PD n0 n1 lb pb ob l (.slice (some ⟨b, off, none⟩) l.length cap) W v out → some ob ≠ v.ownBlock := fun hP e => by have h3 : n1 ≤ ob := own_ge hP.row _ e.symm; have := o.ho; omega
  have x0 := xb_new W ⟨4, xn, xm, p, q⟩
  have hvx : some W.heap.size ≠ v.ownBlock := fun e => by have := own_lt hP.row _ e.symm; omega
  have hvx1 : ∀ {W1 : World} {v1 : Value}, Stp (some ob) v W W1 v1 → Stp (some ob) v ((W.alloc (.cells (nodeV ⟨4, xn, xm, p, q⟩).toArray 45))) W1 v1 → some W.heap.size ≠ v1.ownBlock := fun s s' e => by
    rcases s'.own with e2 | ⟨g, e2, hg⟩
    · exact hvx (e.trans e2)
    · have := Option.some.inj (e.trans e2)
      simp at hg
      omega
  have hvx2 : ∀ {X W1 : World} {v1 v2 : Value}, some W.heap.size ≠ v1.ownBlock → W.heap.size < X.heap.size → Stp (some ob) v1 X W1 v2 → some W.heap.size ≠ v2.ownBlock := fun hn hx s' e => by
    rcases s'.own with e2 | ⟨g, e2, hg⟩
    · exact hn (e.trans e2)
    · have := Option.some.inj (e.trans e2)
      omega
  have f5 : W.heap.size ≠ pb := by have := o.hp; omega
  have f6 : ¬ pb = W.heap.size := by have := o.hp; omega
  have f7 : ∀ O, (W.alloc O).cell? ⟨pb, 0, none⟩ = some (.func (.func 35) #[] #[.pointer (some ⟨lb, 0, none⟩), .pointer (some ⟨pb, 0, none⟩), .pointer (some ⟨ob, 0, none⟩)]) := fun O => (hP.qt o (qt_alloc (qt_refl W) O)).pbc
  go_enter Tryd.func35, Tryd.ntmps35
  go_wp2
  go_quiet (fail)
  have qx : ∀ nq, Qt (W.alloc (.cells (nodeV ⟨4, xn, xm, p, q⟩).toArray 45)) ((W.alloc (.cells (nodeV ⟨4, xn, xm, p, q⟩).toArray 45)).drewN nq) := fun nq => qt_drewN (qt_refl _) nq
  go_wp2_with (first
    | (go_at_call 35; refine (ih2 _ _ (hP1.set o hn1 hv1 3 (.int .i64 ((o1.length : Int) - 1)))).mono ?_; rintro e W2 ⟨v2, rfl, hP2, s2⟩; have x2 := xb_step s2 (xb_left x1 ((o1.length : Int) - 1)) (by simp only [ne_eq, Option.some.injEq]; omega) hv1; have hv2 := hvx2 hv1 (by have := (Array.getElem?_eq_some_iff.1 x1).1; have := (KeepsWalks.setCell W1 ⟨W.heap.size, 3, none⟩ (.int .i64 ((o1.length : Int) - 1))).size; omega) s2; have r4 := xb_free x2 4; have r0c := xb_cell x2 (j := 0) rfl; have r1c := xb_cell x2 (j := 1) rfl; have r2c := xb_cell x2 (j := 2) rfl; have r3c := xb_cell x2 (j := 3) rfl; have r4c := xb_cell x2 (j := 4) rfl; have r5 := hP2.oc; have r6 := hP2.of 0)
    | (go_at_call 35; go_must (refine (ih1 _ _ (hP.qt o (qt_drewN (qt_alloc (qt_refl W) _) _))).mono ?_); rintro e W1 ⟨v1, rfl, hP1, s1⟩; have x1 := xb_step s1 (show XB (World.drewN _ _) W.heap.size ⟨4, xn, xm, p, q⟩ from x0) (by simp only [ne_eq, Option.some.injEq]; omega) hvx; have hv1 := hvx2 hvx (by simp) s1; have q3 := xb_free x1 3; have q3c := xb_cell x1 (j := 3) rfl; have q4c := hP1.pbc; have q5c := fun u => (hP1.set o hn1 hv1 3 u).pbc)
    | (at_builtin; go_loud (refine wpList_append_own_at _ rfl _ _ 22 rfl n1 45 i0 _ 5 48 Tryd.underlying22 hi hz0 hz1 hz2 rfl (by decide) _ _ _ rfl ((row_set hP2.row _ _ (fun e => hv2 e.symm)).alloc _) _ 1 1 (nodeV ⟨4, xn, xm, (o1.length : Int) - 1, (o2.length : Int) - 1⟩) rfl rfl (cell_five_new _ _ 45 (by simp)) (nodeV_one _) (by unfold maxLen; omega) (by omega) (by simp; have := hP2.size; omega) ?_); intro v' w1 hown' hgrow hnil hat; obtain ⟨g3, cap3, rfl⟩ := own_form hown' (Nat.succ_pos _); have g0 := at_row hgrow (alloc_at ((Below.heap_setCell _ _ _ ob (fun e => hne1 e)).trans hP2.cell)) (own hP2); have g1 := one_cell g0; have g2 := one_free g0 0))
  go_ret
  have s01 := (stp_qt (B := some ob) (v := v) (qt_drewN (qt_alloc (qt_refl W) _) nq)).trans s1
  have s04 := stp_set (p := ⟨W.heap.size, 4, none⟩) ((stp_set (p := ⟨W.heap.size, 3, none⟩) s01 (.inl (Nat.le_refl _)) _).trans s2) (.inl (Nat.le_refl _)) (.int .i64 ((o2.length : Int) - 1))
  obtain ⟨e1, e2, e3⟩ := put_end (stp_alloc s04 _) (alloc_at ((Below.heap_setCell _ _ _ ob (fun e => hne1 e)).trans hP2.cell)) hgrow hat (own hP2) hown'
  exact ⟨_, rfl, e1, by rw [rowN_append, rowN_one]; exact e2, e3⟩
set_option maxRecDepth 100000 in
set_option maxHeartbeats 6000000 in
theorem put_node_6 (n0 n1 lb pb ob b off cap k : Nat) (o : PO n0 n1 lb pb ob) (l : List Ab.Node) (x : Ab.Node) (h3 : x.op = 6) (p q : Int) (hp : p = x.left) (hq : q = x.right) (out o1 o2 : List Ab.Node) (l1 : 0 < o1.length) (l2 : 0 < o2.length) (b1 : o1.length ≤ 1000000) (b2 : o2.length + 1 ≤ 1000000)
    (ih1 : SwD n0 n1 lb pb ob l (.slice (some ⟨b, off, none⟩) l.length cap) p out o1) (ih2 : SwD n0 n1 lb pb ob l (.slice (some ⟨b, off, none⟩) l.length cap) q o1 o2) (W : World) (v : Value) (hk : l[k]? = some x)
    (hP : PD n0 n1 lb pb ob l (.slice (some ⟨b, off, none⟩) l.length cap) W v out)
    (hc0 : W.cell? ⟨b, off + k * 5, none⟩ = some (.int .i64 x.op)) (hc1 : W.cell? ⟨b, off + k * 5 + 1, none⟩ = some (.int .i64 x.n)) (hc2 : W.cell? ⟨b, off + k * 5 + 2, none⟩ = some (.string x.name)) (hc3 : W.cell? ⟨b, off + k * 5 + 3, none⟩ = some (.int .i64 x.left)) (hc4 : W.cell? ⟨b, off + k * 5 + 4, none⟩ = some (.int .i64 x.right)) :
    Calls Tryd.prog 35 #[.int .i64 k, .pointer (some ⟨lb, 0, none⟩), .pointer (some ⟨pb, 0, none⟩), .pointer (some ⟨ob, 0, none⟩)] W fun e W' => ∃ v', e = .returned (.int .i64 o2.length) ∧ W'.heap[ob]? = some (.cells #[v'] 22 (0, 0)) ∧ W'.ownsRow n1 45 5 v' (o2.length + 1) (rowN (o2 ++ [⟨x.op, x.n, x.name, (o1.length : Int) - 1, (o2.length : Int) - 1⟩])) ∧ Stp (some ob) v W W' v' := by
  obtain ⟨i0, hi, hz0, hz1, hz2⟩ := info_parts infoN
  have hkl := (List.getElem?_eq_some_iff.1 hk).1
  obtain ⟨xo, xn, xm, xl, xr⟩ := x
  simp only at h3 hp hq hc0 hc1 hc2 hc3 hc4 ⊢
  obtain rfl := h3
  obtain rfl := hp
  obtain rfl := hq
  have f1 := hP.lbc
  have f2 := hP.pbc
  have hobW : ob < W.heap.size := (Array.getElem?_eq_some_iff.1 hP.cell).1
  have hne1 : ¬ ob = W.heap.size := by omega
  have hne2 : ¬ W.heap.size = ob := by omega
  have hn1 : n1 ≤ W.heap.size := hP.size
  have own : ∀ {v : Value} {W : World} {out : List Ab.Node}, PD n0 n1 lb pb ob l (.slice (some ⟨b, off, none⟩) l.length cap) W v out → some ob ≠ v.ownBlock := fun hP e => by have h3 : n1 ≤ ob := own_ge hP.row _ e.symm; have := o.ho; omega
  have x0 := xb_new W ⟨6, xn, xm, p, q⟩
  have hvx : some W.heap.size ≠ v.ownBlock := fun e => by have := own_lt hP.row _ e.symm; omega
  have hvx1 : ∀ {W1 : World} {v1 : Value}, Stp (some ob) v W W1 v1 → Stp (some ob) v ((W.alloc (.cells (nodeV ⟨6, xn, xm, p, q⟩).toArray 45))) W1 v1 → some W.heap.size ≠ v1.ownBlock := fun s s' e => by
    rcases s'.own with e2 | ⟨g, e2, hg⟩
    · exact hvx (e.trans e2)
    · have := Option.some.inj (e.trans e2)
      simp at hg
      omega
  have hvx2 : ∀ {X W1 : World} {v1 v2 : Value}, some W.heap.size ≠ v1.ownBlock → W.heap.size < X.heap.size → Stp (some ob) v1 X W1 v2 → some W.heap.size ≠ v2.ownBlock := fun hn hx s' e => by
    rcases s'.own with e2 | ⟨g, e2, hg⟩
    · exact hn (e.trans e2)
    · have := Option.some.inj (e.trans e2)
      omega
  have f5 : W.heap.size ≠ pb := by have := o.hp; omega
  have f6 : ¬ pb = W.heap.size := by have := o.hp; omega
  have f7 : ∀ O, (W.alloc O).cell? ⟨pb, 0, none⟩ = some (.func (.func 35) #[] #[.pointer (some ⟨lb, 0, none⟩), .pointer (some ⟨pb, 0, none⟩), .pointer (some ⟨ob, 0, none⟩)]) := fun O => (hP.qt o (qt_alloc (qt_refl W) O)).pbc
  go_enter Tryd.func35, Tryd.ntmps35
  go_wp2
  go_quiet (fail)
  have qx : ∀ nq, Qt (W.alloc (.cells (nodeV ⟨6, xn, xm, p, q⟩).toArray 45)) ((W.alloc (.cells (nodeV ⟨6, xn, xm, p, q⟩).toArray 45)).drewN nq) := fun nq => qt_drewN (qt_refl _) nq
  go_wp2_with (first
    | (go_at_call 35; refine (ih2 _ _ (hP1.set o hn1 hv1 3 (.int .i64 ((o1.length : Int) - 1)))).mono ?_; rintro e W2 ⟨v2, rfl, hP2, s2⟩; have x2 := xb_step s2 (xb_left x1 ((o1.length : Int) - 1)) (by simp only [ne_eq, Option.some.injEq]; omega) hv1; have hv2 := hvx2 hv1 (by have := (Array.getElem?_eq_some_iff.1 x1).1; have := (KeepsWalks.setCell W1 ⟨W.heap.size, 3, none⟩ (.int .i64 ((o1.length : Int) - 1))).size; omega) s2; have r4 := xb_free x2 4; have r0c := xb_cell x2 (j := 0) rfl; have r1c := xb_cell x2 (j := 1) rfl; have r2c := xb_cell x2 (j := 2) rfl; have r3c := xb_cell x2 (j := 3) rfl; have r4c := xb_cell x2 (j := 4) rfl; have r5 := hP2.oc; have r6 := hP2.of 0)
    | (go_at_call 35; go_must (refine (ih1 _ _ (hP.qt o (qt_drewN (qt_alloc (qt_refl W) _) _))).mono ?_); rintro e W1 ⟨v1, rfl, hP1, s1⟩; have x1 := xb_step s1 (show XB (World.drewN _ _) W.heap.size ⟨6, xn, xm, p, q⟩ from x0) (by simp only [ne_eq, Option.some.injEq]; omega) hvx; have hv1 := hvx2 hvx (by simp) s1; have q3 := xb_free x1 3; have q3c := xb_cell x1 (j := 3) rfl; have q4c := hP1.pbc; have q5c := fun u => (hP1.set o hn1 hv1 3 u).pbc)
    | (at_builtin; go_loud (refine wpList_append_own_at _ rfl _ _ 22 rfl n1 45 i0 _ 5 48 Tryd.underlying22 hi hz0 hz1 hz2 rfl (by decide) _ _ _ rfl ((row_set hP2.row _ _ (fun e => hv2 e.symm)).alloc _) _ 1 1 (nodeV ⟨6, xn, xm, (o1.length : Int) - 1, (o2.length : Int) - 1⟩) rfl rfl (cell_five_new _ _ 45 (by simp)) (nodeV_one _) (by unfold maxLen; omega) (by omega) (by simp; have := hP2.size; omega) ?_); intro v' w1 hown' hgrow hnil hat; obtain ⟨g3, cap3, rfl⟩ := own_form hown' (Nat.succ_pos _); have g0 := at_row hgrow (alloc_at ((Below.heap_setCell _ _ _ ob (fun e => hne1 e)).trans hP2.cell)) (own hP2); have g1 := one_cell g0; have g2 := one_free g0 0))
  go_ret
  have s01 := (stp_qt (B := some ob) (v := v) (qt_drewN (qt_alloc (qt_refl W) _) nq)).trans s1
  have s04 := stp_set (p := ⟨W.heap.size, 4, none⟩) ((stp_set (p := ⟨W.heap.size, 3, none⟩) s01 (.inl (Nat.le_refl _)) _).trans s2) (.inl (Nat.le_refl _)) (.int .i64 ((o2.length : Int) - 1))
  obtain ⟨e1, e2, e3⟩ := put_end (stp_alloc s04 _) (alloc_at ((Below.heap_setCell _ _ _ ob (fun e => hne1 e)).trans hP2.cell)) hgrow hat (own hP2) hown'
  exact ⟨_, rfl, e1, by rw [rowN_append, rowN_one]; exact e2, e3⟩
end Go.Proofs.TrydSwap
