/-
  reckon.Swap, walked at this seat's program.
-/
import Derived.Test.YtcabflannjeigaaDoorMSza
import Derived.Test.YtcabflannjeigaaDoorMSzb
import Derived.Test.YtcabflannjeigaaDoorMSr
import Derived.Laws.EntriesVeiled
set_option linter.unusedSimpArgs false
namespace Go.Proofs.TrydSwap
open Go Go.RowKit Ab
set_option linter.unusedVariables false

theorem put_calls (n0 n1 lb pb ob : Nat) (o : PO n0 n1 lb pb ob) (l : List Ab.Node) (lv : Value) : ∀ (f : Nat) (i : Int) (out y : List Ab.Node), swN l f i out = some y → y.length ≤ 1000000 → SwD n0 n1 lb pb ob l lv i out y := by
  intro f
  induction f with
  | zero => intro i out y h; cases h
  | succ f ih =>
    intro i out y h hy W v hP
    simp only [swN] at h
    cases hx : lookI l i with
    | none => rw [hx] at h; cases h
    | some x =>
      rw [hx] at h
      simp only at h
      obtain ⟨k, rfl, hk⟩ : ∃ k : Nat, i = (k : Int) ∧ l[k]? = some x := by
        unfold lookI at hx
        split at hx
        · exact ⟨i.toNat, by omega, hx⟩
        · cases hx
      have hkl := (List.getElem?_eq_some_iff.1 hk).1
      rcases hP.nodes with ⟨a, cap, _, rfl⟩ | ⟨b, off, cap, rfl, hb, hc⟩
      · simp at hkl
      have hc0 := hc k x hk 0 _ rfl
      have hc1 := hc k x hk 1 _ rfl
      have hc2 := hc k x hk 2 _ rfl
      have hc3 := hc k x hk 3 _ rfl
      have hc4 := hc k x hk 4 _ rfl
      simp only [Nat.add_zero] at hc0
      by_cases h3 : 3 ≤ x.op
      · rw [if_pos h3] at h
        have h6 : x.op ≤ 6 := Decidable.byContradiction fun h6 => by rw [if_neg h6] at h; cases h
        rw [if_pos h6] at h
        split at h
        · cases h
        rename_i o1 h1
        split at h
        · cases h
        rename_i o2 h2
        cases h
        have l1 := swN_lt _ _ _ _ h1
        have l2 := swN_lt _ _ _ _ h2
        simp only [List.length_append, List.length_cons, List.length_nil] at hy
        have fin : ∀ {e W'}, (∃ v', e = Ending.returned (.int .i64 o2.length) ∧ W'.heap[ob]? = some (.cells #[v'] 22 (0, 0)) ∧ W'.ownsRow n1 45 5 v' (o2.length + 1) (rowN (o2 ++ [⟨x.op, x.n, x.name, (o1.length : Int) - 1, (o2.length : Int) - 1⟩])) ∧ Stp (some ob) v W W' v') →
            ∃ v', e = .returned (.int .i64 (((o2 ++ [(⟨x.op, x.n, x.name, (o1.length : Int) - 1, (o2.length : Int) - 1⟩ : Ab.Node)]).length : Int) - 1)) ∧ PD n0 n1 lb pb ob l (.slice (some ⟨b, off, none⟩) l.length cap) W' v' (o2 ++ [⟨x.op, x.n, x.name, (o1.length : Int) - 1, (o2.length : Int) - 1⟩]) ∧ Stp (some ob) v W W' v' := by
          rintro e W' ⟨v', rfl, e1, e2, e3⟩
          exact ⟨v', by simp, hP.step o e3 e1 (by simpa using e2), e3⟩
        by_cases a3 : x.op = 3
        · simp only [a3, true_or, if_true] at h1 h2
          exact (put_node_3 n0 n1 lb pb ob b off cap k o l x a3 _ _ rfl rfl out o1 o2 (by omega) (by omega) (by omega) (by omega) (ih _ _ _ h1 (by omega)) (ih _ _ _ h2 (by omega)) W v hk hP hc0 hc1 hc2 hc3 hc4).mono fun _ _ => fin
        by_cases a5 : x.op = 5
        · simp only [a5, or_true, if_true] at h1 h2
          exact (put_node_5 n0 n1 lb pb ob b off cap k o l x a5 _ _ rfl rfl out o1 o2 (by omega) (by omega) (by omega) (by omega) (ih _ _ _ h1 (by omega)) (ih _ _ _ h2 (by omega)) W v hk hP hc0 hc1 hc2 hc3 hc4).mono fun _ _ => fin
        rw [if_neg (by omega)] at h1 h2
        by_cases a4 : x.op = 4
        · exact (put_node_4 n0 n1 lb pb ob b off cap k o l x a4 _ _ rfl rfl out o1 o2 (by omega) (by omega) (by omega) (by omega) (ih _ _ _ h1 (by omega)) (ih _ _ _ h2 (by omega)) W v hk hP hc0 hc1 hc2 hc3 hc4).mono fun _ _ => fin
        · exact (put_node_6 n0 n1 lb pb ob b off cap k o l x (by omega) _ _ rfl rfl out o1 o2 (by omega) (by omega) (by omega) (by omega) (ih _ _ _ h1 (by omega)) (ih _ _ _ h2 (by omega)) W v hk hP hc0 hc1 hc2 hc3 hc4).mono fun _ _ => fin
      · rw [if_neg h3] at h
        cases h
        simp only [List.length_append, List.length_cons, List.length_nil] at hy
        refine (put_leaf n0 n1 lb pb ob b off cap k o l x h3 out W v hk (by omega) hP hc0 hc1 hc2 hc3 hc4).mono ?_
        rintro e W' ⟨v', rfl, e1, e2, e3⟩
        exact ⟨v', by simp, hP.step o e3 e1 (by simpa using e2), e3⟩
theorem qt_keepO {W X Y : World} (h : Qt W X) (k : KeepO (fun _ => False) X Y) : Qt W Y :=
  ⟨k.os.trans h.os, k.tape.trans h.tape, k.output.trans h.output, Nat.le_trans h.size k.size, fun i hi => (k.block i (Nat.lt_of_lt_of_le hi h.size) (fun e => e)).trans (h.block i hi)⟩
theorem nodes_mono {n : Nat} {W X : World} {lv : Value} {l : List Ab.Node} (h : NodesIn n W lv l) (hn : n ≤ W.heap.size) (q : Qt W X) : NodesIn n X lv l := by
  rcases h with e | ⟨b, off, cap, e, hb, hc⟩
  · exact .inl e
  · exact .inr ⟨b, off, cap, e, hb, fun i x hx j u hu => (World.cell?_of_block (a := ⟨b, _, none⟩) (q.block b (by omega))).trans (hc i x hx j u hu)⟩
theorem base_mono {W : World} {n m e s k : Nat} {v : Value} {xs : List Value} (h : W.ownsRow n e s v k xs) (hm : m ≤ n) : W.ownsRow m e s v k xs := by
  refine ⟨h.1, ?_⟩
  rcases h.2 with h | ⟨g, cap, cur, h1, h2, r⟩
  · exact .inl h
  · exact .inr ⟨g, cap, cur, h1, Nat.le_trans hm h2, r⟩
theorem newest (X : World) : ((X.alloc (.cells #[.slice none 0 0] 22)).alloc (.cells #[.nilFunc] 67)).heap[X.heap.size + 1]? = some (.cells #[.nilFunc] 67 (0, 0)) := by
  have h := World.alloc_heap_new (X.alloc (.cells #[.slice none 0 0] 22)) (.cells #[.nilFunc] 67)
  simpa using h

set_option maxRecDepth 100000 in
set_option maxHeartbeats 6000000 in
theorem swap_ok (l : List Ab.Node) (y : List Ab.Node) (b off cap : Nat) (W : World) (hN : NodesIn W.heap.size W (.slice (some ⟨b, off, none⟩) l.length cap) l) (h0 : 0 < l.length) (h1 : l.length ≤ 1000000) (h : swN l l.length ((l.length : Int) - 1) [] = some y) (hy : y.length ≤ 1000000)
    (hck : Calls Tryd.prog 22 #[.slice (some ⟨b, off, none⟩) l.length cap] (W.alloc (.cells #[.slice (some ⟨b, off, none⟩) l.length cap] 22)) fun e w' => e = .returned .nilIface ∧ KeepO (fun _ => False) (W.alloc (.cells #[.slice (some ⟨b, off, none⟩) l.length cap] 22)) w') :
    Calls Tryd.prog 15 #[.slice (some ⟨b, off, none⟩) l.length cap] W fun e W' => ∃ v, e = .returned (.tuple #[v, .nilIface]) ∧ W'.ownsRow W.heap.size 45 5 v y.length (rowN y) ∧ Qt W W' := by
  have hmf : ∀ (fn : Fn) (first cap : Array Value) (w : World), (Instr.makeFunc fn first cap).run Tryd.prog w = .ok (.func fn first cap) w := fun _ _ _ _ => rfl
  have lbX : ∀ {X : World}, KeepO (fun _ => False) (W.alloc (.cells #[.slice (some ⟨b, off, none⟩) l.length cap] 22)) X → ∀ O1 O2, ((X.alloc O1).alloc O2).cell? ⟨W.heap.size, 0, none⟩ = some (.slice (some ⟨b, off, none⟩) l.length cap) := fun {X} kX O1 O2 => by
    have h1 : (W.alloc (.cells #[.slice (some ⟨b, off, none⟩) l.length cap] 22)).heap[W.heap.size]? = some (.cells #[.slice (some ⟨b, off, none⟩) l.length cap] 22 (0, 0)) := World.alloc_heap_new W _
    have h2 := (kX.block W.heap.size (by simp) (fun e => e)).trans h1
    exact one_cell (alloc_at (alloc_at h2))
  have szX : ∀ {X : World}, KeepO (fun _ => False) (W.alloc (.cells #[.slice (some ⟨b, off, none⟩) l.length cap] 22)) X → W.heap.size < X.heap.size := fun kX => by have := kX.size; simp at this; omega
  have pd : ∀ {X : World}, KeepO (fun _ => False) (W.alloc (.cells #[.slice (some ⟨b, off, none⟩) l.length cap] 22)) X → PO W.heap.size (X.heap.size + 2) W.heap.size (X.heap.size + 1) X.heap.size ∧
      PD W.heap.size (X.heap.size + 2) W.heap.size (X.heap.size + 1) X.heap.size l (.slice (some ⟨b, off, none⟩) l.length cap) ((X.alloc (.cells #[.slice none 0 0] 22)).alloc (.cells #[.func (.func 35) #[] #[.pointer (some ⟨W.heap.size, 0, none⟩), .pointer (some ⟨X.heap.size + 1, 0, none⟩), .pointer (some ⟨X.heap.size, 0, none⟩)]] 67)) (.slice none 0 0) [] := fun {X} kX => by
    have hs := szX kX
    refine ⟨⟨by omega, by omega, by omega, by omega, by omega, by omega⟩, alloc_at (World.alloc_heap_new X _), ⟨rfl, .inl ⟨rfl, rfl⟩⟩, nodes_mono hN (Nat.le_refl _) (qt_alloc (qt_alloc (qt_keepO (qt_alloc (qt_refl W) _) kX) _) _), lbX kX _ _, ?_, by simp⟩
    have h := World.alloc_heap_new (X.alloc (.cells #[.slice none 0 0] 22)) (.cells #[.func (.func 35) #[] #[.pointer (some ⟨W.heap.size, 0, none⟩), .pointer (some ⟨X.heap.size + 1, 0, none⟩), .pointer (some ⟨X.heap.size, 0, none⟩)]] 67)
    exact one_cell (by simpa using h)
  go_enter Tryd.func15, Tryd.ntmps15
  go_wp2_with (first
    | (go_at_call 22; refine hck.mono ?_; rintro e X ⟨rfl, kX⟩; have p0 := newest X; have p1 := one_cell p0; have p2 := one_free p0 0; have p3 := lbX kX)
    | (go_at_call 35; go_must (refine (put_calls _ _ _ _ _ (pd kX).1 l _ l.length _ [] y h hy _ _ (pd kX).2).mono ?_); rintro e Z ⟨v', rfl, hPZ, sZ⟩; have z1 := hPZ.oc; have z2 := hPZ.of 0))
  go_ret2
  have hs := szX kX
  refine ⟨_, rfl, base_mono hPZ.row (by omega), ?_⟩
  have q := qt_alloc (qt_alloc (qt_keepO (qt_alloc (qt_refl W) _) kX) (.cells #[.slice none 0 0] 22)) (.cells #[.func (.func 35) #[] #[.pointer (some ⟨W.heap.size, 0, none⟩), .pointer (some ⟨X.heap.size + 1, 0, none⟩), .pointer (some ⟨X.heap.size, 0, none⟩)]] 67)
  exact ⟨sZ.os.trans q.os, sZ.tape.trans q.tape, sZ.output.trans q.output, Nat.le_trans q.size sZ.size, fun k hk => (sZ.block k (Nat.lt_of_lt_of_le hk q.size) (fun e => by have := Option.some.inj e; omega) (fun e => by cases e)).trans (q.block k hk)⟩

set_option maxRecDepth 100000 in
set_option maxHeartbeats 6000000 in
theorem swap_err (R : Value → Prop) (hR : ∀ u, R u → ∃ T x, u = .iface T x) (a : Option Addr) (len cap : Nat) (W : World)
    (hck : Calls Tryd.prog 22 #[.slice a len cap] (W.alloc (.cells #[.slice a len cap] 22)) fun e w' => ∃ u, e = .returned u ∧ R u ∧ KeepO (fun _ => False) (W.alloc (.cells #[.slice a len cap] 22)) w') :
    Calls Tryd.prog 15 #[.slice a len cap] W fun e W' => ∃ u, e = .returned (.tuple #[.slice none 0 0, u]) ∧ R u ∧ Qt W W' := by
  go_enter Tryd.func15, Tryd.ntmps15
  go_wp2_with (first
    | (go_at_call 22; refine hck.mono ?_; rintro e X ⟨u, rfl, hu, kX⟩; obtain ⟨T, x, rfl⟩ := hR u hu))
  go_ret2
  exact ⟨_, rfl, hu, qt_keepO (qt_alloc (qt_refl W) _) kX⟩

theorem own_nodes {W : World} {base n : Nat} {v : Value} {l : List Ab.Node} (h : W.ownsRow base 45 5 v n (rowN l)) (hn : n = l.length) : NodesNew base W v l := by
  subst hn
  obtain ⟨h0, ⟨rfl, h1⟩ | ⟨g, cap, cur, rfl, h3, h4, h5, h6, h7, h8⟩⟩ := h
  · exact .inl ⟨rfl, List.eq_nil_of_length_eq_zero h1⟩
  · refine .inr ⟨g, cap, rfl, h3, (Array.getElem?_eq_some_iff.1 h4).1, h5, fun i x hx j u hu => ?_⟩
    have hi := (List.getElem?_eq_some_iff.1 hx).1
    have hj : j < 5 := by have := (List.getElem?_eq_some_iff.1 hu).1; simpa [nodeV] using this
    have row : ∀ (l : List Ab.Node) (i : Nat), l[i]? = some x → (rowN l)[i * 5 + j]? = some u := by
      intro l
      induction l with
      | nil => intro i h; simp at h
      | cons y r ih =>
        intro i h
        have e : rowN (y :: r) = nodeV y ++ rowN r := by simp [rowN]
        have ly : (nodeV y).length = 5 := rfl
        rw [e]
        cases i with
        | zero =>
          simp only [List.getElem?_cons_zero, Option.some.injEq] at h
          subst h
          rw [List.getElem?_append_left (by omega), Nat.zero_mul, Nat.zero_add]
          exact hu
        | succ i =>
          rw [List.getElem?_append_right (by omega), ly, show (i + 1) * 5 + j - 5 = i * 5 + j by omega]
          exact ih i (by simpa using h)
    have h9 : (cur.toList.take (l.length * 5))[i * 5 + j]? = some u := by rw [h8]; exact row l i hx
    rw [List.getElem?_take_of_lt (by omega), Array.getElem?_toList] at h9
    simp only [World.cell?, h4]
    exact h9
theorem qt_keep {W X : World} (h : Qt W X) : KeepO (fun _ => False) W X := ⟨h.os, h.tape, h.output, h.size, fun k hk _ => h.block k hk⟩
end Go.Proofs.TrydSwap
