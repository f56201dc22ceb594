/-
  formula.Parse, walked at this seat's program: the whole.
-/
import Derived.Test.YtcabflannjeigaaDoorMPq
set_option linter.unusedSimpArgs false
namespace Go.Proofs.TrydRead
open Go Go.RowKit Ab
set_option linter.unusedVariables false

set_option maxRecDepth 100000 in
set_option maxHeartbeats 4000000 in
theorem parse_long (s : ByteArray) (hs : 100 < s.size) (W : World) : Calls Tryd.prog 21 #[.string s] W fun e W' => e = .returned (.tuple #[.slice none 0 0, .int .i64 0, .iface 61 (.int .i64 4)]) ∧ KeepO (fun _ => False) W W' := by
  have h1 : (100 : Int) < (s.size : Int) := by omega
  go_enter_defers Tryd.func21, Tryd.ntmps21
  go_wp2
  simp [bodyPostD, Leaves, settle, results, Tryd.results21, go_sem]
  exact keep_all (keep_all (keep_all (.refl _ _) _) _) _

theorem own_new {W : World} {base n : Nat} {v : Value} {l : List Ab.Node} (h : W.ownsRow base 45 5 v n (rowN l)) (hn : n = l.length) : NodesNew base W v l := by
  subst hn
  obtain ⟨h0, ⟨rfl, h1⟩ | ⟨g, cap, cur, rfl, h3, h4, h5, h6, h7, h8⟩⟩ := h
  · exact .inl ⟨rfl, List.eq_nil_of_length_eq_zero h1⟩
  · refine .inr ⟨g, cap, rfl, h3, (Array.getElem?_eq_some_iff.1 h4).1, h5, fun i x hx j u hu => ?_⟩
    have hi := (List.getElem?_eq_some_iff.1 hx).1
    have hj : j < 5 := by have := (List.getElem?_eq_some_iff.1 hu).1; simpa [nodeV] using this
    have row : ∀ (l : List Ab.Node) (i : Nat), l[i]? = some x → (rowN l)[i * 5 + j]? = some u := by
      intro l
      induction l with
      | nil => intro i h; simp at h
      | cons y r ih =>
        intro i h
        have e : rowN (y :: r) = nodeV y ++ rowN r := by simp [rowN]
        have ly : (nodeV y).length = 5 := rfl
        rw [e]
        cases i with
        | zero =>
          simp only [List.getElem?_cons_zero, Option.some.injEq] at h
          subst h
          rw [List.getElem?_append_left (by omega), Nat.zero_mul, Nat.zero_add]
          exact hu
        | succ i =>
          rw [List.getElem?_append_right (by omega), ly, show (i + 1) * 5 + j - 5 = i * 5 + j by omega]
          exact ih i (by simpa using h)
    have h9 : (cur.toList.take (l.length * 5))[i * 5 + j]? = some u := by rw [h8]; exact row l i hx
    rw [List.getElem?_take_of_lt (by omega), Array.getElem?_toList] at h9
    simp only [World.cell?, h4]
    exact h9
theorem own_slice {W : World} {base e size n : Nat} {v : Value} {xs : List Value} (h : W.ownsRow base e size v n xs) : ∃ a m cap, v = .slice a m cap := by
  obtain ⟨_, ⟨rfl, _⟩ | ⟨g, cap, cur, rfl, _⟩⟩ := h
  · exact ⟨_, _, _, rfl⟩
  · exact ⟨_, _, _, rfl⟩
theorem new_keep {O : Nat → Prop} {n base : Nat} {Y Z : World} {v : Value} {l : List Ab.Node} (h : NodesNew base Y v l) (k : KeepO O Y Z) (hO : ∀ i, O i → i < base) (hn : n ≤ base) : NodesNew n Z v l := by
  rcases h with h | ⟨b, cap, rfl, h1, h2, h3, h4⟩
  · exact .inl h
  · exact .inr ⟨b, cap, rfl, by omega, Nat.lt_of_lt_of_le h2 k.size, h3, fun i x hx j u hu => by
      have e := k.block b h2 (fun h => by have := hO b h; omega)
      have := h4 i x hx j u hu
      simp only [World.cell?, e] at this ⊢
      exact this⟩
theorem three_set {Y : World} {B : Nat} {x y z : Value} {T1 T2 T3 : TypeId} (hp : Y.heap[B]? = some (.cells #[x] T1 (0, 0))) (hq : Y.heap[B + 1]? = some (.cells #[y] T2 (0, 0))) (hr : Y.heap[B + 2]? = some (.cells #[z] T3 (0, 0))) (vx vy vz : Value) :
    (Y.setCell ⟨B, 0, none⟩ vx).cell? ⟨B, 0, none⟩ = some vx ∧ ((((Y.setCell ⟨B, 0, none⟩ vx).setCell ⟨B + 1, 0, none⟩ vy).setCell ⟨B + 1 + 1, 0, none⟩ vz).drew).cell? ⟨B, 0, none⟩ = some vx ∧ ((((Y.setCell ⟨B, 0, none⟩ vx).setCell ⟨B + 1, 0, none⟩ vy).setCell ⟨B + 1 + 1, 0, none⟩ vz).drew).cell? ⟨B + 1, 0, none⟩ = some vy ∧ ((((Y.setCell ⟨B, 0, none⟩ vx).setCell ⟨B + 1, 0, none⟩ vy).setCell ⟨B + 1 + 1, 0, none⟩ vz).drew).cell? ⟨B + 1 + 1, 0, none⟩ = some vz ∧
    KeepO (fun b => b = B ∨ b = B + 1 ∨ b = B + 2) Y ((((Y.setCell ⟨B, 0, none⟩ vx).setCell ⟨B + 1, 0, none⟩ vy).setCell ⟨B + 1 + 1, 0, none⟩ vz).drew) := by
  refine ⟨one_cell (set_heap hp), ?_, ?_, ?_, keep_drewN (keep_set (keep_set (keep_set (.refl _ _) (.inl rfl) _) (.inr (.inl rfl)) _) (.inr (.inr rfl)) _) 1⟩
  · exact one_cell ((set_other _ (by omega)).trans ((set_other _ (by omega)).trans (set_heap hp)))
  · exact one_cell ((set_other _ (by omega)).trans (set_heap ((set_other _ (by omega)).trans hq)))
  · exact one_cell (set_heap ((set_other _ (by omega)).trans ((set_other _ (by omega)).trans hr)))
/-- The three results' variables, and the reader, at the begin. -/
theorem keep_chain {W W4 Y Z : World} {rb : Nat} {v v' : Value} {O : Nat → Prop} (k4 : KeepO (fun _ => False) W W4) (sY : Stp (some rb) v W4 Y v') (hk : KeepO O Y Z) (hO : ∀ i, O i → W.heap.size ≤ i) (hrb : W.heap.size ≤ rb) (hv : v.ownBlock = none) : KeepO (fun _ => False) W Z :=
  ⟨hk.os.trans (sY.os.trans k4.os), hk.tape.trans (sY.tape.trans k4.tape), hk.output.trans (sY.output.trans k4.output), Nat.le_trans k4.size (Nat.le_trans sY.size hk.size), fun i hi _ =>
    (hk.block i (Nat.lt_of_lt_of_le hi (Nat.le_trans k4.size sY.size)) (fun h => by have := hO i h; omega)).trans ((sY.block i (Nat.lt_of_lt_of_le hi k4.size) (fun e => by have := Option.some.inj e; omega) (fun e => by rw [hv] at e; cases e)).trans (k4.block i hi (fun e => e)))⟩
theorem keep_four (W : World) (X1 X2 X3 X4 : Obj) : KeepO (fun _ => False) W ((((W.alloc X1).alloc X2).alloc X3).alloc X4) := keep_all (keep_all (keep_all (keep_all (.refl _ _) _) _) _) _
theorem first_four (W : World) (X1 X2 X3 X4 : Obj) : ((((W.alloc X1).alloc X2).alloc X3).alloc X4).heap[W.heap.size]? = some X1 ∧ ((((W.alloc X1).alloc X2).alloc X3).alloc X4).heap[W.heap.size + 1]? = some X2 ∧ ((((W.alloc X1).alloc X2).alloc X3).alloc X4).heap[W.heap.size + 2]? = some X3 ∧ ((((W.alloc X1).alloc X2).alloc X3).alloc X4).heap[W.heap.size + 3]? = some X4 := by
  have h1 := World.alloc_heap_new W X1
  have h2 := World.alloc_heap_new (W.alloc X1) X2
  have h3 := World.alloc_heap_new ((W.alloc X1).alloc X2) X3
  have h4 := World.alloc_heap_new (((W.alloc X1).alloc X2).alloc X3) X4
  refine ⟨alloc_at (alloc_at (alloc_at h1)), alloc_at (alloc_at (by simpa using h2)), alloc_at (by simpa using h3), by simpa using h4⟩

theorem three_plain {Y : World} {B : Nat} {x y z : Value} {T1 T2 T3 : TypeId} (hp : Y.heap[B]? = some (.cells #[x] T1 (0, 0))) (hq : Y.heap[B + 1]? = some (.cells #[y] T2 (0, 0))) (hr : Y.heap[B + 2]? = some (.cells #[z] T3 (0, 0))) (vx vy vz : Value) :
    (Y.setCell ⟨B, 0, none⟩ vx).cell? ⟨B, 0, none⟩ = some vx ∧ ((Y.setCell ⟨B, 0, none⟩ vx).setCell ⟨B + 1, 0, none⟩ vy).cell? ⟨B + 1, 0, none⟩ = some vy ∧ (((Y.setCell ⟨B, 0, none⟩ vx).setCell ⟨B + 1, 0, none⟩ vy).setCell ⟨B + 1 + 1, 0, none⟩ vz).cell? ⟨B + 1 + 1, 0, none⟩ = some vz ∧
    KeepO (fun b => b = B ∨ b = B + 1 ∨ b = B + 2) Y (((Y.setCell ⟨B, 0, none⟩ vx).setCell ⟨B + 1, 0, none⟩ vy).setCell ⟨B + 1 + 1, 0, none⟩ vz) :=
  ⟨one_cell (set_heap hp), one_cell (set_heap ((set_other _ (by omega)).trans hq)), one_cell (set_heap ((set_other _ (by omega)).trans ((set_other _ (by omega)).trans hr))), keep_set (keep_set (keep_set (.refl _ _) (.inl rfl) _) (.inr (.inl rfl)) _) (.inr (.inr rfl)) _⟩
set_option maxRecDepth 100000 in
set_option maxHeartbeats 4000000 in
theorem parse_bad (s : ByteArray) (hs : s.size ≤ 100) (f b : Nat) (hr : rd s f (.row true) 0 [] = some (.bad b)) (W : World) : Calls Tryd.prog 21 #[.string s] W fun e W' => e = .returned (.tuple #[.slice none 0 0, .int .i64 b, .iface 61 (.int .i64 2)]) ∧ KeepO (fun _ => False) W W' := by
  have h1 : ¬ (100 : Int) < (s.size : Int) := by omega
  have hmf : ∀ (fn : Fn) (first cap : Array Value) (w : World), (Instr.makeFunc fn first cap).run Tryd.prog w = .ok (.func fn first cap) w := fun _ _ _ _ => rfl
  have hR : RD (W.heap.size + 3) (W.heap.size + 4) s ((((W.alloc (.cells #[.slice none 0 0] 22)).alloc (.cells #[.int .i64 0] 3)).alloc (.cells #[.nilIface] 33)).alloc (.cells #[.string s, .int .i64 (0 : Nat), .slice none 0 0] 74)) 0 (.slice none 0 0) [] := by
    refine ⟨?_, ⟨rfl, .inl ⟨rfl, rfl⟩⟩, by omega, by simp⟩
    have h := World.alloc_heap_new (((W.alloc (.cells #[.slice none 0 0] 22)).alloc (.cells #[.int .i64 0] 3)).alloc (.cells #[.nilIface] 33)) (.cells #[.string s, .int .i64 (0 : Nat), .slice none 0 0] 74)
    simpa using h
  have hc := (read_calls (rb := W.heap.size + 3) (n1 := W.heap.size + 4) (s := s) (by omega) f f (Nat.le_refl _)).2.2 _ _ _ _ _ hr hR (Nat.zero_le _)
  go_enter_defers Tryd.func21, Tryd.ntmps21
  go_wp2_with (go_at_call 39; go_must (refine hc.mono ?_); rintro e Y ⟨v', rfl, sY⟩)
  obtain ⟨n1, n2, n3, _⟩ := first_four W (.cells #[.slice none 0 0] 22) (.cells #[.int .i64 0] 3) (.cells #[.nilIface] 33) (.cells #[.string s, .int .i64 (0 : Nat), .slice none 0 0] 74)
  have old : ∀ {k : Nat} {O : Obj}, k < W.heap.size + 3 → ((((W.alloc (.cells #[.slice none 0 0] 22)).alloc (.cells #[.int .i64 0] 3)).alloc (.cells #[.nilIface] 33)).alloc (.cells #[.string s, .int .i64 (0 : Nat), .slice none 0 0] 74)).heap[k]? = some O → Y.heap[k]? = some O := fun {k O} hk h =>
    (sY.block k (by simp; omega) (fun e => by have := Option.some.inj e; omega) (fun e => by cases e)).trans h
  refine leaves_cons (f := 38) (args := #[.pointer (some ⟨W.heap.size, 0, none⟩), .pointer (some ⟨W.heap.size + 1, 0, none⟩), .pointer (some ⟨W.heap.size + 2, 0, none⟩)]) (by simp) (by simp [go_sem]) ?_
  refine (catch_panicking W.heap.size b [] Y _ _ _ _ _ _ (old (by omega) n1) (old (by omega) n2) (old (by omega) n3)).mono ?_
  rintro e u' w'' ⟨rfl, rfl, hk, k1, k2, k3⟩
  simp [Leaves, settle, results, Tryd.results21, go_sem, k1, k2, k3]
  exact keep_chain (keep_four _ _ _ _ _) sY hk (fun i h => by omega) (by omega) rfl

set_option maxRecDepth 100000 in
set_option maxHeartbeats 4000000 in
theorem parse_short (s : ByteArray) (hs : s.size ≤ 100) (f i b : Nat) (l : List Ab.Node) (hr : rd s f (.row true) 0 [] = some (.ok i b l)) (hlt : b < s.size) (W : World) : Calls Tryd.prog 21 #[.string s] W fun e W' => e = .returned (.tuple #[.slice none 0 0, .int .i64 b, .iface 61 (.int .i64 2)]) ∧ KeepO (fun _ => False) W W' := by
  have h2 : (b : Int) < (s.size : Int) := by omega
  have h1 : ¬ (100 : Int) < (s.size : Int) := by omega
  have hmf : ∀ (fn : Fn) (first cap : Array Value) (w : World), (Instr.makeFunc fn first cap).run Tryd.prog w = .ok (.func fn first cap) w := fun _ _ _ _ => rfl
  have hR : RD (W.heap.size + 3) (W.heap.size + 4) s ((((W.alloc (.cells #[.slice none 0 0] 22)).alloc (.cells #[.int .i64 0] 3)).alloc (.cells #[.nilIface] 33)).alloc (.cells #[.string s, .int .i64 (0 : Nat), .slice none 0 0] 74)) 0 (.slice none 0 0) [] := by
    refine ⟨?_, ⟨rfl, .inl ⟨rfl, rfl⟩⟩, by omega, by simp⟩
    have h := World.alloc_heap_new (((W.alloc (.cells #[.slice none 0 0] 22)).alloc (.cells #[.int .i64 0] 3)).alloc (.cells #[.nilIface] 33)) (.cells #[.string s, .int .i64 (0 : Nat), .slice none 0 0] 74)
    simpa using h
  have hc := (read_calls (rb := W.heap.size + 3) (n1 := W.heap.size + 4) (s := s) (by omega) f f (Nat.le_refl _)).2.2 _ _ _ _ _ hr hR (Nat.zero_le _)
  obtain ⟨n1, n2, n3, _⟩ := first_four W (.cells #[.slice none 0 0] 22) (.cells #[.int .i64 0] 3) (.cells #[.nilIface] 33) (.cells #[.string s, .int .i64 (0 : Nat), .slice none 0 0] 74)
  have old : ∀ {Y : World} {v' : Value}, Stp (some (W.heap.size + 3)) (.slice none 0 0) ((((W.alloc (.cells #[.slice none 0 0] 22)).alloc (.cells #[.int .i64 0] 3)).alloc (.cells #[.nilIface] 33)).alloc (.cells #[.string s, .int .i64 (0 : Nat), .slice none 0 0] 74)) Y v' →
      Y.heap[W.heap.size]? = some (.cells #[.slice none 0 0] 22 (0, 0)) ∧ Y.heap[W.heap.size + 1]? = some (.cells #[.int .i64 0] 3 (0, 0)) ∧ Y.heap[W.heap.size + 2]? = some (.cells #[.nilIface] 33 (0, 0)) := fun {Y v'} sY => by
    have go : ∀ {k : Nat} {O : Obj}, k < W.heap.size + 3 → ((((W.alloc (.cells #[.slice none 0 0] 22)).alloc (.cells #[.int .i64 0] 3)).alloc (.cells #[.nilIface] 33)).alloc (.cells #[.string s, .int .i64 (0 : Nat), .slice none 0 0] 74)).heap[k]? = some O → Y.heap[k]? = some O := fun {k O} hk h =>
      (sY.block k (by simp; omega) (fun e => by have := Option.some.inj e; omega) (fun e => by cases e)).trans h
    exact ⟨go (by omega) n1, go (by omega) n2, go (by omega) n3⟩
  have fz : ∀ {W : World} {ob : Nat} {c : Array Value} {T : TypeId}, W.heap[ob]? = some (.cells c T (0, 0)) → W.frozen? ⟨ob, 0, none⟩ = false := fun h => by simp [World.frozen?, h]
  go_enter_defers Tryd.func21, Tryd.ntmps21
  go_wp2_with (go_at_call 39; go_must (refine hc.mono ?_); rintro e Y ⟨v', rfl, hY, hb, sY⟩; have y1 := hY.c1; have y2 := hY.c2; have o := old sY; have o1 := one_cell o.1; have o2 := one_cell o.2.1; have o3 := one_cell o.2.2; have z1 := fz o.1; have z2 := fz o.2.1; have z3 := fz o.2.2)
  go_region
  all_goals go_wp2
  all_goals
    refine leaves_cons (f := 38) (args := #[.pointer (some ⟨W.heap.size, 0, none⟩), .pointer (some ⟨W.heap.size + 1, 0, none⟩), .pointer (some ⟨W.heap.size + 2, 0, none⟩)]) (by simp) (by simp [go_sem]) ?_
    refine (catch_idle _ _ _ _).mono ?_
    rintro e u' w'' ⟨rfl, rfl, rfl⟩
    obtain ⟨q0, q1, q2, q3, qk⟩ := three_set o.1 o.2.1 o.2.2 (.slice none 0 0) (.int .i64 b) (.iface 61 (.int .i64 2))
    simp [Leaves, settle, results, Tryd.results21, go_sem, q0, q1, q2, q3]
    exact keep_chain (keep_four _ _ _ _ _) sY qk (fun i h => by omega) (by omega) rfl

theorem keep_more {O : Nat → Prop} {a b : World} (h : KeepO (fun _ => False) a b) : KeepO O a b := ⟨h.os, h.tape, h.output, h.size, fun k hk _ => h.block k hk fun e => e⟩
set_option maxRecDepth 100000 in
set_option maxHeartbeats 4000000 in
theorem parse_check (s : ByteArray) (hs : s.size ≤ 100) (f i b : Nat) (l : List Ab.Node) (hr : rd s f (.row true) 0 [] = some (.ok i b l)) (hlt : s.size ≤ b) (W : World) (R : Value → Prop) (hR2 : ∀ u, R u → ∃ T x, u = .iface T x)
    (hck : ∀ (v : Value) (X : World), KeepO (fun _ => False) W X → NodesNew W.heap.size X v l → Calls Tryd.prog 22 #[v] X fun e w' => ∃ u, e = .returned u ∧ R u ∧ KeepO (fun _ => False) X w') :
    Calls Tryd.prog 21 #[.string s] W fun e W' => ∃ u, e = .returned (.tuple #[.slice none 0 0, .int .i64 0, u]) ∧ R u ∧ KeepO (fun _ => False) W W' := by
  have h2 : ¬ (b : Int) < (s.size : Int) := by omega
  have h1 : ¬ (100 : Int) < (s.size : Int) := by omega
  have hmf : ∀ (fn : Fn) (first cap : Array Value) (w : World), (Instr.makeFunc fn first cap).run Tryd.prog w = .ok (.func fn first cap) w := fun _ _ _ _ => rfl
  have hR : RD (W.heap.size + 3) (W.heap.size + 4) s ((((W.alloc (.cells #[.slice none 0 0] 22)).alloc (.cells #[.int .i64 0] 3)).alloc (.cells #[.nilIface] 33)).alloc (.cells #[.string s, .int .i64 (0 : Nat), .slice none 0 0] 74)) 0 (.slice none 0 0) [] := by
    refine ⟨?_, ⟨rfl, .inl ⟨rfl, rfl⟩⟩, by omega, by simp⟩
    have h := World.alloc_heap_new (((W.alloc (.cells #[.slice none 0 0] 22)).alloc (.cells #[.int .i64 0] 3)).alloc (.cells #[.nilIface] 33)) (.cells #[.string s, .int .i64 (0 : Nat), .slice none 0 0] 74)
    simpa using h
  have hc := (read_calls (rb := W.heap.size + 3) (n1 := W.heap.size + 4) (s := s) (by omega) f f (Nat.le_refl _)).2.2 _ _ _ _ _ hr hR (Nat.zero_le _)
  obtain ⟨n1, n2, n3, _⟩ := first_four W (.cells #[.slice none 0 0] 22) (.cells #[.int .i64 0] 3) (.cells #[.nilIface] 33) (.cells #[.string s, .int .i64 (0 : Nat), .slice none 0 0] 74)
  have old : ∀ {Y : World} {v' : Value}, Stp (some (W.heap.size + 3)) (.slice none 0 0) ((((W.alloc (.cells #[.slice none 0 0] 22)).alloc (.cells #[.int .i64 0] 3)).alloc (.cells #[.nilIface] 33)).alloc (.cells #[.string s, .int .i64 (0 : Nat), .slice none 0 0] 74)) Y v' →
      Y.heap[W.heap.size]? = some (.cells #[.slice none 0 0] 22 (0, 0)) ∧ Y.heap[W.heap.size + 1]? = some (.cells #[.int .i64 0] 3 (0, 0)) ∧ Y.heap[W.heap.size + 2]? = some (.cells #[.nilIface] 33 (0, 0)) := fun {Y v'} sY => by
    have go : ∀ {k : Nat} {O : Obj}, k < W.heap.size + 3 → ((((W.alloc (.cells #[.slice none 0 0] 22)).alloc (.cells #[.int .i64 0] 3)).alloc (.cells #[.nilIface] 33)).alloc (.cells #[.string s, .int .i64 (0 : Nat), .slice none 0 0] 74)).heap[k]? = some O → Y.heap[k]? = some O := fun {k O} hk h =>
      (sY.block k (by simp; omega) (fun e => by have := Option.some.inj e; omega) (fun e => by cases e)).trans h
    exact ⟨go (by omega) n1, go (by omega) n2, go (by omega) n3⟩
  have fz : ∀ {W : World} {ob : Nat} {c : Array Value} {T : TypeId}, W.heap[ob]? = some (.cells c T (0, 0)) → W.frozen? ⟨ob, 0, none⟩ = false := fun h => by simp [World.frozen?, h]
  go_enter_defers Tryd.func21, Tryd.ntmps21
  go_wp2_with (first
    | (go_at_call 39; go_must (refine hc.mono ?_); rintro e Y ⟨v', rfl, hY, hb, sY⟩; have y1 := hY.c1; have y2 := hY.c2; have o := old sY; have o1 := one_cell o.1; have o2 := one_cell o.2.1; have o3 := one_cell o.2.2; have z1 := fz o.1; have z2 := fz o.2.1; have z3 := fz o.2.2)
    | (go_at_call 22; go_must (refine (hck _ _ (keep_chain (keep_four _ _ _ _ _) sY (.refl (fun _ => False) _) (fun i h => h.elim) (by omega) rfl) (new_keep (own_new hY.row rfl) (.refl (fun _ => False) _) (fun i h => h.elim) (by omega))).mono ?_); rintro e X ⟨u, rfl, hu, kX⟩; obtain ⟨T, x, rfl⟩ := hR2 u hu; have p1 := keep_cell kX o1; have p2 := keep_cell kX o2; have p3 := keep_cell kX o3; have f1 := fz ((kX.block _ (Array.getElem?_eq_some_iff.1 o.1).1 (fun e => e)).trans o.1); have f2 := fz ((kX.block _ (Array.getElem?_eq_some_iff.1 o.2.1).1 (fun e => e)).trans o.2.1); have f3 := fz ((kX.block _ (Array.getElem?_eq_some_iff.1 o.2.2).1 (fun e => e)).trans o.2.2)))
  refine leaves_cons (f := 38) (args := #[.pointer (some ⟨W.heap.size, 0, none⟩), .pointer (some ⟨W.heap.size + 1, 0, none⟩), .pointer (some ⟨W.heap.size + 2, 0, none⟩)]) (by simp) (by simp [go_sem]) ?_
  refine (catch_idle _ _ _ _).mono ?_
  rintro e u' w'' ⟨rfl, rfl, rfl⟩
  have g1 := (kX.block _ (Array.getElem?_eq_some_iff.1 o.1).1 (fun e => e)).trans o.1
  have g2 := (kX.block _ (Array.getElem?_eq_some_iff.1 o.2.1).1 (fun e => e)).trans o.2.1
  have g3 := (kX.block _ (Array.getElem?_eq_some_iff.1 o.2.2).1 (fun e => e)).trans o.2.2
  obtain ⟨q1, q2, q3, qk⟩ := three_plain g1 g2 g3 (.slice none 0 0) (.int .i64 0) (.iface T x)
  simp [Leaves, settle, results, Tryd.results21, go_sem, q1, q2, q3]
  exact ⟨hu, keep_chain (keep_four _ _ _ _ _) sY ((keep_more kX).trans qk) (fun i h => by omega) (by omega) rfl⟩
set_option maxRecDepth 100000 in
set_option maxHeartbeats 4000000 in
theorem parse_done (s : ByteArray) (hs : s.size ≤ 100) (f i b : Nat) (l : List Ab.Node) (hr : rd s f (.row true) 0 [] = some (.ok i b l)) (hlt : s.size ≤ b) (W : World)
    (hck : ∀ (v : Value) (X : World), KeepO (fun _ => False) W X → NodesNew W.heap.size X v l → Calls Tryd.prog 22 #[v] X fun e w' => e = .returned .nilIface ∧ KeepO (fun _ => False) X w') :
    Calls Tryd.prog 21 #[.string s] W fun e W' => ∃ v', e = .returned (.tuple #[v', .int .i64 0, .nilIface]) ∧ NodesNew W.heap.size W' v' l ∧ KeepO (fun _ => False) W W' := by
  have h2 : ¬ (b : Int) < (s.size : Int) := by omega
  have h1 : ¬ (100 : Int) < (s.size : Int) := by omega
  have hmf : ∀ (fn : Fn) (first cap : Array Value) (w : World), (Instr.makeFunc fn first cap).run Tryd.prog w = .ok (.func fn first cap) w := fun _ _ _ _ => rfl
  have hR : RD (W.heap.size + 3) (W.heap.size + 4) s ((((W.alloc (.cells #[.slice none 0 0] 22)).alloc (.cells #[.int .i64 0] 3)).alloc (.cells #[.nilIface] 33)).alloc (.cells #[.string s, .int .i64 (0 : Nat), .slice none 0 0] 74)) 0 (.slice none 0 0) [] := by
    refine ⟨?_, ⟨rfl, .inl ⟨rfl, rfl⟩⟩, by omega, by simp⟩
    have h := World.alloc_heap_new (((W.alloc (.cells #[.slice none 0 0] 22)).alloc (.cells #[.int .i64 0] 3)).alloc (.cells #[.nilIface] 33)) (.cells #[.string s, .int .i64 (0 : Nat), .slice none 0 0] 74)
    simpa using h
  have hc := (read_calls (rb := W.heap.size + 3) (n1 := W.heap.size + 4) (s := s) (by omega) f f (Nat.le_refl _)).2.2 _ _ _ _ _ hr hR (Nat.zero_le _)
  obtain ⟨n1, n2, n3, _⟩ := first_four W (.cells #[.slice none 0 0] 22) (.cells #[.int .i64 0] 3) (.cells #[.nilIface] 33) (.cells #[.string s, .int .i64 (0 : Nat), .slice none 0 0] 74)
  have old : ∀ {Y : World} {v' : Value}, Stp (some (W.heap.size + 3)) (.slice none 0 0) ((((W.alloc (.cells #[.slice none 0 0] 22)).alloc (.cells #[.int .i64 0] 3)).alloc (.cells #[.nilIface] 33)).alloc (.cells #[.string s, .int .i64 (0 : Nat), .slice none 0 0] 74)) Y v' →
      Y.heap[W.heap.size]? = some (.cells #[.slice none 0 0] 22 (0, 0)) ∧ Y.heap[W.heap.size + 1]? = some (.cells #[.int .i64 0] 3 (0, 0)) ∧ Y.heap[W.heap.size + 2]? = some (.cells #[.nilIface] 33 (0, 0)) := fun {Y v'} sY => by
    have go : ∀ {k : Nat} {O : Obj}, k < W.heap.size + 3 → ((((W.alloc (.cells #[.slice none 0 0] 22)).alloc (.cells #[.int .i64 0] 3)).alloc (.cells #[.nilIface] 33)).alloc (.cells #[.string s, .int .i64 (0 : Nat), .slice none 0 0] 74)).heap[k]? = some O → Y.heap[k]? = some O := fun {k O} hk h =>
      (sY.block k (by simp; omega) (fun e => by have := Option.some.inj e; omega) (fun e => by cases e)).trans h
    exact ⟨go (by omega) n1, go (by omega) n2, go (by omega) n3⟩
  have fz : ∀ {W : World} {ob : Nat} {c : Array Value} {T : TypeId}, W.heap[ob]? = some (.cells c T (0, 0)) → W.frozen? ⟨ob, 0, none⟩ = false := fun h => by simp [World.frozen?, h]
  go_enter_defers Tryd.func21, Tryd.ntmps21
  go_wp2_with (first
    | (go_at_call 39; go_must (refine hc.mono ?_); rintro e Y ⟨v', rfl, hY, hb, sY⟩; obtain ⟨va, vm, vc, rfl⟩ := own_slice hY.row; have y1 := hY.c1; have y2 := hY.c2; have o := old sY; have o1 := one_cell o.1; have o2 := one_cell o.2.1; have o3 := one_cell o.2.2; have z1 := fz o.1; have z2 := fz o.2.1; have z3 := fz o.2.2)
    | (go_at_call 22; go_must (refine (hck _ _ (keep_chain (keep_four _ _ _ _ _) sY (.refl (fun _ => False) _) (fun i h => h.elim) (by omega) rfl) (new_keep (own_new hY.row rfl) (.refl (fun _ => False) _) (fun i h => h.elim) (by omega))).mono ?_); rintro e X ⟨rfl, kX⟩; have r3 := keep_cell kX hY.c2; have y3 := hY.c2; have p1 := keep_cell kX o1; have p2 := keep_cell kX o2; have p3 := keep_cell kX o3; have f1 := fz ((kX.block _ (Array.getElem?_eq_some_iff.1 o.1).1 (fun e => e)).trans o.1); have f2 := fz ((kX.block _ (Array.getElem?_eq_some_iff.1 o.2.1).1 (fun e => e)).trans o.2.1); have f3 := fz ((kX.block _ (Array.getElem?_eq_some_iff.1 o.2.2).1 (fun e => e)).trans o.2.2)))
  refine leaves_cons (f := 38) (args := #[.pointer (some ⟨W.heap.size, 0, none⟩), .pointer (some ⟨W.heap.size + 1, 0, none⟩), .pointer (some ⟨W.heap.size + 2, 0, none⟩)]) (by simp) (by simp [go_sem]) ?_
  refine (catch_idle _ _ _ _).mono ?_
  rintro e u' w'' ⟨rfl, rfl, rfl⟩
  have g1 := (kX.block _ (Array.getElem?_eq_some_iff.1 o.1).1 (fun e => e)).trans o.1
  have g2 := (kX.block _ (Array.getElem?_eq_some_iff.1 o.2.1).1 (fun e => e)).trans o.2.1
  have g3 := (kX.block _ (Array.getElem?_eq_some_iff.1 o.2.2).1 (fun e => e)).trans o.2.2
  obtain ⟨q1, q2, q3, qk⟩ := three_plain g1 g2 g3 (.slice va vm vc) (.int .i64 0) .nilIface
  simp [Leaves, settle, results, Tryd.results21, go_sem, q1, q2, q3]
  exact ⟨new_keep (own_new hY.row rfl) ((keep_more kX).trans qk) (fun i h => by omega) (by omega), keep_chain (keep_four _ _ _ _ _) sY ((keep_more kX).trans qk) (fun i h => by omega) (by omega) rfl⟩
end Go.Proofs.TrydRead
