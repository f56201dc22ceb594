/-
  formula.Parse, walked at this seat's program.
-/
import Derived.Test.YtcabflannjeigaaDoorMPr
import Derived.Defers
import Derived.Recover
import Derived.RegionTactic
import Derived.ChangeAlike
set_option linter.unusedSimpArgs false
namespace Go.Proofs.TrydRead
open Go Go.RowKit Ab
set_option linter.unusedVariables false

section
variable {rb n1 : Nat} {s : ByteArray}
theorem product_calls (hs : s.size ≤ 1000) {f : Nat} (hsub : ∀ k, k ≤ f → ReadC rb n1 s 65 k .one) : ReadC rb n1 s 52 (f + 1) (.row false) := by
  have hmf : ∀ (fn : Fn) (first cap : Array Value) (w : World), (Instr.makeFunc fn first cap).run Tryd.prog w = .ok (.func fn first cap) w := fun _ _ _ _ => rfl
  intro W a v l r hr h ha
  go_enter Tryd.func52, Tryd.ntmps52
  cases r with
  | bad b =>
    go_wp2_with (go_at_call 51; go_must (refine (row_false hs hsub _ _ _ _ _ hr h ha).mono ?_); rintro e Y ⟨v', rfl, sY⟩)
    exact ⟨rfl, v', rfl, sY⟩
  | ok i b l' =>
    go_wp2_with (go_at_call 51; go_must (refine (row_false hs hsub _ _ _ _ _ hr h ha).mono ?_); rintro e Y ⟨v', rfl, hY, hb, sY⟩)
    go_ret
    exact ⟨v', rfl, hY, hb, sY⟩
theorem sum_calls (hs : s.size ≤ 1000) {f : Nat} (hsub : ∀ k, k ≤ f → ReadC rb n1 s 52 k (.row false)) : ReadC rb n1 s 39 (f + 1) (.row true) := by
  have hmf : ∀ (fn : Fn) (first cap : Array Value) (w : World), (Instr.makeFunc fn first cap).run Tryd.prog w = .ok (.func fn first cap) w := fun _ _ _ _ => rfl
  intro W a v l r hr h ha
  go_enter Tryd.func39, Tryd.ntmps39
  cases r with
  | bad b =>
    go_wp2_with (go_at_call 51; go_must (refine (row_true hs hsub _ _ _ _ _ hr h ha).mono ?_); rintro e Y ⟨v', rfl, sY⟩)
    exact ⟨rfl, v', rfl, sY⟩
  | ok i b l' =>
    go_wp2_with (go_at_call 51; go_must (refine (row_true hs hsub _ _ _ _ _ hr h ha).mono ?_); rintro e Y ⟨v', rfl, hY, hb, sY⟩)
    go_ret
    exact ⟨v', rfl, hY, hb, sY⟩
/-- All of the reader. -/
theorem read_calls (hs : s.size ≤ 1000) : ∀ f, ∀ k, k ≤ f → ReadC rb n1 s 65 k .one ∧ ReadC rb n1 s 52 k (.row false) ∧ ReadC rb n1 s 39 k (.row true)
  | 0, k, hk => by
    obtain rfl : k = 0 := by omega
    exact ⟨fun W a v l r h => (by cases h), fun W a v l r h => (by cases h), fun W a v l r h => (by cases h)⟩
  | f + 1, k, hk => by
    by_cases e : k ≤ f
    · exact read_calls hs f k e
    · obtain rfl : k = f + 1 := by omega
      have ih := read_calls hs f
      exact ⟨one_calls hs (ih f (Nat.le_refl _)).2.2, product_calls hs fun k hk => (ih k hk).1, sum_calls hs fun k hk => (ih k hk).2.1⟩
end

theorem catch_idle (p q r : Addr) (w : World) :
    CallsD Tryd.prog 38 #[.pointer (some p), .pointer (some q), .pointer (some r)] .returning w fun e u' w' => e = .returned (.tuple #[]) ∧ u' = .returning ∧ w' = w := by
  refine callsD_of_wpS Tryd.func38 rfl fun c₀ cs hu => ?_
  apply wpS_seq
  apply wpS_region
  simp [wpOpsS, go_sem, recoverD, hu, Tryd.ntmps38, Exit.thenS]
  refine wpS_of_wp ?_
  go_wp2
  cases c₀
  simp_all [bodyPostS, results, Tryd.results38]
theorem set_heap {W : World} {ob : Nat} {v v' : Value} {T : TypeId} (h : W.heap[ob]? = some (.cells #[v] T (0, 0))) : (W.setCell ⟨ob, 0, none⟩ v').heap[ob]? = some (.cells #[v'] T (0, 0)) := by
  simp only [World.setCell, Array.getElem?_modify, if_true, h, Option.map_some]
  rfl
theorem set_other {W : World} {ob k : Nat} (v' : Value) (hk : k ≠ ob) : (W.setCell ⟨ob, 0, none⟩ v').heap[k]? = W.heap[k]? := Below.heap_setCell _ _ _ k fun e => hk e
theorem keep_set {O : Nat → Prop} {W X : World} (k : KeepO O W X) {b : Nat} (hb : O b) (v : Value) : KeepO O W (X.setCell ⟨b, 0, none⟩ v) :=
  ⟨k.os, k.tape, k.output, Nat.le_trans k.size (KeepsWalks.setCell X _ _).size, fun i hi hn => (set_other v (fun e => hn (by rw [e]; exact hb))).trans (k.block i hi hn)⟩
theorem keep_all {O : Nat → Prop} {W X : World} (k : KeepO O W X) (o : Obj) : KeepO O W (X.alloc o) := ⟨k.os, k.tape, k.output, by have := k.size; simp; omega, fun i hi hn => (alloc_lt (Nat.lt_of_lt_of_le hi k.size)).trans (k.block i hi hn)⟩
theorem keep_drewN {O : Nat → Prop} {W X : World} (k : KeepO O W X) (n : Nat) : KeepO O W (X.drewN n) := ⟨k.os, k.tape, k.output, k.size, k.block⟩
theorem one_cell {W : World} {ob : Nat} {v : Value} {T : TypeId} (h : W.heap[ob]? = some (.cells #[v] T (0, 0))) : W.cell? ⟨ob, 0, none⟩ = some v := by simp [World.cell?, h]
set_option maxRecDepth 100000 in
set_option maxHeartbeats 4000000 in
theorem catch_panicking (B : Nat) (n : Int) (older : List PanicEntry) (w : World) (x : Value) (y : Int) (z : Value) (T1 T2 T3 : TypeId) (hp : w.heap[B]? = some (.cells #[x] T1 (0, 0))) (hq : w.heap[B + 1]? = some (.cells #[.int .i64 y] T2 (0, 0))) (hr : w.heap[B + 2]? = some (.cells #[z] T3 (0, 0))) :
    CallsD Tryd.prog 38 #[.pointer (some ⟨B, 0, none⟩), .pointer (some ⟨B + 1, 0, none⟩), .pointer (some ⟨B + 2, 0, none⟩)] (.panicking ({ v := .iface 71 (.agg #[.int .i64 n]), recovered := false } :: older)) w fun e u' w' => e = .returned (.tuple #[]) ∧ u' = .panicking ({ v := .iface 71 (.agg #[.int .i64 n]), recovered := true } :: older) ∧
      KeepO (fun b => b = B ∨ b = B + 1 ∨ b = B + 2) w w' ∧ w'.cell? ⟨B, 0, none⟩ = some (.slice none 0 0) ∧ w'.cell? ⟨B + 1, 0, none⟩ = some (.int .i64 n) ∧ w'.cell? ⟨B + 2, 0, none⟩ = some (.iface 61 (.int .i64 2)) := by
  have one : ∀ {W : World} {ob : Nat} {v : Value} {T : TypeId}, W.heap[ob]? = some (.cells #[v] T (0, 0)) → W.cell? ⟨ob, 0, none⟩ = some v ∧ W.frozen? ⟨ob, 0, none⟩ = false := fun h => by simp [World.cell?, World.frozen?, h]
  obtain ⟨p1, p2⟩ := one hp
  obtain ⟨q1, q2⟩ := one hq
  obtain ⟨r1, r2⟩ := one hr
  have l1 := (Array.getElem?_eq_some_iff.1 hp).1
  have l2 := (Array.getElem?_eq_some_iff.1 hq).1
  have l3 := (Array.getElem?_eq_some_iff.1 hr).1
  have m1 : ¬ B = w.heap.size := by omega
  have m2 : ¬ B + 1 = w.heap.size := by omega
  have m3 : ¬ B + 2 = w.heap.size := by omega
  refine callsD_of_wpS Tryd.func38 rfl fun c₀ cs hu => ?_
  simp only [Tryd.ntmps38, List.size_toArray, List.length_cons, List.length_nil, Nat.reduceAdd, Nat.reduceSub, Array.replicate_succ, Array.replicate_zero, List.push_toArray, List.append_toArray, List.nil_append, List.cons_append]
  apply wpS_seq
  apply wpS_region
  simp [wpOpsS, go_sem, recoverD, hu, Exit.thenS]
  refine wpS_of_wp ?_
  have hta : ∀ w, (Instr.typeAssert (.iface 71 (.agg #[.int .i64 n])) 20 71 true).run Tryd.prog w = .ok (.tuple #[.agg #[.int .i64 n], .bool true]) w := fun w => by kernel_rfl
  go_wp2
  go_region
  all_goals go_wp2
  all_goals
    refine ⟨rfl, _, rfl, _, by simp [results, Tryd.results38], rfl, rfl, keep_drewN (keep_all (keep_set (keep_set (keep_set (.refl _ _) (.inl rfl) _) (.inr (.inl rfl)) _) (.inr (.inr rfl)) _) _) 1, ?_, ?_, ?_⟩
    · exact one_cell (alloc_at ((set_other _ (by omega)).trans ((set_other _ (by omega)).trans (set_heap hp))))
    · exact one_cell (alloc_at ((set_other _ (by omega)).trans (set_heap ((set_other _ (by omega)).trans hq))))
    · exact one_cell (alloc_at (set_heap ((set_other _ (by omega)).trans ((set_other _ (by omega)).trans hr))))
end Go.Proofs.TrydRead
