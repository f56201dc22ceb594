/-
  The reader of package formula, walked at this seat's program: its next byte; a node more.
-/
import Derived.Test.YtcabflannjeigaaDoorProg
import Derived.Test.YtcabflannjeigaaDoorMPs
import Derived.WalkKit
import Derived.WalkSpells
import Derived.Maps.AppendAt
import Derived.OwnWalk
import Derived.RangeFuncBox
import Derived.BigQuiet
import Derived.Deep.RegionHeld3
import Derived.Deep.RegionLaw
import Derived.BigRegion
import Derived.Deep.AppendLies
import Derived.Deep.DeepMust
import Derived.KernelRfl
set_option linter.unusedSimpArgs false
namespace Go.Proofs.TrydRead
open Go Go.RowKit Ab
set_option linter.unusedVariables false

theorem infoN : (Tryd.prog.info? 45).map (fun i => (i.zero, i.size, i.bytes)) = some (some (.agg #[.int .i64 0, .int .i64 0, .string ⟨#[]⟩, .int .i64 0, .int .i64 0]), 5, 48) := by kernel_rfl

/-! ### steps -/
section
variable {B : Option Nat} {v : Value} {W X : World}
theorem stp_refl (B : Option Nat) (v : Value) (W : World) : Stp B v W W v := ⟨rfl, rfl, rfl, Nat.le_refl _, fun _ _ _ _ => rfl, .inl rfl⟩
theorem alloc_lt {W : World} {o : Obj} {k : Nat} (h : k < W.heap.size) : (W.alloc o).heap[k]? = W.heap[k]? := by
  simp [World.alloc, -World.alloc_eq, Array.getElem?_push, Nat.ne_of_lt h]
theorem alloc_at {W : World} {o O : Obj} {k : Nat} (h : W.heap[k]? = some O) : (W.alloc o).heap[k]? = some O := (alloc_lt (Array.getElem?_eq_some_iff.1 h).1).trans h
theorem stp_alloc {v' : Value} (h : Stp B v W X v') (o : Obj) : Stp B v W (X.alloc o) v' :=
  ⟨h.os, h.tape, h.output, by have := h.size; simp; omega, fun k hk h1 h2 => (alloc_lt (Nat.lt_of_lt_of_le hk h.size)).trans (h.block k hk h1 h2), h.own⟩
theorem stp_drewN {v' : Value} (h : Stp B v W X v') (n : Nat) : Stp B v W (X.drewN n) v' := ⟨h.os, h.tape, h.output, h.size, h.block, h.own⟩
theorem stp_set {v' : Value} (h : Stp B v W X v') {p : Addr} (hp : W.heap.size ≤ p.block ∨ some p.block = B) (u : Value) : Stp B v W (X.setCell p u) v' :=
  ⟨h.os, h.tape, h.output, Nat.le_trans h.size (KeepsWalks.setCell X p u).size, fun k hk h1 h2 => by
    rw [← h.block k hk h1 h2]
    refine Below.heap_setCell _ _ _ k fun e => ?_
    rcases hp with hp | hp
    · omega
    · exact h1 (by rw [← hp, e]), h.own⟩
theorem stp_grown {v' : Value} {w1 : World} (hg : X.grownBy w1 v.ownBlock) (hat : v'.ownBlock = v.ownBlock ∨ v'.ownBlock = some X.heap.size) : Stp B v X w1 v' :=
  ⟨hg.os, hg.tape, hg.output, hg.size, fun k hk _ h2 => hg.block k hk h2, hat.imp id fun e => ⟨_, e, Nat.le_refl _⟩⟩
end

/-- A reader that has come to 'at', with these nodes. -/
structure RD (rb n1 : Nat) (s : ByteArray) (W : World) (at_ : Nat) (v : Value) (l : List Ab.Node) : Prop where
  cell : W.heap[rb]? = some (.cells #[.string s, .int .i64 at_, v] 74 (0, 0))
  row : W.ownsRow n1 45 5 v l.length (rowN l)
  lt : rb < n1
  size : n1 ≤ W.heap.size
section
variable {rb n1 : Nat} {s : ByteArray} {W X : World} {a : Nat} {v v' : Value} {l l' : List Ab.Node}
theorem RD.c0 (h : RD rb n1 s W a v l) : W.cell? ⟨rb, 0, none⟩ = some (.string s) := by simp [World.cell?, h.cell]
theorem RD.c1 (h : RD rb n1 s W a v l) : W.cell? ⟨rb, 1, none⟩ = some (.int .i64 a) := by simp [World.cell?, h.cell]
theorem RD.c2 (h : RD rb n1 s W a v l) : W.cell? ⟨rb, 2, none⟩ = some v := by simp [World.cell?, h.cell]
theorem RD.fr (h : RD rb n1 s W a v l) (j : Nat) : W.frozen? ⟨rb, j, none⟩ = false := by simp [World.frozen?, h.cell]
theorem RD.rbs (h : RD rb n1 s W a v l) : rb < W.heap.size := Nat.lt_of_lt_of_le h.lt h.size
theorem RD.ne (h : RD rb n1 s W a v l) : some rb ≠ v.ownBlock := fun e => by have := own_ge h.row rb e.symm; have := h.lt; omega
theorem RD.drewN (h : RD rb n1 s W a v l) (n : Nat) : RD rb n1 s (W.drewN n) a v l := ⟨h.cell, h.row.kept (row := none) ⟨rfl, rfl, rfl, Nat.le_refl _, fun _ _ _ => rfl⟩ (Classical.em _), h.lt, h.size⟩
theorem RD.alloc (h : RD rb n1 s W a v l) (o : Obj) : RD rb n1 s (W.alloc o) a v l := ⟨alloc_at h.cell, h.row.alloc o, h.lt, by have := h.size; simp; omega⟩
/-- The reader goes on. -/
theorem RD.go (h : RD rb n1 s W a v l) (b : Nat) : RD rb n1 s (W.setCell ⟨rb, 1, none⟩ (.int .i64 b)) b v l := by
  refine ⟨?_, h.row.kept (row := some rb) ⟨rfl, rfl, rfl, (KeepsWalks.setCell W _ _).size, fun k _ hk => Below.heap_setCell _ _ _ k fun e => hk (by rw [e])⟩ (.inr fun e => h.ne e.symm), h.lt, Nat.le_trans h.size (KeepsWalks.setCell W _ _).size⟩
  simp only [World.setCell, Array.getElem?_modify, if_true, h.cell, Option.map_some]
  rfl
/-- The reader has a node more. -/
theorem RD.put {w1 : World} (h : RD rb n1 s X a v l) (hg : X.grownBy w1 v.ownBlock) (hat : v'.ownBlock = v.ownBlock ∨ v'.ownBlock = some X.heap.size) (hr : w1.ownsRow n1 45 5 v' l'.length (rowN l')) : RD rb n1 s (w1.setCell ⟨rb, 2, none⟩ v') a v' l' := by
  have h1 : w1.heap[rb]? = some (.cells #[.string s, .int .i64 a, v] 74 (0, 0)) := (hg.block rb h.rbs h.ne).trans h.cell
  have hne : v'.ownBlock ≠ some rb := fun e => by
    rcases hat with e2 | e2
    · exact h.ne (e.symm.trans e2)
    · have := Option.some.inj (e.symm.trans e2)
      have := h.rbs
      omega
  refine ⟨?_, hr.kept (row := some rb) ⟨rfl, rfl, rfl, (KeepsWalks.setCell w1 _ _).size, fun k _ hk => Below.heap_setCell _ _ _ k fun e => hk (by rw [e])⟩ (.inr hne), h.lt, Nat.le_trans (Nat.le_trans h.size hg.size) (KeepsWalks.setCell w1 _ _).size⟩
  simp only [World.setCell, Array.getElem?_modify, if_true, h1, Option.map_some]
  rfl
end

set_option maxRecDepth 100000 in
set_option maxHeartbeats 4000000 in
theorem peek_calls {rb n1 : Nat} {s : ByteArray} {W : World} {a : Nat} {v : Value} {l : List Ab.Node} (h : RD rb n1 s W a v l) (hs : s.size ≤ 1000) (ha : a ≤ s.size) :
    Calls Tryd.prog 62 #[.pointer (some ⟨rb, 0, none⟩)] W fun e W' => e = .returned (.int .u8 (pk s a)) ∧ ∃ q, W' = W.drewN q := by
  have c0 := h.c0
  have c1 := h.c1
  by_cases hlt : a < s.size
  · have e1 : pk s a = (s.data[a]'hlt).toNat := by
      unfold pk
      rw [Array.getElem?_eq_getElem hlt]
    have g0 : (0 : Int) ≤ (a : Int) := Int.natCast_nonneg _
    have g1 : (a : Int) < (s.size : Int) := by omega
    go_enter Tryd.func62, Tryd.ntmps62
    go_wp2
    go_quiet (fail)
    go_wp2
    go_quiet (fail)
    go_wp2
    go_ret
    exact ⟨by rw [e1]; rfl, _, World.drewN_drewN _ _ _⟩
  · have e1 : pk s a = 0 := by
      unfold pk
      rw [Array.getElem?_eq_none (by have : s.data.size = s.size := rfl; omega)]
    have g1 : (s.size : Int) ≤ (a : Int) := by omega
    rw [e1]
    go_enter Tryd.func62, Tryd.ntmps62
    go_wp2
    go_quiet (fail)
    go_wp2
    go_ret
    exact ⟨rfl, _, rfl⟩

set_option maxHeartbeats 1000000 in
theorem digit_calls (c : Nat) (W : World) : Calls Tryd.prog 84 #[.int .u8 c] W fun e W' => e = .returned (.bool (dgB c)) ∧ W' = W := by
  go_enter Tryd.func84, Tryd.ntmps84
  go_wp2
  all_goals (go_ret; refine ⟨?_, rfl⟩)
  · have h1 : (48 : Int) ≤ (c : Int) := by assumption
    have e : decide ((c : Int) ≤ 57) = dgB c := by unfold dgB; rw [Bool.eq_iff_iff]; simp only [decide_eq_true_eq, Bool.and_eq_true]; omega
    exact congrArg (fun b => Ending.returned (.bool b)) e
  · have h1 : (c : Int) < 48 := by assumption
    have e : false = dgB c := by unfold dgB; rw [decide_eq_false (by omega)]; rfl
    exact congrArg (fun b => Ending.returned (.bool b)) e
set_option maxHeartbeats 1000000 in
theorem letter_calls (c : Nat) (W : World) : Calls Tryd.prog 86 #[.int .u8 c] W fun e W' => e = .returned (.bool (ltB c)) ∧ W' = W := by
  go_enter Tryd.func86, Tryd.ntmps86
  go_wp2
  all_goals (go_ret; refine ⟨?_, rfl⟩)
  · have h1 : (97 : Int) ≤ (c : Int) := by assumption
    have e : decide ((c : Int) ≤ 122) = ltB c := by unfold ltB; rw [Bool.eq_iff_iff]; simp only [decide_eq_true_eq, Bool.and_eq_true]; omega
    exact congrArg (fun b => Ending.returned (.bool b)) e
  · have h1 : (c : Int) < 97 := by assumption
    have e : false = ltB c := by unfold ltB; rw [decide_eq_false (by omega)]; rfl
    exact congrArg (fun b => Ending.returned (.bool b)) e
theorem second_new (W : World) (X Y : Obj) : ((W.alloc X).alloc Y).heap[W.heap.size + 1]? = some Y := by
  have h := World.alloc_heap_new (W.alloc X) Y
  simpa using h

set_option maxRecDepth 100000 in
set_option maxHeartbeats 4000000 in
theorem add_calls {rb n1 : Nat} {s : ByteArray} {W : World} {a : Nat} {v : Value} {l : List Ab.Node} (h : RD rb n1 s W a v l) (x : Ab.Node) (hl : l.length < 1000) :
    Calls Tryd.prog 64 #[.pointer (some ⟨rb, 0, none⟩), .agg (nodeV x).toArray] W fun e W' => ∃ v', e = .returned (.int .i64 l.length) ∧ RD rb n1 s W' a v' (l ++ [x]) ∧ Stp (some rb) v W W' v' := by
  obtain ⟨i0, hi, hz0, hz1, hz2⟩ := info_parts infoN
  have c2 := h.c2
  have hrb := h.rbs
  have hne := h.ne
  have hsz := h.size
  have f2 := h.fr 2
  obtain ⟨xo, xn, xm, xl, xr⟩ := x
  simp only [nodeV]
  have x0 : ∀ j u, (nodeV ⟨xo, xn, xm, xl, xr⟩)[j]? = some u → (W.alloc (.cells (nodeV ⟨xo, xn, xm, xl, xr⟩).toArray 45)).cell? ⟨W.heap.size, j, none⟩ = some u := fun j u hj => by
    have h := World.alloc_heap_new W (.cells (nodeV ⟨xo, xn, xm, xl, xr⟩).toArray 45)
    simp only [World.cell?, h]
    simpa using hj
  have hnx : some W.heap.size ≠ v.ownBlock := fun e => by have := h.row.lt _ e.symm; omega
  have r0 := x0 0 _ rfl
  have r1 := x0 1 _ rfl
  have r2 := x0 2 _ rfl
  have r3 := x0 3 _ rfl
  have r4 := x0 4 _ rfl
  go_enter Tryd.func64, Tryd.ntmps64
  go_wp2_with fail
  go_region_law (((refine step_append_lies _ (by rfl) _ _ _ (by rfl) n1 45 i0 _ 5 48 Tryd.underlying22 hi hz0 hz1 hz2 rfl (by omega) v l.length (rowN l) (by rfl) (((h.row.alloc _).alloc _).drew) ⟨W.heap.size + 1, 0, none⟩ 1 1 (nodeV ⟨xo, xn, xm, xl, xr⟩) (by rfl) (by rfl) (World.news_of_block (cs := (nodeV ⟨xo, xn, xm, xl, xr⟩).toArray) (t := 45) (fr := (0, 0)) (second_new W _ _)) (nodeV_one _) (by omega) (by unfold maxLen; omega) (by omega) (by simp <;> omega) (W.heap.size + 2) (by simp) ?_; intro gg cap w1 hown1 hgrow hat hlt; have g0 : w1.heap[rb]? = some (.cells #[.string s, .int .i64 a, v] 74 (0, 0)) := (hgrow.block rb (by simp <;> omega) hne).trans (show ((W.alloc _).alloc _).heap[rb]? = _ from alloc_at (alloc_at h.cell)); have g1 : w1.cell? ⟨rb, 2, none⟩ = some v := (by simp [World.cell?, g0]); have g2 : w1.frozen? ⟨rb, 2, none⟩ = false := (by simp [World.frozen?, g0]))))
  all_goals go_wp2
  all_goals go_ret
  all_goals
    have hat2 : (Value.slice (some ⟨gg, 0, none⟩) (l.length + 1) cap).ownBlock = v.ownBlock ∨ (Value.slice (some ⟨gg, 0, none⟩) (l.length + 1) cap).ownBlock = some ((W.alloc (.cells (nodeV ⟨xo, xn, xm, xl, xr⟩).toArray 45)).alloc (.cells (nodeV ⟨xo, xn, xm, xl, xr⟩).toArray 45)).heap.size := hat.imp (fun e => e.symm) fun e => by rw [e]; simp [Value.ownBlock]
    refine ⟨_, rfl, RD.put (((h.alloc _).alloc _).drewN 1) hgrow hat2 (by rw [rowN_append, rowN_one, List.length_append]; exact hown1), stp_set ((stp_drewN (stp_alloc (stp_alloc (stp_refl (some rb) v W) _) _) 1).trans (stp_grown hgrow hat2)) (.inr rfl) _⟩
end Go.Proofs.TrydRead
