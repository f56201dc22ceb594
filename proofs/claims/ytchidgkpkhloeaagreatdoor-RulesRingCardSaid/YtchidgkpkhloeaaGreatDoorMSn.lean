/-
  slices.Sort and slices.Compact of ints, as functions of the abstract machine that are handed rows, by what the seat's program is known to answer.
-/
import Derived.Test.YtchidgkpkhloeaaGreatDoorB2
import Derived.Sort.OwnSorted
import Derived.Sort.OwnSortedInts
import Derived.Lib.SlicesCompact
namespace Ab
open Go Go.RowKit Go.Sort Go.Proofs
set_option linter.unusedVariables false
set_option linter.unusedSimpArgs false
def sortI (l : List Int) : List Int := l.mergeSort fun x y => decide (x ≤ y)
def compI (l : List Int) : List Int := Lib.compact l
theorem sortI_length (l : List Int) : (sortI l).length = l.length := by unfold sortI; rw [List.length_mergeSort]
def SortIAt (S : Seat) : Prop := ∀ g, assoc g S.fns = some 213 →
  (∀ (blk cap : Nat) (ss : List Int) (w : World), Holds (Value.int .i64) w blk 0 ss.toArray → blk < w.heap.size → ss.length < 4611686018427387904 →
    Calls S.P g #[.slice (some ⟨blk, 0, none⟩) ss.length cap] w fun e w' => e = .returned (.tuple #[]) ∧ ∃ n os, w' = grow (putRow (Value.int .i64) (Sort.ahead w n) blk 0 (ss.mergeSort fun x y => decide (x ≤ y)).toArray) os) ∧
  ∀ (p : Option Addr) (cap : Nat) (w : World), Calls S.P g #[.slice p 0 cap] w fun e w' => e = .returned (.tuple #[]) ∧ w' = w
def CompIAt (S : Seat) : Prop := ∀ g, assoc g S.fns = some 302 →
  (∀ (blk cap : Nat) (zs : List Int) (w : World), Holds (Value.int .i64) w blk 0 zs.toArray → zs.length ≤ 9223372036854775807 → zs.length ≤ cap →
    Calls S.P g #[.slice (some ⟨blk, 0, none⟩) zs.length cap] w fun e w' => e = .returned (.slice (some ⟨blk, 0, none⟩) (Lib.compact zs).length cap) ∧
      ∃ q, w' = putRow (Value.int .i64) (Sort.ahead w q) blk 0 (Lib.compact zs ++ List.replicate (zs.length - (Lib.compact zs).length) 0).toArray) ∧
  ∀ (a : Option Addr) (cap : Nat) (w : World), Calls S.P g #[.slice a 0 cap] w fun e w' => e = .returned (.slice a 0 cap) ∧ w' = w
theorem ownI_done {S : Seat} {A : Nat → Prop} {w : World} {b cap : Nat} {cur : Array Value} {el : TypeId} {zs : List Int} (hb : w.heap[b]? = some (.cells cur el (0, 0))) (ht : cur.toList.take zs.length = zs.map (Value.int .i64)) (h1 : zs.length ≤ cap) (h2 : cap ≤ maxLen) (h3 : cap ≤ cur.size) :
    OwnRel S A w (some b) 1 (zs.map fun s => [aI s]) (.slice (some ⟨b, 0, none⟩) zs.length cap) := by
  have hl : (zs.map fun s => [aI s]).length = zs.length := by simp
  have hget : ∀ j, j < zs.length → cur.getD j undef = (Value.int .i64) (zs[j]?.getD 0) := fun j hj => by
    have h4 : (cur.toList.take zs.length)[j]? = (zs.map (Value.int .i64))[j]? := by rw [ht]
    rw [List.getElem?_take_of_lt hj, Array.getElem?_toList, List.getElem?_map] at h4
    rw [Array.getD_eq_getD_getElem?, h4, List.getElem?_eq_getElem hj]
    rfl
  refine ⟨fun e he => ?_, .inr ⟨b, cap, cur, el, rfl, by rw [hl], by rw [hl]; exact h1, h2, hb, by omega, fun j hj => ?_, fun i e c x hi hc => ?_⟩⟩
  · obtain ⟨s, _, rfl⟩ := List.mem_map.1 he; rfl
  · rw [hl] at hj
    rw [hget j (by omega)]
    rfl
  · have hi' : i < zs.length := by have := (List.getElem?_eq_some_iff.1 hi).1; omega
    rw [List.getElem?_map, List.getElem?_eq_getElem hi'] at hi
    cases hi
    match c, hc with
    | 0, hc =>
      cases hc
      rw [Nat.mul_one, Nat.add_zero, hget i hi', List.getElem?_eq_getElem hi']
      exact .v _
    | c + 1, hc => simp at hc
theorem ownI_cases {S : Seat} {A : Nat → Prop} {w : World} {b? : Option Nat} {l : List Int} {v : Value} (h : OwnRel S A w b? 1 (l.map fun s => [aI s]) v) :
    (b? = none ∧ l = [] ∧ v = .slice none 0 0) ∨ ∃ b cap cur el, b? = some b ∧ v = .slice (some ⟨b, 0, none⟩) l.length cap ∧ l.length ≤ cap ∧ cap ≤ maxLen ∧ w.heap[b]? = some (.cells cur el (0, 0)) ∧ cap ≤ cur.size ∧ cur.toList.take l.length = l.map (Value.int .i64) := by
  obtain ⟨_, ⟨h1, h2, h3⟩ | ⟨b, cap, cur, el, h1, h2, h3, h4, h5, h6, h7, h8⟩⟩ := h
  · exact .inl ⟨h1, by simpa using h2, h3⟩
  · have hl : (l.map fun s => [aI s]).length = l.length := by simp []
    rw [hl] at h2 h3 h7
    refine .inr ⟨b, cap, cur, el, h1, h2, h3, h4, h5, by omega, ?_⟩
    apply List.ext_getElem?
    intro j
    by_cases hj : j < l.length
    · have hj' : j < l.length := by rw [] at hj; exact hj
      rw [List.getElem?_take_of_lt hj, Array.getElem?_toList, List.getElem?_map, List.getElem?_eq_getElem hj']
      have := h8 j [aI l[j]] 0 (aI l[j]) (by rw [List.getElem?_map, List.getElem?_eq_getElem hj']; rfl) rfl
      rw [Nat.mul_one, Nat.add_zero] at this
      have e := VR.v_inv (σ := fun _ => none) (.of0 this)
      have hs : j < cur.size := by omega
      rw [Array.getD_eq_getD_getElem?, Array.getElem?_eq_getElem hs] at e
      rw [Array.getElem?_eq_getElem hs]
      exact congrArg some e
    · rw [List.getElem?_take_eq_none (by omega), List.getElem?_eq_none (by simp; omega)]
theorem keepO_grownI {w w' : World} {ι : Nat → Option Nat} {b : Nat} (h : w.grownBy w' (some b)) (hb : ι 0 = some b) : KeepO (Taken ι) w w' :=
  ⟨h.os, h.tape, h.output, h.size, fun k hk hn => h.block k hk fun e => hn ⟨0, by rw [hb, Option.some.inj e]⟩⟩
noncomputable def P213 (l : List Int) : Option (List Int) := ck (decide (List.length l ≤ roomA)) (some (sortI l))
noncomputable def k213 : CSpec := ⟨213, [.own .int], .own .int, fun x => P213 x, false, [0]⟩
theorem r213 {S : Seat} (h : SortIAt S) : Rt S k213 := fun (l : List Int) (y : List Int) hy => by
  obtain ⟨h1, h2⟩ := ck_some (show P213 l = some y from hy)
  have h1 := of_decide_eq_true h1
  obtain rfl := Option.some.inj h2
  show (realRets S).ret 213 [.own 1 (l.map fun s => [aI s])] (.tup []) [(0, (sortI l).map fun s => [aI s])]
  intro g hg A w vs ι hl hA hι hargs
  obtain ⟨hS, hN⟩ := h g hg
  obtain ⟨x0, rfl⟩ : ∃ x0, vs = #[x0] := by
    obtain ⟨r⟩ := vs
    match r, hl with
    | [x0], _ => exact ⟨x0, rfl⟩
  have h0 : OwnRel S A w (ι 0) 1 (l.map fun s => [aI s]) x0 := hargs 0 _ rfl
  have hno : ∀ i b, ι i = some b → i = 0 := fun i b hb => by have := (hι.1 i b hb).1; simp at this; omega
  rcases ownI_cases h0 with ⟨b1, rfl, rfl⟩ | ⟨b, cap, cur, el, b1, rfl, b3, b4, b5, b6, b7⟩
  · refine (hN none 0 w).mono ?_
    rintro e w' ⟨rfl, rfl⟩
    refine ⟨_, rfl, KeepO.refl _ _, fun _ => none, by simp, by simp, fun i es z es0 hm ha => ?_, ⟨#[], rfl, rfl, by simp⟩⟩
    obtain ⟨rfl, rfl⟩ := Prod.mk.inj (List.mem_singleton.1 hm)
    cases ha
    refine ⟨by simp [sortI], ?_, fun b cs el hb => by rw [b1] at hb; cases hb⟩
    rw [b1]
    exact ⟨by simp [sortI], .inl ⟨rfl, by simp [sortI], rfl⟩⟩
  · have hH : Holds (Value.int .i64) w b 0 l.toArray := holds_of_blockI b5 b7
    have hlt : b < w.heap.size := (Array.getElem?_eq_some_iff.1 b5).1
    refine (hS b cap l w hH hlt (by rw []; unfold roomA at h1; omega)).mono ?_
    rintro e w' ⟨rfl, n, os, rfl⟩
    have hg2 := grownBy_sortedI (w := w) (g := b) (n := n) (os := os) (l.mergeSort fun x y => decide (x ≤ y)).toArray
    have hb2 := heap_sortedI (n := n) (os := os) (l.mergeSort fun x y => decide (x ≤ y)).toArray b5
    have hml : (l.mergeSort fun x y => decide (x ≤ y)).length = l.length := List.length_mergeSort ..
    refine ⟨_, rfl, keepO_grownI hg2 b1, fun _ => none, by simp, by simp, fun i es z es0 hm ha => ?_, ⟨#[], rfl, rfl, by simp⟩⟩
    obtain ⟨rfl, rfl⟩ := Prod.mk.inj (List.mem_singleton.1 hm)
    cases ha
    refine ⟨by simp [sortI_length], ?_, fun b' cs el' hb hc => ?_⟩
    · rw [b1]
      have := ownI_done (S := S) (A := After (fun b => A b ∨ Eaten ι [(0, (sortI l).map fun s => [aI s])] b) (fun _ => none) w (grow (putRow (Value.int .i64) (Sort.ahead w n) b 0 (l.mergeSort fun x y => decide (x ≤ y)).toArray) os)) hb2 (zs := l.mergeSort fun x y => decide (x ≤ y)) (cap := cap) (take_putCellsI cur _ (by omega)) (by omega) b4 (by simpa [putCells] using b6)
      rw [hml] at this
      exact this
    · rw [b1] at hb
      obtain rfl := Option.some.inj hb
      rw [b5] at hc
      cases hc
      exact ⟨_, hb2, by simp [putCells]⟩
noncomputable def P302 (l : List Int) : Option (List Int) := ck (decide (List.length l ≤ roomA)) (some (compI l))
noncomputable def k302 : CSpec := ⟨302, [.own .int], .own .int, fun x => P302 x, false, [1000]⟩
theorem r302 {S : Seat} (h : CompIAt S) : Rt S k302 := fun (l : List Int) (y : List Int) hy => by
  obtain ⟨h1, h2⟩ := ck_some (show P302 l = some y from hy)
  have h1 := of_decide_eq_true h1
  obtain rfl := Option.some.inj h2
  show (realRets S).ret 302 [.own 1 (l.map fun s => [aI s])] (.own 1 ((compI l).map fun s => [aI s])) []
  intro g hg A w vs ι hl hA hι hargs
  obtain ⟨hS, hN⟩ := h g hg
  obtain ⟨x0, rfl⟩ : ∃ x0, vs = #[x0] := by
    obtain ⟨r⟩ := vs
    match r, hl with
    | [x0], _ => exact ⟨x0, rfl⟩
  have h0 : OwnRel S A w (ι 0) 1 (l.map fun s => [aI s]) x0 := hargs 0 _ rfl
  rcases ownI_cases h0 with ⟨b1, rfl, rfl⟩ | ⟨b, cap, cur, el, b1, rfl, b3, b4, b5, b6, b7⟩
  · refine (hN none 0 w).mono ?_
    rintro e w' ⟨rfl, rfl⟩
    refine ⟨_, rfl, KeepO.refl _ _, fun _ => none, by simp, by simp, (fun i es z es0 hm => by cases hm), ?_⟩
    have e0 : compI [] = [] := by simp [compI, Lib.compact, Lib.compactUpTo]
    rw [e0]
    exact ⟨by simp, .inl ⟨rfl, rfl, rfl⟩⟩
  · have hH : Holds (Value.int .i64) w b 0 l.toArray := holds_of_blockI b5 b7
    have hlt : b < w.heap.size := (Array.getElem?_eq_some_iff.1 b5).1
    have hle : (Lib.compact l).length ≤ l.length := by
      unfold Lib.compact Lib.compactUpTo
      rw [List.length_map]
      exact Nat.le_trans (List.length_filter_le _ _) (by simp)
    refine (hS b cap l w hH (by rw []; unfold roomA at h1; omega) b3).mono ?_
    rintro e w' ⟨rfl, q, rfl⟩
    generalize hzz : Lib.compact l ++ List.replicate (l.length - (Lib.compact l).length) 0 = zz
    have hzl : zz.length = l.length := by rw [← hzz]; simp; omega
    have hg2 := grownBy_sortedI (w := w) (g := b) (n := q) (os := #[]) zz.toArray
    have hb2 := heap_sortedI (n := q) (os := #[]) zz.toArray b5
    rw [grow_empty] at hg2 hb2
    have ht := take_putCellsI cur zz (by omega)
    have ht2 : (putCells (Value.int .i64) 0 zz.toArray cur).toList.take (Lib.compact l).length = (Lib.compact l).map (Value.int .i64) := by
      have : (putCells (Value.int .i64) 0 zz.toArray cur).toList.take (Lib.compact l).length = ((putCells (Value.int .i64) 0 zz.toArray cur).toList.take zz.length).take (Lib.compact l).length := by rw [List.take_take, Nat.min_eq_left (by omega)]
      rw [this, ht, ← hzz, List.map_append]
      exact List.take_left' (by simp)
    have hβ : ∀ i b', (if i = 0 then some b else none) = some b' → i = 0 ∧ b' = b := fun i b' h => by
      split at h
      · rename_i e; cases h; exact ⟨e, rfl⟩
      · cases h
    refine ⟨_, rfl, keepO_grownI hg2 b1, fun i => if i = 0 then some b else none, fun i b' hib => ?_, fun i j b' hi hj => (hβ i b' hi).1.trans (hβ j b' hj).1.symm, (fun i es z es0 hm => by cases hm), ?_⟩
    · obtain ⟨_, rfl⟩ := hβ i b' hib
      exact ⟨.inr ⟨0, b1, fun es => by simp⟩, Nat.lt_of_lt_of_le hlt hg2.size⟩
    · show OwnRel S _ _ (some b) 1 ((Lib.compact l).map fun s => [aI s]) _
      exact ownI_done hb2 ht2 (by omega) b4 (by simpa [putCells] using b6)
end Ab
