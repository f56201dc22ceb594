/-
  slices.Sort and slices.Compact of strings, as functions of the abstract machine that are handed rows, by what the seat's program is known to answer.
-/
import Derived.Test.YtcabflannjeigaaGreatDoorB2
import Derived.Sort.OwnSorted
import Derived.Lib.SlicesCompact
namespace Ab
open Go Go.RowKit Go.Sort Go.Proofs
set_option linter.unusedVariables false
set_option linter.unusedSimpArgs false

def sL (l : List ByteArray) : List (List UInt8) := l.map fun s => s.data.toList
def bL (l : List (List UInt8)) : List ByteArray := l.map fun x => ⟨x.toArray⟩
theorem bL_length (l : List (List UInt8)) : (bL l).length = l.length := by simp [bL]
theorem sL_length (l : List ByteArray) : (sL l).length = l.length := by simp [sL]
theorem bL_sL (l : List ByteArray) : bL (sL l) = l := by
  unfold bL sL
  rw [List.map_map]
  conv => rhs; rw [← List.map_id l]
  exact List.map_congr_left fun s _ => rfl
def sortS (l : List ByteArray) : List ByteArray := bL ((sL l).mergeSort fun x y => decide (x ≤ y))
def compS (l : List ByteArray) : List ByteArray := bL (Lib.compact (sL l))
theorem sortS_length (l : List ByteArray) : (sortS l).length = l.length := by unfold sortS; rw [bL_length, List.length_mergeSort, sL_length]

def SortSAt (S : Seat) : Prop := ∀ g, assoc g S.fns = some 255 →
  (∀ (blk cap : Nat) (ss : List (List UInt8)) (w : World), Holds encStr w blk 0 ss.toArray → blk < w.heap.size → ss.length < 4611686018427387904 →
    Calls S.P g #[.slice (some ⟨blk, 0, none⟩) ss.length cap] w fun e w' => e = .returned (.tuple #[]) ∧ ∃ n os, w' = grow (putRow encStr (Sort.ahead w n) blk 0 (ss.mergeSort fun x y => decide (x ≤ y)).toArray) os) ∧
  ∀ (p : Option Addr) (cap : Nat) (w : World), Calls S.P g #[.slice p 0 cap] w fun e w' => e = .returned (.tuple #[]) ∧ w' = w
def CompSAt (S : Seat) : Prop := ∀ g, assoc g S.fns = some 256 →
  (∀ (blk cap : Nat) (zs : List (List UInt8)) (w : World), Holds encStr w blk 0 zs.toArray → zs.length ≤ 9223372036854775807 → zs.length ≤ cap →
    Calls S.P g #[.slice (some ⟨blk, 0, none⟩) zs.length cap] w fun e w' => e = .returned (.slice (some ⟨blk, 0, none⟩) (Lib.compact zs).length cap) ∧
      ∃ q, w' = putRow encStr (Sort.ahead w q) blk 0 (Lib.compact zs ++ List.replicate (zs.length - (Lib.compact zs).length) []).toArray) ∧
  ∀ (a : Option Addr) (cap : Nat) (w : World), Calls S.P g #[.slice a 0 cap] w fun e w' => e = .returned (.slice a 0 cap) ∧ w' = w

/-- The row of strings that a block holds. -/
theorem ownS_done {S : Seat} {A : Nat → Prop} {w : World} {b cap : Nat} {cur : Array Value} {el : TypeId} {zs : List (List UInt8)} (hb : w.heap[b]? = some (.cells cur el (0, 0))) (ht : cur.toList.take zs.length = zs.map encStr) (h1 : zs.length ≤ cap) (h2 : cap ≤ maxLen) (h3 : cap ≤ cur.size) :
    OwnRel S A w (some b) 1 ((bL zs).map fun s => [aS s]) (.slice (some ⟨b, 0, none⟩) zs.length cap) := by
  have hl : ((bL zs).map fun s => [aS s]).length = zs.length := by simp [bL]
  have hget : ∀ j, j < zs.length → cur.getD j undef = encStr (zs[j]?.getD []) := fun j hj => by
    have h4 : (cur.toList.take zs.length)[j]? = (zs.map encStr)[j]? := by rw [ht]
    rw [List.getElem?_take_of_lt hj, Array.getElem?_toList, List.getElem?_map] at h4
    rw [Array.getD_eq_getD_getElem?, h4, List.getElem?_eq_getElem hj]
    rfl
  refine ⟨fun e he => ?_, .inr ⟨b, cap, cur, el, rfl, by rw [hl], by rw [hl]; exact h1, h2, hb, by omega, fun j hj => ?_, fun i e c x hi hc => ?_⟩⟩
  · obtain ⟨s, _, rfl⟩ := List.mem_map.1 he; rfl
  · rw [hl] at hj
    rw [hget j (by omega)]
    rfl
  · have hi' : i < zs.length := by have := (List.getElem?_eq_some_iff.1 hi).1; omega
    rw [List.getElem?_map, bL, List.getElem?_map, List.getElem?_eq_getElem hi'] at hi
    cases hi
    match c, hc with
    | 0, hc =>
      cases hc
      rw [Nat.mul_one, Nat.add_zero, hget i hi', List.getElem?_eq_getElem hi']
      exact .v _
    | c + 1, hc => simp at hc
/-- What a row of strings is: nil, or a block of its own. -/
theorem ownS_cases {S : Seat} {A : Nat → Prop} {w : World} {b? : Option Nat} {l : List ByteArray} {v : Value} (h : OwnRel S A w b? 1 (l.map fun s => [aS s]) v) :
    (b? = none ∧ l = [] ∧ v = .slice none 0 0) ∨ ∃ b cap cur el, b? = some b ∧ v = .slice (some ⟨b, 0, none⟩) (sL l).length cap ∧ (sL l).length ≤ cap ∧ cap ≤ maxLen ∧ w.heap[b]? = some (.cells cur el (0, 0)) ∧ cap ≤ cur.size ∧ cur.toList.take (sL l).length = (sL l).map encStr := by
  obtain ⟨_, ⟨h1, h2, h3⟩ | ⟨b, cap, cur, el, h1, h2, h3, h4, h5, h6, h7, h8⟩⟩ := h
  · exact .inl ⟨h1, by simpa using h2, h3⟩
  · have hl : (l.map fun s => [aS s]).length = (sL l).length := by simp [sL]
    rw [hl] at h2 h3 h7
    refine .inr ⟨b, cap, cur, el, h1, h2, h3, h4, h5, by omega, ?_⟩
    apply List.ext_getElem?
    intro j
    by_cases hj : j < (sL l).length
    · have hj' : j < l.length := by rw [sL_length] at hj; exact hj
      rw [List.getElem?_take_of_lt hj, Array.getElem?_toList, List.getElem?_map, sL, List.getElem?_map, List.getElem?_eq_getElem hj']
      have := h8 j [aS l[j]] 0 (aS l[j]) (by rw [List.getElem?_map, List.getElem?_eq_getElem hj']; rfl) rfl
      rw [Nat.mul_one, Nat.add_zero] at this
      have e := VR.v_inv (σ := fun _ => none) (.of0 this)
      have hs : j < cur.size := by omega
      rw [Array.getD_eq_getD_getElem?, Array.getElem?_eq_getElem hs] at e
      rw [Array.getElem?_eq_getElem hs]
      exact congrArg some e
    · rw [List.getElem?_take_eq_none (by omega), List.getElem?_eq_none (by simp; omega)]
theorem keepO_grown {w w' : World} {ι : Nat → Option Nat} {b : Nat} (h : w.grownBy w' (some b)) (hb : ι 0 = some b) : KeepO (Taken ι) w w' :=
  ⟨h.os, h.tape, h.output, h.size, fun k hk hn => h.block k hk fun e => hn ⟨0, by rw [hb, Option.some.inj e]⟩⟩

noncomputable def P255 (l : List ByteArray) : Option (List ByteArray) := ck (decide (List.length l ≤ roomA)) (some (sortS l))
noncomputable def k255 : CSpec := ⟨255, [.own .str], .own .str, fun x => P255 x, false, [0]⟩
theorem r255 {S : Seat} (h : SortSAt S) : Rt S k255 := fun (l : List ByteArray) (y : List ByteArray) hy => by
  obtain ⟨h1, h2⟩ := ck_some (show P255 l = some y from hy)
  have h1 := of_decide_eq_true h1
  obtain rfl := Option.some.inj h2
  show (realRets S).ret 255 [.own 1 (l.map fun s => [aS s])] (.tup []) [(0, (sortS l).map fun s => [aS s])]
  intro g hg A w vs ι hl hA hι hargs
  obtain ⟨hS, hN⟩ := h g hg
  obtain ⟨x0, rfl⟩ : ∃ x0, vs = #[x0] := by
    obtain ⟨r⟩ := vs
    match r, hl with
    | [x0], _ => exact ⟨x0, rfl⟩
  have h0 : OwnRel S A w (ι 0) 1 (l.map fun s => [aS s]) x0 := hargs 0 _ rfl
  have hno : ∀ i b, ι i = some b → i = 0 := fun i b hb => by have := (hι.1 i b hb).1; simp at this; omega
  rcases ownS_cases h0 with ⟨b1, rfl, rfl⟩ | ⟨b, cap, cur, el, b1, rfl, b3, b4, b5, b6, b7⟩
  · refine (hN none 0 w).mono ?_
    rintro e w' ⟨rfl, rfl⟩
    refine ⟨_, rfl, KeepO.refl _ _, fun _ => none, by simp, by simp, fun i es z es0 hm ha => ?_, ⟨#[], rfl, rfl, by simp⟩⟩
    obtain ⟨rfl, rfl⟩ := Prod.mk.inj (List.mem_singleton.1 hm)
    cases ha
    refine ⟨by simp [sortS, sL, bL], ?_, fun b cs el hb => by rw [b1] at hb; cases hb⟩
    rw [b1]
    exact ⟨by simp [sortS, sL, bL], .inl ⟨rfl, by simp [sortS, sL, bL], rfl⟩⟩
  · have hH : Holds encStr w b 0 (sL l).toArray := holds_of_block b5 b7
    have hlt : b < w.heap.size := (Array.getElem?_eq_some_iff.1 b5).1
    refine (hS b cap (sL l) w hH hlt (by rw [sL_length]; unfold roomA at h1; omega)).mono ?_
    rintro e w' ⟨rfl, n, os, rfl⟩
    have hg2 := grownBy_sorted (w := w) (g := b) (n := n) (os := os) ((sL l).mergeSort fun x y => decide (x ≤ y)).toArray
    have hb2 := heap_sorted (n := n) (os := os) ((sL l).mergeSort fun x y => decide (x ≤ y)).toArray b5
    have hml : ((sL l).mergeSort fun x y => decide (x ≤ y)).length = (sL l).length := List.length_mergeSort ..
    refine ⟨_, rfl, keepO_grown hg2 b1, fun _ => none, by simp, by simp, fun i es z es0 hm ha => ?_, ⟨#[], rfl, rfl, by simp⟩⟩
    obtain ⟨rfl, rfl⟩ := Prod.mk.inj (List.mem_singleton.1 hm)
    cases ha
    refine ⟨by simp [sortS_length], ?_, fun b' cs el' hb hc => ?_⟩
    · rw [b1]
      have := ownS_done (S := S) (A := After (fun b => A b ∨ Eaten ι [(0, (sortS l).map fun s => [aS s])] b) (fun _ => none) w (grow (putRow encStr (Sort.ahead w n) b 0 ((sL l).mergeSort fun x y => decide (x ≤ y)).toArray) os)) hb2 (zs := (sL l).mergeSort fun x y => decide (x ≤ y)) (cap := cap) (take_putCells cur _ (by omega)) (by omega) b4 (by simpa [putCells] using b6)
      rw [hml] at this
      exact this
    · rw [b1] at hb
      obtain rfl := Option.some.inj hb
      rw [b5] at hc
      cases hc
      exact ⟨_, hb2, by simp [putCells]⟩
noncomputable def P256 (l : List ByteArray) : Option (List ByteArray) := ck (decide (List.length l ≤ roomA)) (some (compS l))
noncomputable def k256 : CSpec := ⟨256, [.own .str], .own .str, fun x => P256 x, false, [1000]⟩
theorem r256 {S : Seat} (h : CompSAt S) : Rt S k256 := fun (l : List ByteArray) (y : List ByteArray) hy => by
  obtain ⟨h1, h2⟩ := ck_some (show P256 l = some y from hy)
  have h1 := of_decide_eq_true h1
  obtain rfl := Option.some.inj h2
  show (realRets S).ret 256 [.own 1 (l.map fun s => [aS s])] (.own 1 ((compS l).map fun s => [aS s])) []
  intro g hg A w vs ι hl hA hι hargs
  obtain ⟨hS, hN⟩ := h g hg
  obtain ⟨x0, rfl⟩ : ∃ x0, vs = #[x0] := by
    obtain ⟨r⟩ := vs
    match r, hl with
    | [x0], _ => exact ⟨x0, rfl⟩
  have h0 : OwnRel S A w (ι 0) 1 (l.map fun s => [aS s]) x0 := hargs 0 _ rfl
  rcases ownS_cases h0 with ⟨b1, rfl, rfl⟩ | ⟨b, cap, cur, el, b1, rfl, b3, b4, b5, b6, b7⟩
  · refine (hN none 0 w).mono ?_
    rintro e w' ⟨rfl, rfl⟩
    refine ⟨_, rfl, KeepO.refl _ _, fun _ => none, by simp, by simp, (fun i es z es0 hm => by cases hm), ?_⟩
    have e0 : compS [] = [] := by simp [compS, sL, bL, Lib.compact, Lib.compactUpTo]
    rw [e0]
    exact ⟨by simp, .inl ⟨rfl, rfl, rfl⟩⟩
  · have hH : Holds encStr w b 0 (sL l).toArray := holds_of_block b5 b7
    have hlt : b < w.heap.size := (Array.getElem?_eq_some_iff.1 b5).1
    have hle : (Lib.compact (sL l)).length ≤ (sL l).length := by
      unfold Lib.compact Lib.compactUpTo
      rw [List.length_map]
      exact Nat.le_trans (List.length_filter_le _ _) (by simp)
    refine (hS b cap (sL l) w hH (by rw [sL_length]; unfold roomA at h1; omega) b3).mono ?_
    rintro e w' ⟨rfl, q, rfl⟩
    generalize hzz : Lib.compact (sL l) ++ List.replicate ((sL l).length - (Lib.compact (sL l)).length) [] = zz
    have hzl : zz.length = (sL l).length := by rw [← hzz]; simp; omega
    have hg2 := grownBy_sorted (w := w) (g := b) (n := q) (os := #[]) zz.toArray
    have hb2 := heap_sorted (n := q) (os := #[]) zz.toArray b5
    rw [grow_empty] at hg2 hb2
    have ht := take_putCells cur zz (by omega)
    have ht2 : (putCells encStr 0 zz.toArray cur).toList.take (Lib.compact (sL l)).length = (Lib.compact (sL l)).map encStr := by
      have : (putCells encStr 0 zz.toArray cur).toList.take (Lib.compact (sL l)).length = ((putCells encStr 0 zz.toArray cur).toList.take zz.length).take (Lib.compact (sL l)).length := by rw [List.take_take, Nat.min_eq_left (by omega)]
      rw [this, ht, ← hzz, List.map_append]
      exact List.take_left' (by simp)
    have hβ : ∀ i b', (if i = 0 then some b else none) = some b' → i = 0 ∧ b' = b := fun i b' h => by
      split at h
      · rename_i e; cases h; exact ⟨e, rfl⟩
      · cases h
    refine ⟨_, rfl, keepO_grown hg2 b1, fun i => if i = 0 then some b else none, fun i b' hib => ?_, fun i j b' hi hj => (hβ i b' hi).1.trans (hβ j b' hj).1.symm, (fun i es z es0 hm => by cases hm), ?_⟩
    · obtain ⟨_, rfl⟩ := hβ i b' hib
      exact ⟨.inr ⟨0, b1, fun es => by simp⟩, Nat.lt_of_lt_of_le hlt hg2.size⟩
    · show OwnRel S _ _ (some b) 1 ((compS l).map fun s => [aS s]) _
      exact ownS_done hb2 ht2 (by omega) b4 (by simpa [putCells] using b6)
end Ab
