/-
  rules.reaches as a function of the abstract machine, by what the seat's program is known to answer.
-/
import Derived.Test.YtchidgkpkhloeaaGreatDoorB2
import Derived.Test.YtchidgkpkhloeaaGreatDoorMQu
import Derived.Test.YtchidgkpkhloeaaGreatDoorE1
namespace Ab
open Go Go.RowKit
set_option linter.unusedVariables false
set_option linter.unusedSimpArgs false
def IntsAt (N : Nat) (W : World) (v : Value) (l : List Int) : Prop := (l = [] ∧ (v = .slice none 0 0 ∨ ∃ a c, v = .slice (some a) 0 c)) ∨ ∃ b o cap, v = .slice (some ⟨b, o, none⟩) l.length cap ∧ b < N ∧ ∀ j, j < l.length → W.cell? ⟨b, o + j, none⟩ = some (.int .i64 (l.getD j 0))
def RowsAt (N : Nat) (W : World) (v : Value) (n : List (List Int)) : Prop := ∃ b o cap, v = .slice (some ⟨b, o, none⟩) n.length cap ∧ b < N ∧ ∀ k r, n[k]? = some r → ∃ u, W.cell? ⟨b, o + k, none⟩ = some u ∧ IntsAt N W u r
theorem IntsAt.keep {N : Nat} {W W' : World} {v : Value} {l : List Int} (h : IntsAt N W v l) (hk : ∀ b, b < N → W'.heap[b]? = W.heap[b]?) : IntsAt N W' v l := by
  rcases h with h | ⟨b, o, cap, h1, h2, h3⟩
  · exact .inl h
  · exact .inr ⟨b, o, cap, h1, h2, fun j hj => (World.cell?_of_block (a := ⟨b, o + j, none⟩) (hk b h2)).trans (h3 j hj)⟩
theorem RowsAt.keep {N : Nat} {W W' : World} {v : Value} {n : List (List Int)} (h : RowsAt N W v n) (hk : ∀ b, b < N → W'.heap[b]? = W.heap[b]?) : RowsAt N W' v n := by
  obtain ⟨b, o, cap, h1, h2, h3⟩ := h
  refine ⟨b, o, cap, h1, h2, fun k r hr => ?_⟩
  obtain ⟨u, k1, k2⟩ := h3 k r hr
  exact ⟨u, (World.cell?_of_block (a := ⟨b, o + k, none⟩) (hk b h2)).trans k1, k2.keep hk⟩
theorem IntsAt.src {P : Program} {t e : TypeId} (ht : P.underlying t = some (.slice e)) {N : Nat} {W : World} {v : Value} {l : List Int} (h : IntsAt N W v l) : Go.Src P 1 t v l.length (l.map (Value.int .i64)) W := by
  have hone : ∀ u ∈ l.map (Value.int .i64), u.oneCell' = true := fun u hu => by obtain ⟨x, _, rfl⟩ := List.mem_map.1 hu; rfl
  rcases h with ⟨rfl, rfl | ⟨a, c, rfl⟩⟩ | ⟨b, o, cap, rfl, h2, h3⟩
  · exact Go.Src.ofNil W ht 0
  · exact Go.Src.ofSlice W ht a 0 c [] (by simp) (by simp) (by simp)
  · refine Go.Src.ofSlice W ht ⟨b, o, none⟩ l.length cap _ (by simp) (fun j u hu => ?_) hone
    rw [Addr.add_lit]
    rw [List.getElem?_map, Option.map_eq_some_iff] at hu
    obtain ⟨x, hx, rfl⟩ := hu
    have hj := (List.getElem?_eq_some_iff.1 hx).1
    rw [h3 j hj, List.getD_eq_getElem?_getD, hx]
    rfl
structure SmallR (n : List (List Int)) (i : Int) : Prop where
  rng : Rng n
  lo : 0 ≤ i
  hi : i.toNat < n.length
  len : n.length ≤ 1000
  rows : ∀ k, (n.getD k []).length ≤ 1000
def ReachAt (S : Seat) : Prop := ∀ g, assoc g S.fns = some 303 → ∀ (n : List (List Int)) (i : Nat) (v : Value) (W : World) (b : Bool), RowsAt W.heap.size W v n → SmallR n i → selfN n i = some b →
  Calls S.P g #[v, .int .i64 i] W fun e W' => e = .returned (.bool b) ∧ KeepO (fun _ => False) W W'
open Classical in
noncomputable def P303 (n : List (List Int)) (i : Int) : Option Bool := if SmallR n i then selfN n i.toNat else none
noncomputable def k303 : CSpec := ⟨303, [.sl (.sl .int), .int], .bool, fun x => P303 x.1 x.2, false, []⟩
theorem ints_back {S : Seat} {A : Nat → Prop} {N : Nat} {w : World} {l : List Int} {v : Value} (hA : ∀ b, A b → b < N) (h : VR0 S A w (.sl 1 (l.map fun x => [aI x])) v) : IntsAt N w v l := by
  rcases VR.sl_inv (σ := fun _ => none) (.of0 h) with ⟨e, rfl⟩ | ⟨b, o, cap, u, rfl, h1, h2, h3, h4, h5, h6⟩ | ⟨e, a, cap, rfl⟩
  · exact .inl ⟨by simpa using e, .inl rfl⟩
  · refine .inr ⟨b, o, cap, by rw [List.length_map], hA b h1, fun j hj => ?_⟩
    have hg := List.getElem?_eq_getElem hj
    have h7 := h6 j [aI l[j]] 0 (aI l[j]) (by rw [List.getElem?_map, hg]; rfl) rfl
    have h8 := h4 j (by rw [List.length_map]; omega)
    rw [Nat.mul_one, Nat.add_zero] at h7
    rw [h8, VR.v_inv (σ := fun _ => none) (.of0 h7), List.getD_eq_getElem?_getD, hg]
    rfl
  · exact .inl ⟨by simpa using e, .inr ⟨_, _, rfl⟩⟩
theorem rows_back {S : Seat} {A : Nat → Prop} {N : Nat} {w : World} {n : List (List Int)} {v : Value} (hA : ∀ b, A b → b < N) (hn : n ≠ []) (h : VR0 S A w (.sl 1 (n.map fun r => [AV.sl 1 (r.map fun x => [aI x])])) v) : RowsAt N w v n := by
  rcases VR.sl_inv (σ := fun _ => none) (.of0 h) with ⟨e, rfl⟩ | ⟨b, o, cap, u, rfl, h1, h2, h3, h4, h5, h6⟩ | ⟨e, a, cap, rfl⟩
  · exact absurd (by simpa using e) hn
  · refine ⟨b, o, cap, by rw [List.length_map], hA b h1, fun k r hr => ?_⟩
    have hk := (List.getElem?_eq_some_iff.1 hr).1
    have h7 := h6 k [AV.sl 1 (r.map fun x => [aI x])] 0 (AV.sl 1 (r.map fun x => [aI x])) (by rw [List.getElem?_map, hr]; rfl) rfl
    have h8 := h4 k (by rw [List.length_map]; omega)
    rw [Nat.mul_one, Nat.add_zero] at h7
    exact ⟨u k, h8, ints_back hA h7⟩
  · exact absurd (by simpa using e) hn
theorem r303 {S : Seat} (h : ReachAt S) : Rt S k303 := fun (x : List (List Int) × Int) (y : Bool) hy => by
  obtain ⟨n, i⟩ := x
  have hy : P303 n i = some y := hy
  intro g hg
  show RealM S g [.sl 1 (n.map fun r => [AV.sl 1 (r.map fun x => [aI x])]), aI i] (.v (.bool y)) []
  unfold P303 at hy
  split at hy
  · rename_i hs
    refine realM_of (fun A w vs hl hA ha => ?_) (by simp [isOwn, aI])
    obtain ⟨x0, x1, rfl⟩ : ∃ x0 x1, vs = #[x0, x1] := by
      obtain ⟨r⟩ := vs
      match r, hl with
      | [x0, x1], _ => exact ⟨x0, x1, rfl⟩
    have h0 := ha 0 _ rfl
    obtain rfl : x1 = .int .i64 i := VR.v_inv (σ := fun _ => none) (.of0 (ha 1 _ rfl))
    have hn : n ≠ [] := fun e => by have := hs.hi; subst e; simp at this
    have hr := rows_back (N := w.heap.size) hA.1 hn h0
    have hi : i = ((i.toNat : Nat) : Int) := by have := hs.lo; omega
    have := h g hg n i.toNat x0 w y hr (by rw [← hi]; exact hs) hy
    rw [← hi] at this
    refine this.mono ?_
    rintro e W' ⟨rfl, hk⟩
    exact ⟨_, rfl, hk, fun _ => none, by simp, by simp, rfl, .v _⟩
  · cases hy
end Ab
