/-
  The document's ReadFormula as a function of the abstract machine, by what the seat's program is known to answer.
-/
import Derived.Test.YtcabflannjeigaaGreatDoorMPs
import Derived.Test.YtcabflannjeigaaGreatDoorMSr
import Derived.Test.YtcabflannjeigaaGreatDoorMR4
namespace Ab
open Go Go.RowKit
set_option linter.unusedVariables false
set_option linter.unusedSimpArgs false

def ReadAt (S : Seat) : Prop := ∀ g, assoc g S.fns = some 247 → ∃ gc, assoc gc S.fns = some 240 ∧
  (∀ (s : ByteArray) (W : World), 100 < s.size → Calls S.P g #[.string s] W fun e W' => e = .returned (.tuple #[.slice none 0 0, .int .i64 0, .int .i64 4]) ∧ KeepO (fun _ => False) W W') ∧
  (∀ (s : ByteArray) (f b : Nat) (W : World), s.size ≤ 100 → rd s f (.row true) 0 [] = some (.bad b) → Calls S.P g #[.string s] W fun e W' => e = .returned (.tuple #[.slice none 0 0, .int .i64 b, .int .i64 2]) ∧ KeepO (fun _ => False) W W') ∧
  (∀ (s : ByteArray) (f i b : Nat) (l : List Node) (W : World), s.size ≤ 100 → rd s f (.row true) 0 [] = some (.ok i b l) → b < s.size → Calls S.P g #[.string s] W fun e W' => e = .returned (.tuple #[.slice none 0 0, .int .i64 b, .int .i64 2]) ∧ KeepO (fun _ => False) W W') ∧
  (∀ (s : ByteArray) (f i b : Nat) (l : List Node) (n : Int) (W : World), s.size ≤ 100 → rd s f (.row true) 0 [] = some (.ok i b l) → s.size ≤ b → n ≠ 0 →
    (∀ (v : Value) (X : World), KeepO (fun _ => False) W X → NodesNew W.heap.size X v l → Calls S.P gc #[v] X fun e w' => e = .returned (.int .i64 n) ∧ KeepO (fun _ => False) X w') →
    Calls S.P g #[.string s] W fun e W' => e = .returned (.tuple #[.slice none 0 0, .int .i64 0, .int .i64 n]) ∧ KeepO (fun _ => False) W W') ∧
  ∀ (s : ByteArray) (f i b : Nat) (l : List Node) (W : World), s.size ≤ 100 → rd s f (.row true) 0 [] = some (.ok i b l) → s.size ≤ b →
    (∀ (v : Value) (X : World), KeepO (fun _ => False) W X → NodesNew W.heap.size X v l → Calls S.P gc #[v] X fun e w' => e = .returned (.int .i64 0) ∧ KeepO (fun _ => False) X w') →
    Calls S.P g #[.string s] W fun e W' => ∃ v', e = .returned (.tuple #[v', .int .i64 0, .int .i64 0]) ∧ NodesNew W.heap.size W' v' l ∧ KeepO (fun _ => False) W W'

noncomputable def P247 (s : ByteArray) : Option (List Node × Int × Int) :=
  if 100 < s.size then some ([], 0, 4) else
  match rd s 404 (.row true) 0 [] with
  | none => none
  | some (.bad b) => some ([], (b : Int), 2)
  | some (.ok i b l) => if b < s.size then some ([], (b : Int), 2) else bno (P240 l) fun e => some (if e = 0 then l else [], 0, e)
noncomputable def k247 : CSpec := ⟨247, [.str], .tp [(.sl .node), .int, .int], fun x => P247 x, false, []⟩
theorem r247 {S : Seat} (h : ReadAt S) (h240 : Rt S k240) : Rt S k247 := fun (s : ByteArray) (y : List Node × Int × Int) hy => by
  have hy : P247 s = some y := hy
  intro g hg
  show RealM S g [.v (.string s)] (.tup [.sl 5 (y.1.map Node.cs), aI y.2.1, aI y.2.2]) []
  refine realM_of (fun A w vs hl hA ha => ?_) (by simp [isOwn])
  obtain ⟨x0, rfl⟩ : ∃ x0, vs = #[x0] := by
    obtain ⟨r⟩ := vs
    match r, hl with
    | [x0], _ => exact ⟨x0, rfl⟩
  obtain rfl : x0 = .string s := VR.v_inv (σ := fun _ => none) (.of0 (ha 0 _ rfl))
  obtain ⟨gc, hgc, h1, h2, h3, h4, h5⟩ := h g hg
  have fin : ∀ {w' : World} {v : Value} {r : List Node} {b e : Int}, KeepO (fun _ => False) w w' → NodesNew w.heap.size w' v r →
      RetR S A w w' (.tup [.sl 5 (r.map Node.cs), aI b, aI e]) (.tuple #[v, .int .i64 b, .int .i64 e]) := fun {w' v r b e} hk hv => by
    refine ⟨fun _ => none, by simp, by simp, #[v, .int .i64 b, .int .i64 e], rfl, rfl, fun i x hx => ?_⟩
    match i, hx with
    | 0, hx => cases hx; exact ⟨rfl, nodes_back (fun b h1 h2 => ⟨.inr h1, h2, by simp⟩) hv⟩
    | 1, hx => cases hx; exact ⟨rfl, .v _⟩
    | 2, hx => cases hx; exact ⟨rfl, .v _⟩
    | i + 3, hx => simp at hx
  unfold P247 at hy
  by_cases hs : 100 < s.size
  · rw [if_pos hs] at hy
    obtain rfl := Option.some.inj hy
    refine (h1 s w hs).mono ?_
    rintro e' w' ⟨rfl, hk⟩
    exact ⟨_, rfl, hk, fin hk (.inl ⟨rfl, rfl⟩)⟩
  rw [if_neg hs] at hy
  have hs : s.size ≤ 100 := by omega
  cases hr : rd s 404 (.row true) 0 [] with
  | none => rw [hr] at hy; cases hy
  | some p =>
  rw [hr] at hy
  cases p with
  | bad b =>
    obtain rfl := Option.some.inj hy
    refine (h2 s _ b w hs hr).mono ?_
    rintro e' w' ⟨rfl, hk⟩
    exact ⟨_, rfl, hk, fin hk (.inl ⟨rfl, rfl⟩)⟩
  | ok i b l =>
    simp only at hy
    by_cases hb : b < s.size
    · rw [if_pos hb] at hy
      obtain rfl := Option.some.inj hy
      refine (h3 s _ i b l w hs hr hb).mono ?_
      rintro e' w' ⟨rfl, hk⟩
      exact ⟨_, rfl, hk, fin hk (.inl ⟨rfl, rfl⟩)⟩
    rw [if_neg hb] at hy
    have hb : s.size ≤ b := by omega
    obtain ⟨e, he, hy⟩ := bno_some hy
    have hr1 := h240 l e he
    have hck : ∀ (v : Value) (X : World), KeepO (fun _ => False) w X → NodesNew w.heap.size X v l → Calls S.P gc #[v] X fun e' w' => e' = .returned (.int .i64 e) ∧ KeepO (fun _ => False) X w' := by
      intro v X hk hN
      have h0 : VR0 S (fun b => b < X.heap.size) X (.sl 5 (l.map Node.cs)) v := nodes_back (fun b _ h => h) hN
      have := (show RealM S gc [.sl 5 (l.map Node.cs)] (aI e) [] from hr1 gc hgc).old (by simp [isOwn]) (fun b => b < X.heap.size) X #[v] rfl
        ⟨fun b hb => hb, hA.2.keep (fun _ _ => fun e => e) hk⟩ fun i x hx => by
          match i, hx with
          | 0, hx => cases hx; exact h0
          | i + 1, hx => simp at hx
      refine this.mono ?_
      rintro e' w' ⟨u, rfl, hk', β, _, _, hp⟩
      refine ⟨?_, hk'⟩
      have := VR.v_inv (σ := fun _ => none) (.of0 (show ArgR S _ _ (β 0) (aI e) u from hp).2)
      rw [this]
    by_cases h0 : e = 0
    · subst h0
      obtain rfl := Option.some.inj hy
      refine (h5 s _ i b l w hs hr hb hck).mono ?_
      rintro e' w' ⟨v, rfl, hv, hk⟩
      exact ⟨_, rfl, hk, fin hk hv⟩
    · rw [if_neg h0] at hy
      obtain rfl := Option.some.inj hy
      refine (h4 s _ i b l e w hs hr hb h0 hck).mono ?_
      rintro e' w' ⟨rfl, hk⟩
      exact ⟨_, rfl, hk, fin hk (.inl ⟨rfl, rfl⟩)⟩
end Ab
