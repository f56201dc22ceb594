/-
  formula.Parse as a function of the abstract machine, by what the seat's program is known to answer.
-/
import Derived.Test.YtchidgkpkhloeaaDoorMPs
import Derived.Test.YtchidgkpkhloeaaDoorMSr
namespace Ab
open Go Go.RowKit
set_option linter.unusedVariables false
set_option linter.unusedSimpArgs false

def ParseAt (S : Seat) : Prop := ∀ g, assoc g S.fns = some 248 → ∃ gc T, assoc gc S.fns = some 241 ∧ assoc T S.tys = some 1 ∧
  (∀ (s : ByteArray) (W : World), 100 < s.size → Calls S.P g #[.string s] W fun e W' => e = .returned (.tuple #[.slice none 0 0, .int .i64 0, .iface T (.int .i64 4)]) ∧ KeepO (fun _ => False) W W') ∧
  (∀ (s : ByteArray) (f b : Nat) (W : World), s.size ≤ 100 → rd s f (.row true) 0 [] = some (.bad b) → Calls S.P g #[.string s] W fun e W' => e = .returned (.tuple #[.slice none 0 0, .int .i64 b, .iface T (.int .i64 2)]) ∧ KeepO (fun _ => False) W W') ∧
  (∀ (s : ByteArray) (f i b : Nat) (l : List Node) (W : World), s.size ≤ 100 → rd s f (.row true) 0 [] = some (.ok i b l) → b < s.size → Calls S.P g #[.string s] W fun e W' => e = .returned (.tuple #[.slice none 0 0, .int .i64 b, .iface T (.int .i64 2)]) ∧ KeepO (fun _ => False) W W') ∧
  (∀ (s : ByteArray) (f i b : Nat) (l : List Node) (W : World) (R : Value → Prop), s.size ≤ 100 → rd s f (.row true) 0 [] = some (.ok i b l) → s.size ≤ b → (∀ u, R u → ∃ T x, u = .iface T x) →
    (∀ (v : Value) (X : World), KeepO (fun _ => False) W X → NodesNew W.heap.size X v l → Calls S.P gc #[v] X fun e w' => ∃ u, e = .returned u ∧ R u ∧ KeepO (fun _ => False) X w') →
    Calls S.P g #[.string s] W fun e W' => ∃ u, e = .returned (.tuple #[.slice none 0 0, .int .i64 0, u]) ∧ R u ∧ KeepO (fun _ => False) W W') ∧
  ∀ (s : ByteArray) (f i b : Nat) (l : List Node) (W : World), s.size ≤ 100 → rd s f (.row true) 0 [] = some (.ok i b l) → s.size ≤ b →
    (∀ (v : Value) (X : World), KeepO (fun _ => False) W X → NodesNew W.heap.size X v l → Calls S.P gc #[v] X fun e w' => e = .returned .nilIface ∧ KeepO (fun _ => False) X w') →
    Calls S.P g #[.string s] W fun e W' => ∃ v', e = .returned (.tuple #[v', .int .i64 0, .nilIface]) ∧ NodesNew W.heap.size W' v' l ∧ KeepO (fun _ => False) W W'

/-- What a text is read as: with this fuel there is always an answer. -/
def readS (s : ByteArray) : Option PR := rd s 404 (.row true) 0 []
noncomputable def P248 (s : ByteArray) : Option (List Node × Int × Err) :=
  if 100 < s.size then some ([], 0, .no 4) else
  match readS s with
  | none => none
  | some (.bad b) => some ([], (b : Int), .no 2)
  | some (.ok i b l) => if b < s.size then some ([], (b : Int), .no 2) else bno (P241 l) fun e => some (if Err.isNil e = true then l else [], 0, e)
noncomputable def k248 : CSpec := ⟨248, [.str], .tp [(.sl .node), .int, .err], fun x => P248 x, false, []⟩
theorem r248 {S : Seat} (h : ParseAt S) (h241 : Rt S k241) : Rt S k248 := fun (s : ByteArray) (y : List Node × Int × Err) hy => by
  have hy : P248 s = some y := hy
  intro g hg
  show RealM S g [.v (.string s)] (.tup [.sl 5 (y.1.map Node.cs), aI y.2.1, y.2.2.av]) []
  refine realM_of (fun A w vs hl hA ha => ?_) (by simp [isOwn])
  obtain ⟨x0, rfl⟩ : ∃ x0, vs = #[x0] := by
    obtain ⟨r⟩ := vs
    match r, hl with
    | [x0], _ => exact ⟨x0, rfl⟩
  obtain rfl : x0 = .string s := VR.v_inv (σ := fun _ => none) (.of0 (ha 0 _ rfl))
  obtain ⟨gc, T, hgc, hT, h1, h2, h3, h4, h5⟩ := h g hg
  have fin : ∀ {w' : World} {v u : Value} {r : List Node} {b : Int} {e : Err}, KeepO (fun _ => False) w w' → NodesNew w.heap.size w' v r → ErrIs S e u →
      RetR S A w w' (.tup [.sl 5 (r.map Node.cs), aI b, e.av]) (.tuple #[v, .int .i64 b, u]) := fun {w' v u r b e} hk hv hu => by
    refine ⟨fun _ => none, by simp, by simp, #[v, .int .i64 b, u], rfl, rfl, fun i x hx => ?_⟩
    match i, hx with
    | 0, hx => cases hx; exact ⟨rfl, nodes_back (fun b h1 h2 => ⟨.inr h1, h2, by simp⟩) hv⟩
    | 1, hx => cases hx; exact ⟨rfl, .v _⟩
    | 2, hx =>
      cases hx
      cases e with
      | nil => obtain rfl := hu; exact ⟨rfl, .v _⟩
      | no n => obtain ⟨T, rfl, hT⟩ := hu; exact ⟨rfl, .ifc hT (.v _)⟩
      | oth k => obtain ⟨T, x, rfl, hT⟩ := hu; exact ⟨rfl, .ifc hT (.bot _)⟩
    | i + 3, hx => simp at hx
  unfold P248 readS at hy
  by_cases hs : 100 < s.size
  · rw [if_pos hs] at hy
    obtain rfl := Option.some.inj hy
    refine (h1 s w hs).mono ?_
    rintro e' w' ⟨rfl, hk⟩
    exact ⟨_, rfl, hk, fin hk (.inl ⟨rfl, rfl⟩) ⟨T, rfl, hT⟩⟩
  rw [if_neg hs] at hy
  have hs : s.size ≤ 100 := by omega
  cases hr : rd s 404 (.row true) 0 [] with
  | none => rw [hr] at hy; cases hy
  | some p =>
  rw [hr] at hy
  cases p with
  | bad b =>
    obtain rfl := Option.some.inj hy
    refine (h2 s _ b w hs hr).mono ?_
    rintro e' w' ⟨rfl, hk⟩
    exact ⟨_, rfl, hk, fin hk (.inl ⟨rfl, rfl⟩) ⟨T, rfl, hT⟩⟩
  | ok i b l =>
    simp only at hy
    by_cases hb : b < s.size
    · rw [if_pos hb] at hy
      obtain rfl := Option.some.inj hy
      refine (h3 s _ i b l w hs hr hb).mono ?_
      rintro e' w' ⟨rfl, hk⟩
      exact ⟨_, rfl, hk, fin hk (.inl ⟨rfl, rfl⟩) ⟨T, rfl, hT⟩⟩
    rw [if_neg hb] at hy
    have hb : s.size ≤ b := by omega
    obtain ⟨e, he, hy⟩ := bno_some hy
    have hr1 := h241 l e he
    have hck : ∀ (v : Value) (X : World), KeepO (fun _ => False) w X → NodesNew w.heap.size X v l → Calls S.P gc #[v] X fun e' w' => ∃ u, e' = .returned u ∧ ErrIs S e u ∧ KeepO (fun _ => False) X w' := by
      intro v X hk hN
      have h0 : VR0 S (fun b => b < X.heap.size) X (.sl 5 (l.map Node.cs)) v := nodes_back (fun b _ h => h) hN
      have := (show RealM S gc [.sl 5 (l.map Node.cs)] e.av [] from hr1 gc hgc).old (by simp [isOwn]) (fun b => b < X.heap.size) X #[v] rfl
        ⟨fun b hb => hb, hA.2.keep (fun _ _ => fun e => e) hk⟩ fun i x hx => by
          match i, hx with
          | 0, hx => cases hx; exact h0
          | i + 1, hx => simp at hx
      refine this.mono ?_
      rintro e' w' ⟨u, rfl, hk', β, _, _, hp⟩
      refine ⟨u, rfl, ?_, hk'⟩
      cases e with
      | nil => exact VR.v_inv (σ := fun _ => none) (.of0 (show ArgR S _ _ (β 0) (.v .nilIface) u from hp).2)
      | no n =>
        have h2 := (show ArgR S _ _ (β 0) (.ifc 1 (aI n)) u from hp).2
        cases h2 with
        | ifc hT hv => exact ⟨_, by rw [VR.v_inv (σ := fun _ => none) (.of0 hv)], hT⟩
      | oth k =>
        have h2 := (show ArgR S _ _ (β 0) (.ifc k .bot) u from hp).2
        cases h2 with
        | ifc hT hv => exact ⟨_, _, rfl, hT⟩
    by_cases hnil : Err.isNil e = true
    · obtain rfl : e = .nil := by cases e <;> simp_all [Err.isNil]
      obtain rfl := Option.some.inj hy
      refine (h5 s _ i b l w hs hr hb fun v X hk hN => (hck v X hk hN).mono ?_).mono ?_
      · rintro e' w' ⟨u, rfl, rfl, hk⟩
        exact ⟨rfl, hk⟩
      · rintro e' w' ⟨v, rfl, hv, hk⟩
        exact ⟨_, rfl, hk, fin hk hv rfl⟩
    · rw [if_neg hnil] at hy
      obtain rfl := Option.some.inj hy
      refine (h4 s _ i b l w (ErrIs S e) hs hr hb (fun u hu => ?_) hck).mono ?_
      · cases e with
        | nil => simp [Err.isNil] at hnil
        | no n => obtain ⟨T, rfl, _⟩ := hu; exact ⟨_, _, rfl⟩
        | oth k => obtain ⟨T, x, rfl, _⟩ := hu; exact ⟨_, _, rfl⟩
      · rintro e' w' ⟨u, rfl, hu, hk⟩
        exact ⟨_, rfl, hk, fin hk (.inl ⟨rfl, rfl⟩) hu⟩
end Ab
