/-
  reckon.Swap, and the document's Swapped of nil, as functions of the abstract machine, by what the seat's program is known to answer.
-/
import Derived.Test.YtcabflannjeigaaDoorMSu
import Derived.Test.YtcabflannjeigaaDoorMFm
namespace Ab
open Go Go.RowKit
set_option linter.unusedVariables false
set_option linter.unusedSimpArgs false

def ErrIs (S : Seat) (e : Err) (u : Value) : Prop :=
  match e with | .nil => u = .nilIface | .no n => ∃ T, u = .iface T (.int .i64 n) ∧ assoc T S.tys = some 1 | .oth k => ∃ T x, u = .iface T x ∧ assoc T S.tys = some k
def SwapAt (S : Seat) : Prop := ∀ g, assoc g S.fns = some 295 → ∃ gc T, assoc gc S.fns = some 241 ∧
  (∀ (l y : List Node) (b off cap : Nat) (W : World), NodesIn W.heap.size W (.slice (some ⟨b, off, none⟩) l.length cap) l → 0 < l.length → l.length ≤ 1000000 → swN l l.length ((l.length : Int) - 1) [] = some y → y.length ≤ 1000000 →
    Calls S.P gc #[.slice (some ⟨b, off, none⟩) l.length cap] (W.alloc (.cells #[.slice (some ⟨b, off, none⟩) l.length cap] T)) (fun e w' => e = .returned .nilIface ∧ KeepO (fun _ => False) (W.alloc (.cells #[.slice (some ⟨b, off, none⟩) l.length cap] T)) w') →
    Calls S.P g #[.slice (some ⟨b, off, none⟩) l.length cap] W fun e W' => ∃ v, e = .returned (.tuple #[v, .nilIface]) ∧ NodesNew W.heap.size W' v y ∧ KeepO (fun _ => False) W W') ∧
  ∀ (R : Value → Prop) (_ : ∀ u, R u → ∃ T x, u = .iface T x) (a : Option Addr) (len cap : Nat) (W : World),
    Calls S.P gc #[.slice a len cap] (W.alloc (.cells #[.slice a len cap] T)) (fun e w' => ∃ u, e = .returned u ∧ R u ∧ KeepO (fun _ => False) (W.alloc (.cells #[.slice a len cap] T)) w') →
    Calls S.P g #[.slice a len cap] W fun e W' => ∃ u, e = .returned (.tuple #[.slice none 0 0, u]) ∧ R u ∧ KeepO (fun _ => False) W W'

noncomputable def P295 (l : List Node) : Option (List Node × Err) :=
  bno (P241 l) fun e => br (Err.isNil e) (ck (decide (0 < l.length ∧ l.length ≤ 1000000)) (bno (swN l l.length ((l.length : Int) - 1) []) fun y => ck (decide (y.length ≤ 1000000)) (some (y, Err.nil)))) (some ([], e))
noncomputable def k295 : CSpec := ⟨295, [(.sl .node)], (.tp [(.sl .node), .err]), fun x => P295 x, false, []⟩
theorem keep_alloc (W : World) (o : Obj) : KeepO (fun _ => False) W (W.alloc o) := ⟨rfl, rfl, rfl, by simp, fun k hk _ => by simp [World.alloc, -World.alloc_eq, Array.getElem?_push, Nat.ne_of_lt hk]⟩
theorem r295 {S : Seat} (h : SwapAt S) (h241 : Rt S k241) : Rt S k295 := fun (l : List Node) (y : List Node × Err) hy => by
  have hy : P295 l = some y := hy
  obtain ⟨e, he, hy⟩ := bno_some hy
  have hr := h241 l e he
  intro g hg
  show RealM S g [.sl 5 (l.map Node.cs)] (.tup [.sl 5 (y.1.map Node.cs), y.2.av]) []
  refine realM_of (fun A w vs hl hA ha => ?_) (by simp [isOwn])
  obtain ⟨x0, rfl⟩ : ∃ x0, vs = #[x0] := by
    obtain ⟨r⟩ := vs
    match r, hl with
    | [x0], _ => exact ⟨x0, rfl⟩
  have h0 : VR0 S A w (.sl 5 (l.map Node.cs)) x0 := ha 0 _ rfl
  have hN := nodes_of hA.1 h0
  obtain ⟨gc, T, hgc, hok, herr⟩ := h g hg
  have hck : ∀ {a : Option Addr} {len cap : Nat}, x0 = .slice a len cap → Calls S.P gc #[.slice a len cap] (w.alloc (.cells #[.slice a len cap] T)) fun e' w' => ∃ u, e' = .returned u ∧ ErrIs S e u ∧ KeepO (fun _ => False) (w.alloc (.cells #[.slice a len cap] T)) w' := by
    rintro a len cap rfl
    have hk := keep_alloc w (.cells #[.slice a len cap] T)
    have := (show RealM S gc [.sl 5 (l.map Node.cs)] e.av [] from hr gc hgc).old (by simp [isOwn]) A (w.alloc (.cells #[.slice a len cap] T)) #[.slice a len cap] rfl
      ⟨fun b hb => Nat.lt_of_lt_of_le (hA.1 b hb) hk.size, hA.2.keep (fun _ _ => fun e => e) hk⟩ fun i x hx => by
        match i, hx with
        | 0, hx => cases hx; exact h0.mono (fun _ h => h) fun b hb => hk.block b (hA.1 b hb) (fun e => e)
        | i + 1, hx => simp at hx
    refine this.mono ?_
    rintro e' w' ⟨u, rfl, hk', β, _, _, hp⟩
    refine ⟨u, rfl, ?_, hk'⟩
    cases e with
    | nil => exact VR.v_inv (σ := fun _ => none) (.of0 (show ArgR S _ _ (β 0) (.v .nilIface) u from hp).2)
    | no n =>
      have h2 := (show ArgR S _ _ (β 0) (.ifc 1 (aI n)) u from hp).2
      cases h2 with
      | ifc hT hv => exact ⟨_, by rw [VR.v_inv (σ := fun _ => none) (.of0 hv)], hT⟩
    | oth k =>
      have h2 := (show ArgR S _ _ (β 0) (.ifc k .bot) u from hp).2
      cases h2 with
      | ifc hT hv => exact ⟨_, _, rfl, hT⟩
  have hform : ∃ a len cap, x0 = .slice a len cap := by
    generalize l.map Node.cs = es at h0
    cases h0 <;> exact ⟨_, _, _, rfl⟩
  obtain ⟨a, len, cap, rfl⟩ := hform
  have fin : ∀ {w' : World} {v u : Value} {r : List Node}, KeepO (fun _ => False) w w' → NodesNew w.heap.size w' v r → ErrIs S e u →
      RetR S A w w' (.tup [.sl 5 (r.map Node.cs), e.av]) (.tuple #[v, u]) := fun {w' v u r} hk hv hu => by
    refine ⟨fun _ => none, by simp, by simp, #[v, u], rfl, rfl, fun i x hx => ?_⟩
    match i, hx with
    | 0, hx => cases hx; exact ⟨rfl, nodes_back (fun b h1 h2 => ⟨.inr h1, h2, by simp⟩) hv⟩
    | 1, hx =>
      cases hx
      cases e with
      | nil => obtain rfl := hu; exact ⟨rfl, .v _⟩
      | no n => obtain ⟨T, rfl, hT⟩ := hu; exact ⟨rfl, .ifc hT (.v _)⟩
      | oth k => obtain ⟨T, x, rfl, hT⟩ := hu; exact ⟨rfl, .ifc hT (.bot _)⟩
    | i + 2, hx => simp at hx
  by_cases hnil : Err.isNil e = true
  · obtain rfl : e = .nil := by cases e <;> simp_all [Err.isNil]
    simp only [hnil, br] at hy
    obtain ⟨h1, hy⟩ := ck_some hy
    obtain ⟨h1, h2⟩ := of_decide_eq_true h1
    obtain ⟨r, h3, hy⟩ := bno_some hy
    obtain ⟨h4, hy⟩ := ck_some hy
    have h4 := of_decide_eq_true h4
    obtain rfl := Option.some.inj hy
    rcases hN with ⟨_, _, _, rfl⟩ | ⟨b, off, cap', e1, hb, hc⟩
    · simp at h1
    cases e1
    refine (hok l r b off cap w (.inr ⟨b, off, cap, rfl, hb, hc⟩) h1 h2 h3 h4 ((hck rfl).mono ?_)).mono ?_
    · rintro e' w' ⟨u, rfl, rfl, hk⟩
      exact ⟨rfl, hk⟩
    · rintro e' w' ⟨v, rfl, hv, hk⟩
      exact ⟨_, rfl, hk, fin hk hv rfl⟩
  · rw [Bool.not_eq_true] at hnil
    simp only [hnil, br] at hy
    obtain rfl := Option.some.inj hy
    refine (herr _ (fun u hu => ?_) a len cap w (hck rfl)).mono ?_
    · cases e with
      | nil => simp [Err.isNil] at hnil
      | no n => obtain ⟨T, rfl, _⟩ := hu; exact ⟨_, _, rfl⟩
      | oth k => obtain ⟨T, x, rfl, _⟩ := hu; exact ⟨_, _, rfl⟩
    · rintro e' w' ⟨u, rfl, hu, hk⟩
      exact ⟨_, rfl, hk, fin hk (.inl ⟨rfl, rfl⟩) hu⟩
end Ab
