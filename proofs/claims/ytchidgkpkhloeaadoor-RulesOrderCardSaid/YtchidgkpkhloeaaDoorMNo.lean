/-
  formula.node as a function of the abstract machine, by what the seat's program is known to answer: what is wrong with a node.
-/
import Derived.Test.YtchidgkpkhloeaaDoorMSu
import Derived.Test.YtchidgkpkhloeaaDoorQO
namespace Ab
open Go Go.RowKit
set_option linter.unusedVariables false
set_option linter.unusedSimpArgs false

/-- The fault of a node at place i. -/
def nodeE (i : Nat) (x : Node) : Int :=
  if x.op < 1 ∨ 6 < x.op then 1
  else if x.op = 1 then (if x.n < 0 ∨ 1000000 < x.n then 1 else if x.name = ⟨#[]⟩ ∧ x.left = 0 ∧ x.right = 0 then 0 else 3)
  else if x.op = 2 then (if nameBad x.name = true then 2 else if x.n = 0 ∧ x.left = 0 ∧ x.right = 0 then 0 else 3)
  else if x.left < 0 ∨ (i : Int) ≤ x.left ∨ x.right < 0 ∨ (i : Int) ≤ x.right then 1
  else if x.n = 0 ∧ x.name = ⟨#[]⟩ then 0 else 3
def errV (T : TypeId) (e : Int) : Value := if e = 0 then .nilIface else .iface T (.int .i64 e)
def NodeAt (S : Seat) : Prop := ∀ g, assoc g S.fns = some 251 → ∃ gn T, assoc gn S.fns = some 41 ∧ assoc T S.tys = some 1 ∧ (∀ T', assoc T' S.tys = some 1 → T' = T) ∧ ∀ (l : List Node) (lv : Value) (k : Nat) (x : Node) (W : World), l[k]? = some x → k ≤ 9223372036854775807 → NodesIn W.heap.size W lv l →
  (∀ W', KeepO (fun _ => False) W W' → Calls S.P gn #[.string x.name] W' fun e w' => e = .returned (errV T (if nameBad x.name = true then 2 else 0)) ∧ KeepO (fun _ => False) W' w') →
  Calls S.P g #[lv, .int .i64 k] W fun e W' => e = .returned (errV T (nodeE k x)) ∧ KeepO (fun _ => False) W W'
noncomputable def P251 (l : List Node) (i : Int) : Option Err := ck (decide (i ≤ 9223372036854775807)) (match lookI l i with | some x => some (errOf (nodeE i.toNat x)) | none => none)
noncomputable def k251 : CSpec := ⟨251, [(.sl .node), .int], .err, fun x => P251 x.1 x.2, false, []⟩
theorem errOf_av (T : TypeId) {S : Seat} {A : Nat → Prop} {w : World} (hT : assoc T S.tys = some 1) (e : Int) : VR0 S A w (errOf e).av (errV T e) := by
  unfold errOf errV
  by_cases h : e = 0
  · rw [if_pos h, if_pos h]; exact .v _
  · rw [if_neg h, if_neg h]; exact .ifc hT (.v _)
theorem r251 {S : Seat} (h : NodeAt S) (h41 : Rt S k41) : Rt S k251 := fun (x : List Node × Int) (y : Err) hy => by
  obtain ⟨l, i⟩ := x
  have hy : P251 l i = some y := hy
  obtain ⟨hi, hy⟩ := ck_some hy
  have hi := of_decide_eq_true hi
  cases hx : lookI l i with
  | none => rw [hx] at hy; cases hy
  | some x =>
    rw [hx] at hy
    obtain rfl := Option.some.inj hy
    obtain ⟨k, rfl, hk⟩ : ∃ k : Nat, i = (k : Int) ∧ l[k]? = some x := by
      unfold lookI at hx
      split at hx
      · exact ⟨i.toNat, by omega, hx⟩
      · cases hx
    rw [Int.toNat_natCast]
    have hr := h41 x.name _ (P41_eq x.name)
    intro g hg
    show RealM S g [.sl 5 (l.map Node.cs), aI (k : Int)] (errOf (nodeE k x)).av []
    refine realM_of (fun A w vs hl hA ha => ?_) (by simp [isOwn, aI])
    obtain ⟨x0, x1, rfl⟩ : ∃ x0 x1, vs = #[x0, x1] := by
      obtain ⟨r⟩ := vs
      match r, hl with
      | [x0, x1], _ => exact ⟨x0, x1, rfl⟩
    obtain rfl : x1 = .int .i64 k := VR.v_inv (σ := fun _ => none) (.of0 (ha 1 _ rfl))
    have hN := nodes_of hA.1 (show VR0 S A w (.sl 5 (l.map Node.cs)) x0 from ha 0 _ rfl)
    obtain ⟨gn, T, hgn, hT, hu, hw⟩ := h g hg
    refine (hw l x0 k x w hk (by omega) hN fun W' hk' => ?_).mono ?_
    · have := (show RealM S gn [.v (.string x.name)] (if nameBad x.name = true then Err.no 2 else Err.nil).av [] from hr gn hgn).old (by simp [isOwn]) (fun _ => False) W' #[.string x.name] rfl ⟨fun b hb => hb.elim, hA.2.keep (fun _ _ e => e) hk'⟩ fun i x hx => by
        match i, hx with
        | 0, hx => cases hx; exact .v _
        | i + 1, hx => simp at hx
      refine this.mono ?_
      rintro e w' ⟨v, rfl, hk2, β, _, _, hp⟩
      refine ⟨?_, hk2⟩
      congr 1
      by_cases hb : nameBad x.name = true
      · rw [if_pos hb] at hp ⊢
        have hp := (show ArgR S _ _ (β 0) (.ifc 1 (aI 2)) v from hp).2
        cases hp with
        | ifc hT2 hv =>
          rw [VR.v_inv (σ := fun _ => none) (.of0 hv), hu _ hT2]
          rfl
      · rw [if_neg hb] at hp ⊢
        exact VR.v_inv (σ := fun _ => none) (.of0 (show ArgR S _ _ (β 0) (.v .nilIface) v from hp).2)
    · rintro e w' ⟨rfl, hk'⟩
      refine ⟨_, rfl, hk', fun _ => none, by simp, by simp, ?_⟩
      have := errOf_av (A := After A (fun _ => none) w w') (w := w') T hT (nodeE k x)
      generalize (errOf (nodeE k x)) = q at this ⊢
      cases q <;> exact ⟨rfl, this⟩
end Ab
