/-
  slices.Values and slices.Sorted (of what slices.Values gives) at integers, as functions of the abstract machine, by what the seat's program is known to answer.
-/
import Derived.Test.YtcabflannjeigaaB2
namespace Ab
open Go Go.RowKit
set_option linter.unusedVariables false
set_option linter.unusedSimpArgs false

def sortI (l : List Int) : List Int := l.mergeSort fun x y => decide (x ≤ y)
theorem sortI_length (l : List Int) : (sortI l).length = l.length := List.length_mergeSort ..
/-- A slice value's integers. -/
def IntsIn (n : Nat) (w : World) (sv : Value) (zs : List Int) : Prop :=
  (∃ a cap, sv = .slice a 0 cap ∧ zs = []) ∨ ∃ b off cap, sv = .slice (some ⟨b, off, none⟩) zs.length cap ∧ b < n ∧ ∀ j, j < zs.length → w.cell? ⟨b, off + j, none⟩ = some (.int .i64 (zs[j]?.getD 0))
def ValuesAt (S : Seat) : Prop := ∀ g, assoc g S.fns = some 211 → ∃ gc, assoc gc S.fns = some 214 ∧ ∀ (a : Option Addr) (len cap : Nat) (w : World),
  Calls S.P g #[.slice a len cap] w fun e w' => e = .returned (.func (.func gc) #[] #[.pointer (some ⟨w.heap.size, 0, none⟩)]) ∧ ∃ T, w' = w.alloc (.cells #[.slice a len cap] T)
def SortedAt (S : Seat) : Prop := ∀ g, assoc g S.fns = some 210 → ∀ gc, assoc gc S.fns = some 214 → ∀ (Bs o : Nat) (sv : Value) (zs : List Int) (w : World), Bs < w.heap.size → w.cell? ⟨Bs, o, none⟩ = some sv → IntsIn w.heap.size w sv zs → zs.length * 8 ≤ 140737488351232 →
  Calls S.P g #[.func (.func gc) #[] #[.pointer (some ⟨Bs, o, none⟩)]] w fun e w' => ∃ v, e = .returned v ∧ KeepO (fun _ => False) w w' ∧
    ((v = .slice none 0 0 ∧ zs = []) ∨ ∃ b cap, v = .slice (some ⟨b, 0, none⟩) zs.length cap ∧ w.heap.size ≤ b ∧ b < w'.heap.size ∧ zs.length ≤ cap ∧ ∀ j, j < zs.length → w'.cell? ⟨b, 0 + j, none⟩ = some (.int .i64 ((sortI zs)[j]?.getD 0)))

noncomputable def P211 (l : List Int) : Option (List Int) := some l
noncomputable def k211 : CSpec := ⟨211, [.sl .int], .fnc 214 [.bx (.sl .int)], fun x => P211 x, false, []⟩
theorem ints_of {S : Seat} {A : Nat → Prop} {w : World} {l : List Int} {v : Value} (hA : ∀ b, A b → b < w.heap.size) (h : VR0 S A w (.sl 1 (l.map fun n => [aI n])) v) : IntsIn w.heap.size w v l := by
  generalize hes : (l.map fun n => [aI n]) = es at h
  cases h with
  | sl hb hlen hz hcell hone hval =>
    rename_i b o cap u
    have el : es.length = l.length := by rw [← hes]; simp
    rw [el] at hlen hcell ⊢
    refine .inr ⟨b, o, cap, rfl, hA _ hb, fun j hj => ?_⟩
    rw [hcell j (by omega)]
    have hj' := List.getElem?_eq_getElem hj
    have := hval j [aI l[j]] 0 (aI l[j]) (by rw [← hes]; simp [hj']) rfl
    rw [Nat.mul_one, Nat.add_zero] at this
    rw [VR.v_inv (σ := fun _ => none) (.of0 this), hj']
    rfl
  | slnil _ => exact .inl ⟨none, 0, rfl, by cases l with | nil => rfl | cons a r => simp at hes⟩
  | slemp _ a cap => exact .inl ⟨some a, cap, rfl, by cases l with | nil => rfl | cons a r => simp at hes⟩
theorem r211 {S : Seat} (h : ValuesAt S) : Rt S k211 := fun (l : List Int) (y : List Int) hy => by
  obtain rfl : l = y := Option.some.inj (show P211 l = some y from hy)
  intro g hg
  show RealM S g [.sl 1 (l.map fun n => [aI n])] (.fn 214 [.ep [.sl 1 (l.map fun n => [aI n])] 0]) []
  refine realM_of (fun A w vs hl hA ha => ?_) (by simp [isOwn])
  obtain ⟨x0, rfl⟩ : ∃ x0, vs = #[x0] := by
    obtain ⟨r⟩ := vs
    match r, hl with
    | [x0], _ => exact ⟨x0, rfl⟩
  have hr : VR0 S A w (.sl 1 (l.map fun n => [aI n])) x0 := ha 0 _ rfl
  obtain ⟨gc, hgc, hv⟩ := h g hg
  obtain ⟨a, len, cap, rfl⟩ : ∃ a len cap, x0 = .slice a len cap := by
    generalize (l.map fun n => [aI n]) = es at hr
    cases hr <;> exact ⟨_, _, _, rfl⟩
  refine (hv a len cap w).mono ?_
  rintro e w' ⟨rfl, T, rfl⟩
  refine ⟨_, rfl, ⟨rfl, rfl, rfl, by simp, fun k hk _ => by simp [World.alloc, -World.alloc_eq, Array.getElem?_push, Nat.ne_of_lt hk]⟩, fun _ => none, by simp, by simp, rfl, ?_⟩
  refine .fn hgc rfl fun i x hx => ?_
  match i, hx with
  | 0, hx =>
    cases hx
    show VR0 S _ _ (.ep [.sl 1 (l.map fun n => [aI n])] 0) (.pointer (some ⟨w.heap.size, 0 + 0, none⟩))
    refine .ep (u := fun _ => .slice a len cap) ⟨.inr (Nat.le_refl _), by simp, by simp⟩ (fun j hj => ?_) fun j x hx => ?_
    · obtain rfl : j = 0 := by simpa using hj
      rw [World.cell?_alloc_at _ _ _ _ rfl]
      rfl
    · match j, hx with
      | 0, hx =>
        cases hx
        exact hr.mono (fun b hb => ⟨.inl hb, by simp; have := hA.1 b hb; omega, by simp⟩) fun b hb => by
          have := hA.1 b hb
          simp [World.alloc, -World.alloc_eq, Array.getElem?_push, Nat.ne_of_lt this]
      | j + 1, hx => simp at hx
  | i + 1, hx => simp at hx
noncomputable def P210_214 (l : List Int) : Option (List Int) := ck (decide (l.length * 8 ≤ 140737488351232)) (some (sortI l))
noncomputable def k210_214 : CSpec := ⟨210, [.fnc 214 [.bx (.sl .int)]], .sl .int, fun x => P210_214 x, false, []⟩
theorem r210_214 {S : Seat} (h : SortedAt S) : Rt S k210_214 := fun (l : List Int) (y : List Int) hy => by
  obtain ⟨h1, h2⟩ := ck_some (show P210_214 l = some y from hy)
  have h1 := of_decide_eq_true h1
  obtain rfl := Option.some.inj h2
  intro g hg
  show RealM S g [.fn 214 [.ep [.sl 1 (l.map fun n => [aI n])] 0]] (.sl 1 ((sortI l).map fun n => [aI n])) []
  refine realM_of (fun A w vs hl hA ha => ?_) (by simp [isOwn])
  obtain ⟨x0, rfl⟩ : ∃ x0, vs = #[x0] := by
    obtain ⟨r⟩ := vs
    match r, hl with
    | [x0], _ => exact ⟨x0, rfl⟩
  have hr : VR0 S A w (.fn 214 [.ep [.sl 1 (l.map fun n => [aI n])] 0]) x0 := ha 0 _ rfl
  cases hr with
  | fn hgc hcl hcv =>
    rename_i gc vs
    obtain ⟨p, rfl⟩ : ∃ p, vs = #[p] := by
      obtain ⟨r⟩ := vs
      match r, hcl with
      | [p], _ => exact ⟨p, rfl⟩
    have hp : VR0 S A w (.ep [.sl 1 (l.map fun n => [aI n])] 0) p := hcv 0 _ rfl
    cases hp with
    | ep hb hcell hval =>
      rename_i b o u
      have hc0 := hcell 0 (by simp)
      have hv0 := hval 0 _ rfl
      have hI := ints_of hA.1 hv0
      refine (h g hg gc hgc b (o + 0) (u 0) l w (hA.1 _ hb) hc0 hI h1).mono ?_
      rintro e w' ⟨v, rfl, hk, hv⟩
      refine ⟨v, rfl, hk, fun _ => none, by simp, by simp, rfl, ?_⟩
      rcases hv with ⟨rfl, rfl⟩ | ⟨b', cap, rfl, hb1, hb2, hcap, hcs⟩
      · have e0 : sortI [] = [] := by simp [sortI]
        rw [e0]
        exact .slnil _
      · have e : (((sortI l).map fun n => [aI n]).length) = l.length := by simp [sortI_length]
        rw [← e]
        refine .sl (u := fun j => .int .i64 ((sortI l)[j]?.getD 0)) ⟨.inr hb1, hb2, by simp⟩ (by rw [e]; exact hcap) (by simp) (fun j hj => hcs j (by rw [e] at hj; omega)) (fun j hj => rfl) fun i es c x hes hx => ?_
        simp only [List.getElem?_map, Option.map_eq_some_iff] at hes
        obtain ⟨n, hn, rfl⟩ := hes
        cases c with
        | zero =>
          cases hx
          simp only [Nat.mul_one, Nat.add_zero, hn]
          exact .v _
        | succ c => simp at hx
end Ab
