/-
  Typed values over the abstract machine: each operation of the typed machine is one of the abstract machine.
-/
import Derived.Test.YtkedlclobjhkfaaDoorTD
namespace Ab
open Go Go.RowKit
set_option linter.unusedVariables false
set_option linter.unusedSimpArgs false
set_option linter.unnecessarySimpa false

section
variable {S : Seat} {q : Bool} {A0 O : Nat → Prop} {w0 : World} {A : Nat → Prop} {σ : Nat → Option Nat} {w : World} {tm : Array Value}

/-! ### a row is written no more -/

inductive FzR (s z : Nat) (es : List (List AV)) : AV → AV → Prop
  | leaf (x : AV) : FzR s z es x (Ab.frz s z es x)
  | agg {cs ds : List AV} : cs.length = ds.length → (∀ (i : Nat) (x y : AV), cs[i]? = some x → ds[i]? = some y → FzR s z es x y) → FzR s z es (.agg cs) (.agg ds)
  | tup {cs ds : List AV} : cs.length = ds.length → (∀ (i : Nat) (x y : AV), cs[i]? = some x → ds[i]? = some y → FzR s z es x y) → FzR s z es (.tup cs) (.tup ds)
  | fn {f : Nat} {cs ds : List AV} : cs.length = ds.length → (∀ (i : Nat) (x y : AV), cs[i]? = some x → ds[i]? = some y → FzR s z es x y) → FzR s z es (.fn f cs) (.fn f ds)
  | bot (x : AV) : FzR s z es x .bot

theorem VR.fz {st : ASt} (h : SRel S A0 O w0 A σ w st tm) {s z0 : Nat} {es : List (List AV)} (hb : st.hp s = some (.arr z0 es)) {x y : AV} (hf : FzR s z0 es x y) : ∀ {v : Value}, VR S A σ w x v →
    VR S (fun b => A b ∨ σ s = some b) (fun k => if k = s then none else σ k) w y v := by
  induction hf with
  | leaf x => intro v hv; exact hv.frz h hb
  | agg hl hp ih =>
    intro v hv
    obtain ⟨vs, rfl, h1, h2⟩ := hv.agg_inv
    refine .agg (by omega) fun i y hy => ?_
    obtain ⟨x, hx⟩ := get_of_len hl hy
    exact ih i x y hx hy (h2 i x hx)
  | tup hl hp ih =>
    intro v hv
    obtain ⟨vs, rfl, h1, h2⟩ := hv.tup_inv
    refine .tup (by omega) fun i y hy => ?_
    obtain ⟨x, hx⟩ := get_of_len hl hy
    exact ih i x y hx hy (h2 i x hx)
  | fn hl hp ih =>
    intro v hv
    obtain ⟨g, vs, rfl, h0, h1, h2⟩ := hv.fn_inv
    refine .fn h0 (by omega) fun i y hy => ?_
    obtain ⟨x, hx⟩ := get_of_len hl hy
    exact ih i x y hx hy (h2 i x hx)
  | bot x => intro v _; exact .of0 (.bot v)

theorem cv_frz {st : ASt} {s1 : TSt} {s z0 : Nat} {es : List (List AV)} (hb : st.hp s = some (.arr z0 es)) (hf : ∀ k, FzR s z0 es (st.fr k) (s1.toA.fr k)) (hs : s1.toA.hp s = none)
    (hh : ∀ s', s' ≠ s → s1.toA.hp s' = none ∨ (∃ z es, st.hp s' = some (.arr z es) ∧ s1.toA.hp s' = some (.arr z es)) ∨ (∃ cs ds, st.hp s' = some (.var cs) ∧ s1.toA.hp s' = some (.var ds) ∧ cs.length = ds.length ∧ ∀ (i : Nat) (x y : AV), cs[i]? = some x → ds[i]? = some y → FzR s z0 es x y)) :
    (realRets S).cv st s1.toA := by
  intro A0 O w0 A σ w tm h
  let σ1 : Nat → Option Nat := fun k => match s1.toA.hp k with | none => none | some _ => (if k = s then none else σ k)
  have hσ : ∀ r, s1.toA.hp r ≠ none → σ1 r = if r = s then none else σ r := fun r hr => by
    cases hq : s1.toA.hp r with
    | none => exact absurd hq hr
    | some b => simp [σ1, hq]
  refine ⟨fun b => A b ∨ σ s = some b, σ1, fun k => ?_, fun s' blk hbk => ?_, toA_dang s1, toA_dangV s1, fun r b hr => ?_, fun r r' b h1 h2 => ?_, fun b hb' => ?_, fun b hb' => ?_, h.keep, h.Olt⟩
  · refine (VR.fz h hb (hf k) (h.fr k)).mono (fun _ h => h) (fun _ _ => rfl) fun r hr => ?_
    exact ⟨(hσ r (toA_dang s1 k r hr)), fun b cs el _ hb => ⟨cs, hb, rfl⟩⟩
  · have hne : s' ≠ s := fun e => by subst e; rw [hs] at hbk; cases hbk
    have hs1 : σ1 s' = σ s' := by rw [hσ s' (by rw [hbk]; simp), if_neg hne]
    rcases hh s' hne with k | ⟨z, es', k1, k2⟩ | ⟨cs, ds, k1, k2, k3, k4⟩
    · rw [k] at hbk; cases hbk
    · rw [hbk] at k2; cases k2
      exact (h.hp s' _ k1).mono (fun _ h => .inl h) (fun _ _ => rfl) hs1 (fun _ _ => rfl) (by simp [Blk.refs])
    · rw [hbk] at k2; cases k2
      obtain ⟨b, vs, el, m1, m2, m3, m4⟩ := h.hp s' _ k1
      refine ⟨b, vs, el, hs1.trans m1, m2, by omega, fun i y hy => ?_⟩
      obtain ⟨x, hx⟩ := get_of_len k3 hy
      refine (VR.fz h hb (k4 i x y hx hy) (m4 i x hx)).mono (fun _ h => h) (fun _ _ => rfl) fun r hr => ?_
      exact ⟨hσ r (toA_dangV s1 s' ds hbk r (mem_refsL.2 ⟨y, List.mem_of_getElem? hy, hr⟩)), fun b cs el _ hb => ⟨cs, hb, rfl⟩⟩
  · have hr1 : s1.toA.hp r ≠ none ∧ r ≠ s ∧ σ r = some b := by
      cases hq : s1.toA.hp r with
      | none => simp [σ1, hq] at hr
      | some b' =>
        simp only [σ1, hq] at hr
        split at hr
        · cases hr
        · rename_i hne; exact ⟨by simp, hne, hr⟩
    obtain ⟨k1, k2, k3, k4⟩ := h.dom r b hr1.2.2
    exact ⟨hr1.1, k2, fun hh => hh.elim k3 fun e => hr1.2.1 (h.inj r s b hr1.2.2 e), k4⟩
  · have hr1 : ∀ r, σ1 r = some b → σ r = some b := fun r hr => by
      cases hq : s1.toA.hp r with
      | none => simp [σ1, hq] at hr
      | some b' =>
        simp only [σ1, hq] at hr
        split at hr
        · cases hr
        · exact hr
    exact h.inj r r' b (hr1 r h1) (hr1 r' h2)
  · rcases hb' with hb' | hb'
    · exact h.Alt b hb'
    · exact (h.dom s b hb').2.1
  · rcases hb' with hb' | hb'
    · exact h.Asub b hb'
    · exact .inr (h.dom s b hb').2.2.2

section
variable {h : THp} {r v : Nat} {t : Ty} {xs : List t.den}
theorem frz_id {s z : Nat} {es : List (List AV)} {x : AV} (h : s ∉ x.refs) : Ab.frz s z es x = x := by
  have hc : x.refs.contains s = false := by simpa [List.contains_eq_mem] using h
  unfold Ab.frz
  split
  · rename_i s' z' off len
    rw [if_neg]
    intro e; subst e; exact h (by simp [AV.refs])
  · rename_i s' z' i off
    rw [if_neg]
    intro e; subst e; exact h (by simp [AV.refs])
  · rw [hc]; rfl
theorem fz1 (h0 : look r .gone h = .row v t xs) (y : TV) : FzR r t.z (xs.map t.cells) (A1 h y) (A1 ((r, .frz v t xs) :: h) y) ∧ (live1 ((r, .frz v t xs) :: h) y = true → live1 h y = true) := by
  have other : ∀ k, r ≠ k → look k .gone ((r, TB.frz v t xs) :: h) = look k .gone h := fun k hk => by rw [look_cons, if_neg hk]
  have here : look r .gone ((r, TB.frz v t xs) :: h) = .frz v t xs := by rw [look_cons, if_pos rfl]
  have same : A1 ((r, .frz v t xs) :: h) y = A1 h y → FzR r t.z (xs.map t.cells) (A1 h y) (A1 ((r, .frz v t xs) :: h) y) := by
    intro e
    have hr : r ∉ (A1 ((r, .frz v t xs) :: h) y).refs := fun hm => A1_refs hm (by rw [here]; rfl)
    rw [← e]
    have := FzR.leaf (s := r) (z := t.z) (es := xs.map t.cells) (A1 ((r, .frz v t xs) :: h) y)
    rwa [frz_id hr] at this
  cases y with
  | lw k w =>
    by_cases hk : r = k
    · subst hk
      refine ⟨?_, by simp only [live1, here, h0]; exact id⟩
      simp only [A1, lv1, here, h0]
      cases hb : w.beq v with
      | false => exact .bot _
      | true =>
        have := FzR.leaf (s := r) (z := t.z) (es := xs.map t.cells) (.lsl r t.z 0 xs.length)
        simp only [av1, h0]
        simpa [Ab.frz, List.take_of_length_le] using this
    · refine ⟨same ?_, by simp only [live1, other k hk]; exact id⟩
      simp only [A1, lv1, other k hk]
      repeat' split
      all_goals simp only [av1, other k hk]
  | ls k w off len =>
    by_cases hk : r = k
    · subst hk
      exact ⟨by rw [A1_dead (h := (r, TB.frz v t xs) :: h) (by simp only [live1, here])]; exact .bot _, by simp only [live1, here]; intro h; cases h⟩
    · refine ⟨same ?_, by simp only [live1, other k hk]; exact id⟩
      simp only [A1, lv1, other k hk]
      repeat' split
      all_goals simp only [av1, other k hk]
  | pe k w i off =>
    by_cases hk : r = k
    · subst hk
      exact ⟨by rw [A1_dead (h := (r, TB.frz v t xs) :: h) (by simp only [live1, here])]; exact .bot _, by simp only [live1, here]; intro h; cases h⟩
    · refine ⟨same ?_, by simp only [live1, other k hk]; exact id⟩
      simp only [A1, lv1, other k hk]
      repeat' split
      all_goals simp only [av1, other k hk]
  | pv k off =>
    by_cases hk : r = k
    · subst hk
      exact ⟨by rw [A1_dead (h := (r, TB.frz v t xs) :: h) (by simp only [live1, here])]; exact .bot _, by simp only [live1, here]; intro h; cases h⟩
    · refine ⟨same ?_, by simp only [live1, other k hk]; exact id⟩
      simp only [A1, lv1, other k hk]
      repeat' split
      all_goals simp only [av1]
  | ns t' x => exact ⟨same (by cases x <;> rfl), id⟩
  | _ => exact ⟨same rfl, id⟩

theorem fz_list {α : Type} {P : AV → AV → Prop} {f g : α → AV} {l : List α} (hp : ∀ y ∈ l, P (f y) (g y)) (i : Nat) (x y : AV) (hx : (l.map f)[i]? = some x) (hy : (l.map g)[i]? = some y) : P x y := by
  simp only [List.getElem?_map, Option.map_eq_some_iff] at hx hy
  obtain ⟨a, ha, rfl⟩ := hx
  obtain ⟨b, hb, rfl⟩ := hy
  rw [ha] at hb; cases hb
  exact hp a (List.mem_of_getElem? ha)
theorem fz2 (h0 : look r .gone h = .row v t xs) (x : TV) : FzR r t.z (xs.map t.cells) (A2 h x) (A2 ((r, .frz v t xs) :: h) x) ∧ (live2 ((r, .frz v t xs) :: h) x = true → live2 h x = true) := by
  by_cases hx : leaf x = true
  · rw [A2_leaf hx, A2_leaf hx, live2_leaf hx, live2_leaf hx]
    exact fz1 h0 x
  · cases x with
    | ag cs =>
      refine ⟨?_, fun hl => List.all_eq_true.2 fun y hy => (fz1 h0 y).2 (List.all_eq_true.1 hl y hy)⟩
      rw [A2_ag, A2_ag]
      by_cases hl : cs.all (live1 ((r, .frz v t xs) :: h)) = true
      · rw [if_pos hl, if_pos (List.all_eq_true.2 fun y hy => (fz1 h0 y).2 (List.all_eq_true.1 hl y hy))]
        exact .agg (by simp) (fz_list fun y _ => (fz1 h0 y).1)
      · rw [if_neg hl]; exact .bot _
    | tp => exact ⟨.bot _, id⟩
    | fn => exact ⟨.bot _, id⟩
    | _ => simp [leaf] at hx
theorem fz3 (h0 : look r .gone h = .row v t xs) (x : TV) : FzR r t.z (xs.map t.cells) (Av h x) (Av ((r, .frz v t xs) :: h) x) := by
  by_cases hx : leaf x = true
  · rw [Av_leaf hx, Av_leaf hx]; exact (fz1 h0 x).1
  · cases x with
    | ag cs => rw [Av_ag, Av_ag, ← A2_ag, ← A2_ag]; exact (fz2 h0 _).1
    | tp cs =>
      rw [Av_tp, Av_tp]
      by_cases hl : cs.all (live2 ((r, .frz v t xs) :: h)) = true
      · rw [if_pos hl, if_pos (List.all_eq_true.2 fun y hy => (fz2 h0 y).2 (List.all_eq_true.1 hl y hy))]
        exact .tup (by simp) (fz_list fun y _ => (fz2 h0 y).1)
      · rw [if_neg hl]; exact .bot _
    | fn f cs =>
      rw [Av_fn, Av_fn]
      by_cases hl : cs.all (live2 ((r, .frz v t xs) :: h)) = true
      · rw [if_pos hl, if_pos (List.all_eq_true.2 fun y hy => (fz2 h0 y).2 (List.all_eq_true.1 hl y hy))]
        exact .fn (by simp) (fz_list fun y _ => (fz2 h0 y).1)
      · rw [if_neg hl]; exact .bot _
    | _ => simp [leaf] at hx
end

/-- A typed state whose row is written no more says no more. -/
theorem cv_push_frz {s : TSt} {r v : Nat} {t : Ty} {xs : List t.den} (h0 : look r .gone s.hp = .row v t xs) : (realRets S).cv s.toA (s.push [(r, .frz v t xs)]).toA := by
  refine cv_frz (s := r) (z0 := t.z) (es := xs.map t.cells) (by simp only [toA_hp, h0, blk]) (fun k => fz3 h0 _) (by simp only [toA_hp, TSt.push, List.cons_append, List.nil_append, look_cons, if_true, blk]) fun s' hne => ?_
  simp only [toA_hp, TSt.push, List.cons_append, List.nil_append, look_cons, if_neg (Ne.symm hne)]
  cases hb : look s' .gone s.hp with
  | var cs => exact .inr (.inr ⟨_, _, rfl, rfl, by simp, fz_list fun y _ => (fz1 h0 y).1⟩)
  | row v' t' xs' => exact .inr (.inl ⟨_, _, rfl, rfl⟩)
  | _ => exact .inl rfl
theorem push_push (s : TSt) (a b : THp) : ((s.push a).push b).toA = (s.push (b ++ a)).toA := by
  simp only [TSt.push, TSt.toA, List.append_assoc]
theorem toA_ctr (s : TSt) (n : Nat) : ({ s with ctr := n } : TSt).toA = s.toA := rfl
theorem cv_frzs : ∀ (l : List Nat) (s : TSt) (hs : THp), frzs s.hp l = some hs → (realRets S).cv s.toA (s.push hs).toA
  | [], s, hs, h => by
    simp only [frzs, Option.some.injEq] at h
    subst h
    exact cv_refl _
  | r :: l, s, hs, h => by
    simp only [frzs] at h
    split at h
    · rename_i v t xs hl
      split at h
      · rename_i hs' hrec
        cases h
        refine cv_trans (cv_push_frz hl) ?_
        have := cv_frzs l (s.push [(r, .frz v t xs)]) hs' hrec
        rwa [push_push] at this
      · cases h
    · exact cv_frzs l s hs h
    · exact cv_frzs l s hs h
    · cases h
end
end Ab
