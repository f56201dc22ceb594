/-
  Typed values over the abstract machine: what may be said less exactly of a state (conversions), shown once.
-/
import Derived.Test.YtkedlclobjhkfaaDoorTB
import Derived.Test.YtkedlclobjhkfaaDoorAbY
namespace Ab
open Go Go.RowKit
set_option linter.unusedVariables false
set_option linter.unusedSimpArgs false
set_option linter.unnecessarySimpa false

/-- The same, or an empty slice for a nil one. -/
def Nz (x y : AV) : Prop := x = y ∨ (x = aN ∧ ∃ z, y = .sl z [])
/-- y says no more than x (N: names of new rows, as yet without a block). -/
inductive Wk (N : Nat → Prop) : AV → AV → Prop
  | bot (x : AV) : Wk N x .bot
  | rfl (x : AV) : Wk N x x
  | nil (z : Nat) : Wk N aN (.sl z [])
  | row0 (r z : Nat) : N r → Wk N aN (.lsl r z 0 0)
  | agg {cs ds : List AV} : cs.length = ds.length → (∀ (i : Nat) (x y : AV), cs[i]? = some x → ds[i]? = some y → Wk N x y) → Wk N (.agg cs) (.agg ds)
  | tup {cs ds : List AV} : cs.length = ds.length → (∀ (i : Nat) (x y : AV), cs[i]? = some x → ds[i]? = some y → Wk N x y) → Wk N (.tup cs) (.tup ds)
  | fn {f : Nat} {cs ds : List AV} : cs.length = ds.length → (∀ (i : Nat) (x y : AV), cs[i]? = some x → ds[i]? = some y → Wk N x y) → Wk N (.fn f cs) (.fn f ds)
  | ifc (t : Nat) (x : AV) : Wk N (.ifc t x) (.ifc t .bot)
  | ep {cs ds : List AV} (off : Nat) : cs.length = ds.length → (∀ (i : Nat) (x y : AV), cs[i]? = some x → ds[i]? = some y → Nz x y) → Wk N (.ep cs off) (.ep ds off)

theorem Nz.wk {N : Nat → Prop} {x y : AV} (h : Nz x y) : Wk N x y := by
  rcases h with rfl | ⟨rfl, z, rfl⟩
  · exact .rfl _
  · exact .nil z
theorem get_of_len {α β : Type} {l : List α} {m : List β} (h : l.length = m.length) {i : Nat} {y : β} (hy : m[i]? = some y) : ∃ x, l[i]? = some x := by
  have := (List.getElem?_eq_some_iff.1 hy).1
  exact ⟨l[i]'(by omega), List.getElem?_eq_getElem _⟩

section
variable {S : Seat} {A0 O : Nat → Prop} {w0 : World} {A : Nat → Prop} {σ σ' : Nat → Option Nat} {w : World} {st st1 : ASt} {tm : Array Value} {N : Nat → Prop}

theorem VR0.nz {x y : AV} (hn : Nz x y) {v : Value} (h : VR0 S A w x v) : VR0 S A w y v := by
  rcases hn with rfl | ⟨rfl, z, rfl⟩
  · exact h
  · have : v = .slice none 0 0 := VR.v_inv (σ := fun _ => none) (.of0 h)
    subst this
    exact .slnil z
theorem VR0.ep_nz {cs ds : List AV} {off : Nat} (hl : cs.length = ds.length) (hp : ∀ (i : Nat) (x y : AV), cs[i]? = some x → ds[i]? = some y → Nz x y) {v : Value} (h : VR0 S A w (.ep cs off) v) : VR0 S A w (.ep ds off) v := by
  cases h with
  | ep h1 h2 h3 =>
    refine .ep h1 (fun j hj => h2 j (by omega)) fun j y hy => ?_
    obtain ⟨x, hx⟩ := get_of_len hl hy
    exact (h3 j x hx).nz (hp j x y hx hy)
theorem VR.wk {x y : AV} (hw : Wk N x y) : ∀ {v : Value}, VR S A σ w x v → (∀ s ∈ y.refs, σ' s = σ s) → (∀ r, N r → σ' r = none) → VR S A σ' w y v := by
  have sub : ∀ {cs : List AV} {x0 : AV} {j : Nat}, cs[j]? = some x0 → ∀ s ∈ x0.refs, s ∈ AV.refsL cs := fun hx s hs => mem_refsL.2 ⟨_, List.mem_of_getElem? hx, hs⟩
  induction hw with
  | bot x => intro v _ _ _; exact .of0 (.bot v)
  | rfl x =>
    intro v h hs _
    exact h.mono (fun _ h => h) (fun _ _ => rfl) fun s hm => ⟨hs s hm, fun b cs el _ hb => ⟨cs, hb, rfl⟩⟩
  | nil z =>
    intro v h _ _
    have : v = .slice none 0 0 := VR.v_inv h
    subst this
    exact .of0 (.slnil z)
  | row0 r z hr =>
    intro v h _ hN
    have : v = .slice none 0 0 := VR.v_inv h
    subst this
    exact .lslnil (hN r hr)
  | agg hl hp ih =>
    intro v h hs hN
    obtain ⟨vs, rfl, h1, h2⟩ := h.agg_inv
    refine .agg (by omega) fun i y hy => ?_
    obtain ⟨x, hx⟩ := get_of_len hl hy
    exact ih i x y hx hy (h2 i x hx) (fun s hm => hs s (by rw [AV.refs]; exact sub hy s hm)) hN
  | tup hl hp ih =>
    intro v h hs hN
    obtain ⟨vs, rfl, h1, h2⟩ := h.tup_inv
    refine .tup (by omega) fun i y hy => ?_
    obtain ⟨x, hx⟩ := get_of_len hl hy
    exact ih i x y hx hy (h2 i x hx) (fun s hm => hs s (by rw [AV.refs]; exact sub hy s hm)) hN
  | fn hl hp ih =>
    intro v h hs hN
    obtain ⟨g, vs, rfl, h0, h1, h2⟩ := h.fn_inv
    refine .fn h0 (by omega) fun i y hy => ?_
    obtain ⟨x, hx⟩ := get_of_len hl hy
    exact ih i x y hx hy (h2 i x hx) (fun s hm => hs s (by rw [AV.refs]; exact sub hy s hm)) hN
  | ifc t x =>
    intro v h _ _
    cases h with
    | of0 h => cases h with | ifc h0 h1 => exact .of0 (.ifc h0 (.bot _))
    | ifc h0 h1 => exact .of0 (.ifc h0 (.bot _))
  | ep off hl hp =>
    intro v h _ _
    cases h with
    | of0 h => exact .of0 (h.ep_nz hl hp)

theorem VR0.wk {x y : AV} (hw : Wk (fun _ => False) x y) : ∀ {v : Value}, VR0 S A w x v → VR0 S A w y v := by
  induction hw with
  | bot x => intro v _; exact .bot v
  | rfl x => intro v h; exact h
  | nil z =>
    intro v h
    have : v = .slice none 0 0 := VR.v_inv (σ := fun _ => none) (.of0 h)
    subst this
    exact .slnil z
  | row0 r z hr => exact hr.elim
  | agg hl hp ih =>
    intro v h
    cases h with
    | agg h1 h2 =>
      refine .agg (by omega) fun i y hy => ?_
      obtain ⟨x, hx⟩ := get_of_len hl hy
      exact ih i x y hx hy (h2 i x hx)
  | tup hl hp ih =>
    intro v h
    cases h with
    | tup h1 h2 =>
      refine .tup (by omega) fun i y hy => ?_
      obtain ⟨x, hx⟩ := get_of_len hl hy
      exact ih i x y hx hy (h2 i x hx)
  | fn hl hp ih =>
    intro v h
    cases h with
    | fn h0 h1 h2 =>
      refine .fn h0 (by omega) fun i y hy => ?_
      obtain ⟨x, hx⟩ := get_of_len hl hy
      exact ih i x y hx hy (h2 i x hx)
  | ifc t x =>
    intro v h
    cases h with | ifc h0 h1 => exact .ifc h0 (.bot _)
  | ep off hl hp => intro v h; exact h.ep_nz hl hp

/-- Elements, cell by cell. -/
def EWk (es es1 : List (List AV)) : Prop :=
  es.length = es1.length ∧ ∀ (i : Nat) (e e1 : List AV), es[i]? = some e → es1[i]? = some e1 → e.length = e1.length ∧ ∀ (c : Nat) (x y : AV), e[c]? = some x → e1[c]? = some y → Wk (fun _ => False) x y
theorem EWk.rfl (es : List (List AV)) : EWk es es :=
  ⟨by simp, fun i e e1 h h1 => by rw [h] at h1; cases h1; exact ⟨by simp, fun c x y h h1 => by rw [h] at h1; cases h1; exact .rfl _⟩⟩
inductive BWk (N : Nat → Prop) : Blk → Blk → Prop
  | var {cs ds : List AV} : cs.length = ds.length → (∀ (i : Nat) (x y : AV), cs[i]? = some x → ds[i]? = some y → Wk N x y) → BWk N (.var cs) (.var ds)
  | arr {z : Nat} {es es1 : List (List AV)} : EWk es es1 → BWk N (.arr z es) (.arr z es1)
theorem BWk.rfl {N : Nat → Prop} (b : Blk) : BWk N b b := by
  cases b with
  | var cs => exact .var (by simp) fun i x y h h1 => by rw [h] at h1; cases h1; exact .rfl _
  | arr z es => exact .arr (.rfl es)

structure SWk (N : Nat → Prop) (st st1 : ASt) : Prop where
  fr : ∀ k, Wk N (st.fr k) (st1.fr k)
  hp : ∀ s, st1.hp s = none ∨ (∃ b b1, st.hp s = some b ∧ st1.hp s = some b1 ∧ BWk N b b1) ∨ (st.hp s = none ∧ ∃ z, st1.hp s = some (.arr z []))
  new : ∀ r, N r → st.hp r = none
  dang : ∀ k s, s ∈ (st1.fr k).refs → st1.hp s ≠ none
  dangV : ∀ s cs, st1.hp s = some (.var cs) → ∀ s' ∈ AV.refsL cs, st1.hp s' ≠ none

theorem SRel.weaken (h : SRel S A0 O w0 A σ w st tm) (hl : SWk N st st1) : ∃ A' σ', SRel S A0 O w0 A' σ' w st1 tm := by
  have hnone : ∀ s, st.hp s = none → σ s = none := fun s hs => by
    cases hq : σ s with
    | none => exact Eq.refl _
    | some b => exact absurd hs (h.dom s b hq).1
  let σ1 : Nat → Option Nat := fun k => match st1.hp k with | none => none | some _ => σ k
  have hσ : ∀ s, st1.hp s ≠ none → σ1 s = σ s := fun s hs => by
    cases hq : st1.hp s with
    | none => exact absurd hq hs
    | some b => simp [σ1, hq]
  have hN : ∀ r, N r → σ1 r = none := fun r hr => by
    cases hq : st1.hp r with
    | none => simp [σ1, hq]
    | some b => simp [σ1, hq, hnone r (hl.new r hr)]
  refine ⟨A, σ1, fun k => (h.fr k).wk (hl.fr k) (fun s hs => hσ s (hl.dang k s hs)) hN, fun s blk hb => ?_, hl.dang, hl.dangV, fun s b hs => ?_, fun s s' b h1 h2 => ?_, h.Alt, h.Asub, h.keep, h.Olt⟩
  · have hs1 : σ1 s = σ s := hσ s (by rw [hb]; simp)
    rcases hl.hp s with hk | ⟨b, b1, k1, k2, k3⟩ | ⟨k1, z, k2⟩
    · rw [hk] at hb; cases hb
    · rw [hb] at k2; cases k2
      have hr := h.hp s b k1
      cases k3 with
      | @var cs ds hl1 hp1 =>
        obtain ⟨b, vs, el, m1, m2, m3, m4⟩ := hr
        refine ⟨b, vs, el, hs1.trans m1, m2, by omega, fun i y hy => ?_⟩
        obtain ⟨x, hx⟩ := get_of_len hl1 hy
        exact (m4 i x hx).wk (hp1 i x y hx hy) (fun s' hs' => hσ s' (hl.dangV s ds hb s' (mem_refsL.2 ⟨y, List.mem_of_getElem? hy, hs'⟩))) hN
      | @arr z es es1 he =>
        obtain ⟨e1, e2⟩ := he
        obtain ⟨m0, m1⟩ := hr
        refine ⟨fun e he => ?_, ?_⟩
        · obtain ⟨i, hi⟩ := List.mem_iff_getElem?.1 he
          obtain ⟨e0, he0⟩ := get_of_len e1 hi
          rw [← (e2 i e0 e he0 hi).1]
          exact m0 e0 (List.mem_of_getElem? he0)
        · rcases m1 with ⟨m1, rfl⟩ | ⟨b, vs, el, m1, m2, m3, m4, m5⟩
          · exact .inl ⟨hs1.trans m1, List.length_eq_zero_iff.1 (by simpa using e1.symm)⟩
          · refine .inr ⟨b, vs, el, hs1.trans m1, m2, by rw [← e1]; exact m3, by rw [← e1]; exact m4, fun i e c y hi hc => ?_⟩
            obtain ⟨e0, he0⟩ := get_of_len e1 hi
            obtain ⟨x, hx⟩ := get_of_len (e2 i e0 e he0 hi).1 hc
            exact (m5 i e0 c x he0 hx).wk ((e2 i e0 e he0 hi).2 c x y hx hc)
    · rw [hb] at k2; cases k2
      exact ⟨by simp, .inl ⟨hs1.trans (hnone s k1), Eq.refl _⟩⟩
  · have hs1 : σ1 s = σ s ∧ st1.hp s ≠ none := by
      cases hq : st1.hp s with
      | none => simp [σ1, hq] at hs
      | some b => exact ⟨by simp [σ1, hq], by simp⟩
    obtain ⟨k1, k2⟩ := h.dom s b (hs1.1 ▸ hs)
    exact ⟨hs1.2, k2⟩
  · have hs1 : ∀ s b, σ1 s = some b → σ s = some b := fun s b hs => by
      cases hq : st1.hp s with
      | none => simp [σ1, hq] at hs
      | some b => simpa [σ1, hq] using hs
    exact h.inj s s' b (hs1 _ _ h1) (hs1 _ _ h2)

theorem cv_weaken (hl : SWk N st st1) : (realRets S).cv st st1 := fun A0 O w0 A σ w tm h => h.weaken hl
theorem cv_refl (st : ASt) : (realRets S).cv st st := fun A0 O w0 A σ w tm h => ⟨A, σ, h⟩
theorem cv_trans {a b c : ASt} (h1 : (realRets S).cv a b) (h2 : (realRets S).cv b c) : (realRets S).cv a c := fun A0 O w0 A σ w tm h => by
  obtain ⟨A', σ', h'⟩ := h1 A0 O w0 A σ w tm h
  exact h2 A0 O w0 A' σ' w tm h'
theorem cv_freeze (st : ASt) (s : Nat) : (realRets S).cv st (st.freeze s) := fun A0 O w0 A σ w tm h => by
  obtain ⟨A', σ', h', _⟩ := h.freeze s
  exact ⟨A', σ', h'⟩
end

/-! ### typed states: what stands in their slots -/

theorem look_cons {α : Type} (k a : Nat) (d x : α) (l : List (Nat × α)) : look k d ((a, x) :: l) = if a = k then x else look k d l := by
  simp only [look]
  by_cases h : a = k
  · subst h; simp [Nat.beq_refl]
  · rw [if_neg h]
    have : Nat.beq a k = false := by
      cases hb : Nat.beq a k with
      | false => rfl
      | true => exact absurd (Nat.eq_of_beq_eq_true hb) h
    rw [this]
theorem beq_iff {a b : Nat} : Nat.beq a b = true ↔ a = b := ⟨Nat.eq_of_beq_eq_true, fun h => by subst h; exact Nat.beq_refl _⟩

/-- A value of the typed state. -/
def Av (h : THp) (x : TV) : AV := av h (lv h x)
theorem toA_fr (s : TSt) (k : Nat) : s.toA.fr k = Av s.hp (look k .bot s.fr) := rfl
theorem toA_hp (s : TSt) (k : Nat) : s.toA.hp k = blk s.hp (look k .gone s.hp) := rfl

/-- A leaf is no struct, no tuple, no function. -/
def leaf : TV → Bool
  | .ag _ | .tp _ | .fn _ _ => false
  | _ => true
theorem lv1_leaf (h : THp) (x : TV) : leaf (lv1 h x) = true := by
  cases x with
  | lw s v => simp only [lv1]; repeat' split
              all_goals rfl
  | ls s v off len => simp only [lv1]; repeat' split
                      all_goals rfl
  | pe s v i off => simp only [lv1]; repeat' split
                    all_goals rfl
  | pv s off => simp only [lv1]; repeat' split
                all_goals rfl
  | _ => rfl
theorem lv1_idem (h : THp) (x : TV) : lv1 h (lv1 h x) = lv1 h x := by
  cases x with
  | lw s v => cases hl : look s .gone h with
    | row v' t xs => cases hb : v.beq v' <;> simp [lv1, hl, hb]
    | frz v' t xs => cases hb : v.beq v' <;> simp [lv1, hl, hb]
    | _ => simp [lv1, hl]
  | ls s v off len => cases hl : look s .gone h with
    | row v' t xs => cases hb : v.beq v' <;> simp [lv1, hl, hb]
    | _ => simp [lv1, hl]
  | pe s v i off => cases hl : look s .gone h with
    | row v' t xs => cases hb : v.beq v' <;> simp [lv1, hl, hb]
    | _ => simp [lv1, hl]
  | pv s off => cases hl : look s .gone h <;> simp [lv1, hl]
  | _ => rfl
/-- A leaf as it reads now is a leaf that lives. -/
theorem live_lv1 (h : THp) (x : TV) : live1 h (lv1 h x) = true := by
  cases x with
  | lw s v => cases hl : look s .gone h with
    | row v' t xs => cases hb : v.beq v' <;> simp [lv1, hl, hb, live1]
    | frz v' t xs => cases hb : v.beq v' <;> simp [lv1, hl, hb, live1]
    | _ => simp [lv1, hl, live1]
  | ls s v off len => cases hl : look s .gone h with
    | row v' t xs => cases hb : v.beq v' <;> simp [lv1, hl, hb, live1]
    | _ => simp [lv1, hl, live1]
  | pe s v i off => cases hl : look s .gone h with
    | row v' t xs => cases hb : v.beq v' <;> simp [lv1, hl, hb, live1]
    | _ => simp [lv1, hl, live1]
  | pv s off => cases hl : look s .gone h <;> simp [lv1, hl, live1]
  | _ => rfl
theorem dead1 {h : THp} {x : TV} (hx : live1 h x = false) : lv1 h x = .bot := by
  cases x with
  | lw s v => cases hl : look s .gone h <;> simp_all [lv1, live1]
  | ls s v off len => cases hl : look s .gone h <;> simp_all [lv1, live1]
  | pe s v i off => cases hl : look s .gone h <;> simp_all [lv1, live1]
  | pv s off => cases hl : look s .gone h <;> simp_all [lv1, live1]
  | ag => rfl
  | tp => rfl
  | fn => rfl
  | _ => simp [live1] at hx
theorem lv2_leaf {h : THp} {x : TV} (hx : leaf x = true) : lv2 h x = lv1 h x := by cases x <;> first | rfl | simp [leaf] at hx
theorem lv_leaf {h : THp} {x : TV} (hx : leaf x = true) : lv h x = lv1 h x := by cases x <;> first | rfl | simp [leaf] at hx
theorem av2_leaf {h : THp} {x : TV} (hx : leaf x = true) : av2 h x = av1 h x := by cases x <;> first | rfl | simp [leaf] at hx
theorem av_leaf {h : THp} {x : TV} (hx : leaf x = true) : av h x = av1 h x := by cases x <;> first | rfl | simp [leaf] at hx
theorem live2_leaf {h : THp} {x : TV} (hx : leaf x = true) : live2 h x = live1 h x := by cases x <;> first | rfl | simp [leaf] at hx
/-- What a value is in the abstract machine, by its depth. -/
def A1 (h : THp) (x : TV) : AV := av1 h (lv1 h x)
def A2 (h : THp) (x : TV) : AV := av2 h (lv2 h x)
theorem Av_leaf {h : THp} {x : TV} (hx : leaf x = true) : Av h x = A1 h x := by rw [Av, lv_leaf hx, av_leaf (lv1_leaf h x)]; rfl
theorem A2_leaf {h : THp} {x : TV} (hx : leaf x = true) : A2 h x = A1 h x := by rw [A2, lv2_leaf hx, av2_leaf (lv1_leaf h x)]; rfl
theorem A2_ag (h : THp) (cs : List TV) : A2 h (.ag cs) = if cs.all (live1 h) = true then .agg (cs.map (A1 h)) else .bot := by
  simp only [A2, lv2]
  cases hb : cs.all (live1 h)
  · rfl
  · simp only [av2, List.map_map, if_true]; rfl
theorem Av_ag (h : THp) (cs : List TV) : Av h (.ag cs) = if cs.all (live1 h) = true then .agg (cs.map (A1 h)) else .bot := by
  rw [← A2_ag]
  simp only [Av, A2, lv, lv2]
  cases hb : cs.all (live1 h) <;> rfl
theorem Av_tp (h : THp) (cs : List TV) : Av h (.tp cs) = if cs.all (live2 h) = true then .tup (cs.map (A2 h)) else .bot := by
  simp only [Av, lv]
  cases hb : cs.all (live2 h)
  · rfl
  · simp only [av, List.map_map, if_true]; rfl
theorem Av_fn (h : THp) (f : Nat) (cs : List TV) : Av h (.fn f cs) = if cs.all (live2 h) = true then .fn f (cs.map (A2 h)) else .bot := by
  simp only [Av, lv]
  cases hb : cs.all (live2 h)
  · rfl
  · simp only [av, List.map_map, if_true]; rfl
theorem all_map_true {α β : Type} {f : β → Bool} {g : α → β} (l : List α) (h : ∀ x, f (g x) = true) : (l.map g).all f = true := by
  rw [List.all_map, List.all_eq_true]; exact fun x _ => h x
theorem lv2_idem (h : THp) (x : TV) : lv2 h (lv2 h x) = lv2 h x := by
  by_cases hx : leaf x = true
  · rw [lv2_leaf hx, lv2_leaf (lv1_leaf h x), lv1_idem]
  · cases x with
    | ag cs =>
      simp only [lv2]
      cases hb : cs.all (live1 h)
      · rfl
      · simp only [lv2, all_map_true cs (live_lv1 h), List.map_map]
        congr 1
        exact List.map_congr_left fun y _ => lv1_idem h y
    | tp => rfl
    | fn => rfl
    | _ => simp [leaf] at hx
theorem live_lv2 (h : THp) (x : TV) : live2 h (lv2 h x) = true := by
  by_cases hx : leaf x = true
  · rw [lv2_leaf hx, live2_leaf (lv1_leaf h x)]; exact live_lv1 h x
  · cases x with
    | ag cs =>
      simp only [lv2]
      cases hb : cs.all (live1 h)
      · rfl
      · simp only [live2, all_map_true cs (live_lv1 h)]
    | tp => rfl
    | fn => rfl
    | _ => simp [leaf] at hx
theorem lv_idem (h : THp) (x : TV) : lv h (lv h x) = lv h x := by
  by_cases hx : leaf x = true
  · rw [lv_leaf hx, lv_leaf (lv1_leaf h x), lv1_idem]
  · cases x with
    | ag cs =>
      have := lv2_idem h (.ag cs)
      simp only [lv, lv2] at this ⊢
      cases hb : cs.all (live1 h)
      · rfl
      · rw [hb] at this; exact this
    | tp cs =>
      simp only [lv]
      cases hb : cs.all (live2 h)
      · rfl
      · simp only [lv, all_map_true cs (live_lv2 h), List.map_map]
        congr 1
        exact List.map_congr_left fun y _ => lv2_idem h y
    | fn f cs =>
      simp only [lv]
      cases hb : cs.all (live2 h)
      · rfl
      · simp only [lv, all_map_true cs (live_lv2 h), List.map_map]
        congr 1
        exact List.map_congr_left fun y _ => lv2_idem h y
    | _ => simp [leaf] at hx
theorem Av_lv (h : THp) (x : TV) : Av h (lv h x) = Av h x := by rw [Av, lv_idem]; rfl
theorem av_cst (h : THp) (x : Value) : Av h (cst x) = .v x := by
  unfold cst
  split <;> rfl
theorem ev_Av (s : TSt) (x : AOpd) : s.toA.ev x = Av s.hp (s.ev x) := by
  cases x with
  | t n => simp only [ASt.ev, TSt.ev, toA_fr, Av_lv]
  | c x => simp only [ASt.ev, TSt.ev, av_cst]
  | f id => rfl
theorem ev_lv (s : TSt) (x : AOpd) : lv s.hp (s.ev x) = s.ev x := by
  cases x with
  | t n => simp only [TSt.ev, lv_idem]
  | c x => simp only [TSt.ev]; unfold cst; split <;> rfl
  | f id => rfl
theorem ev_av (s : TSt) (x : AOpd) : s.toA.ev x = av s.hp (s.ev x) := by rw [ev_Av, Av, ev_lv]

/-! ### what a value leads to is there -/

theorem A1_refs {h : THp} {x : TV} {s : Nat} (hs : s ∈ (A1 h x).refs) : blk h (look s .gone h) ≠ none := by
  cases x with
  | lw r v => cases hr : look r .gone h with
    | row v' t xs => cases hb : v.beq v' <;> simp_all [A1, lv1, av1, AV.refs, blk]
    | frz v' t xs => cases hb : v.beq v' <;> simp_all [A1, lv1, av1, AV.refs, blk]
    | _ => simp_all [A1, lv1, av1, AV.refs]
  | ls r v off len => cases hr : look r .gone h with
    | row v' t xs => cases hb : v.beq v' <;> simp_all [A1, lv1, av1, AV.refs, blk]
    | _ => simp_all [A1, lv1, av1, AV.refs]
  | pe r v i off => cases hr : look r .gone h with
    | row v' t xs => cases hb : v.beq v' <;> simp_all [A1, lv1, av1, AV.refs, blk]
    | _ => simp_all [A1, lv1, av1, AV.refs]
  | pv r off => cases hr : look r .gone h <;> simp_all [A1, lv1, av1, AV.refs, blk]
  | e x => cases x <;> simp [A1, lv1, av1, Err.av, AV.refs, aI] at hs
  | ns t x => cases x <;> simp [A1, lv1, av1, AV.refs, aN] at hs
  | _ => simp [A1, lv1, av1, AV.refs, aI, aU, aB, aS, aN, ud] at hs
theorem A2_refs {h : THp} {x : TV} {s : Nat} (hs : s ∈ (A2 h x).refs) : blk h (look s .gone h) ≠ none := by
  by_cases hx : leaf x = true
  · rw [A2_leaf hx] at hs; exact A1_refs hs
  · cases x with
    | ag cs =>
      rw [A2_ag] at hs
      split at hs
      · simp only [AV.refs, mem_refsL, List.mem_map] at hs
        obtain ⟨_, ⟨y, hy, rfl⟩, hs⟩ := hs
        exact A1_refs hs
      · simp [AV.refs] at hs
    | tp => simp [A2, lv2, lv1, av2, av1, AV.refs] at hs
    | fn => simp [A2, lv2, lv1, av2, av1, AV.refs] at hs
    | _ => simp [leaf] at hx
theorem Av_refs {h : THp} {x : TV} {s : Nat} (hs : s ∈ (Av h x).refs) : blk h (look s .gone h) ≠ none := by
  by_cases hx : leaf x = true
  · rw [Av_leaf hx] at hs; exact A1_refs hs
  · cases x with
    | ag cs =>
      rw [Av_ag, ← A2_ag] at hs
      exact A2_refs hs
    | tp cs =>
      rw [Av_tp] at hs
      split at hs
      · simp only [AV.refs, mem_refsL, List.mem_map] at hs
        obtain ⟨_, ⟨y, hy, rfl⟩, hs⟩ := hs
        exact A2_refs hs
      · simp [AV.refs] at hs
    | fn f cs =>
      rw [Av_fn] at hs
      split at hs
      · simp only [AV.refs, mem_refsL, List.mem_map] at hs
        obtain ⟨_, ⟨y, hy, rfl⟩, hs⟩ := hs
        exact A2_refs hs
      · simp [AV.refs] at hs
    | _ => simp [leaf] at hx
theorem toA_dang (s : TSt) (k r : Nat) (h : r ∈ (s.toA.fr k).refs) : s.toA.hp r ≠ none := Av_refs h
theorem toA_dangV (s : TSt) (r : Nat) (cs : List AV) (h : s.toA.hp r = some (.var cs)) (r' : Nat) (hr : r' ∈ AV.refsL cs) : s.toA.hp r' ≠ none := by
  rw [toA_hp] at h
  cases hb : look r .gone s.hp with
  | var vs =>
    rw [hb] at h
    simp only [blk, Option.some.injEq, Blk.var.injEq] at h
    subst h
    simp only [mem_refsL, List.mem_map] at hr
    obtain ⟨_, ⟨y, hy, rfl⟩, hr⟩ := hr
    exact A1_refs hr
  | _ => rw [hb] at h; simp [blk] at h

/-- From one typed state to another one that says no more. -/
theorem SWk.mk' {N : Nat → Prop} {st : ASt} {s1 : TSt} (hf : ∀ k, Wk N (st.fr k) (s1.toA.fr k))
    (hh : ∀ s, s1.toA.hp s = none ∨ (∃ b b1, st.hp s = some b ∧ s1.toA.hp s = some b1 ∧ BWk N b b1) ∨ (st.hp s = none ∧ ∃ z, s1.toA.hp s = some (.arr z []))) (hn : ∀ r, N r → st.hp r = none) : SWk N st s1.toA :=
  ⟨hf, hh, hn, toA_dang s1, toA_dangV s1⟩

/-! ### a new heap: what becomes of the values -/

def leafs1 : TV → List TV
  | .ag cs => cs
  | x => [x]
def leafs : TV → List TV
  | .tp vs | .fn _ vs => vs.flatMap leafs1
  | x => leafs1 x

/-- From heap h to h1 a leaf stays the same; or it is forgotten. -/
structure LE (h h1 : THp) (y : TV) : Prop where
  live : live1 h1 y = live1 h y
  av : A1 h1 y = A1 h y
def LO (h h1 : THp) (y : TV) : Prop := live1 h1 y = false ∨ LE h h1 y

theorem all_congr' {α : Type} {f g : α → Bool} : ∀ {l : List α}, (∀ y ∈ l, f y = g y) → l.all f = l.all g
  | [], _ => rfl
  | a :: r, h => by simp only [List.all_cons, h a List.mem_cons_self, all_congr' fun y hy => h y (List.mem_cons_of_mem _ hy)]
theorem leafs1_leaf {x : TV} (hx : leaf x = true) : leafs1 x = [x] := by cases x <;> first | rfl | simp [leaf] at hx
theorem leafs_leaf {x : TV} (hx : leaf x = true) : leafs x = [x] := by cases x <;> first | rfl | simp [leaf] at hx
theorem A1_dead {h : THp} {x : TV} (hx : live1 h x = false) : A1 h x = .bot := by rw [A1, dead1 hx]; rfl
theorem LE.two {h h1 : THp} {x : TV} (hs : ∀ y ∈ leafs1 x, LE h h1 y) : live2 h1 x = live2 h x ∧ A2 h1 x = A2 h x := by
  by_cases hx : leaf x = true
  · have h0 := hs x (by rw [leafs1_leaf hx]; simp)
    rw [live2_leaf hx, live2_leaf hx, A2_leaf hx, A2_leaf hx]
    exact ⟨h0.live, h0.av⟩
  · cases x with
    | ag cs =>
      have e : cs.all (live1 h1) = cs.all (live1 h) := all_congr' fun y hy => (hs y (by simpa [leafs1] using hy)).live
      refine ⟨e, ?_⟩
      have hs' : ∀ y ∈ cs, LE h h1 y := hs
      rw [A2_ag, A2_ag, e, List.map_congr_left fun y hy => (hs' y hy).av]
    | tp => exact ⟨rfl, rfl⟩
    | fn => exact ⟨rfl, rfl⟩
    | _ => simp [leaf] at hx
theorem LE.all {h h1 : THp} {x : TV} (hs : ∀ y ∈ leafs x, LE h h1 y) : Av h1 x = Av h x := by
  by_cases hx : leaf x = true
  · have h0 : LE h h1 x := hs x (by rw [leafs_leaf hx]; simp)
    rw [Av_leaf hx, Av_leaf hx, h0.av]
  · cases x with
    | ag cs => rw [Av_ag, Av_ag, ← A2_ag, ← A2_ag]; exact (LE.two (x := .ag cs) hs).2
    | tp cs =>
      have h2 : ∀ y ∈ cs, live2 h1 y = live2 h y ∧ A2 h1 y = A2 h y := fun y hy => LE.two fun z hz => hs z (List.mem_flatMap.2 ⟨y, hy, hz⟩)
      rw [Av_tp, Av_tp, show cs.all (live2 h1) = cs.all (live2 h) from all_congr' fun y hy => (h2 y hy).1, List.map_congr_left fun y hy => (h2 y hy).2]
    | fn f cs =>
      have h2 : ∀ y ∈ cs, live2 h1 y = live2 h y ∧ A2 h1 y = A2 h y := fun y hy => LE.two fun z hz => hs z (List.mem_flatMap.2 ⟨y, hy, hz⟩)
      rw [Av_fn, Av_fn, show cs.all (live2 h1) = cs.all (live2 h) from all_congr' fun y hy => (h2 y hy).1, List.map_congr_left fun y hy => (h2 y hy).2]
    | _ => simp [leaf] at hx

theorem LO.two {h h1 : THp} {x : TV} (hs : ∀ y ∈ leafs1 x, LO h h1 y) (hl : live2 h1 x = true) : live2 h x = true ∧ A2 h1 x = A2 h x := by
  have one : ∀ y, LO h h1 y → live1 h1 y = true → live1 h y = true ∧ A1 h1 y = A1 h y := by
    rintro y (h2 | h2) hy
    · rw [h2] at hy; cases hy
    · exact ⟨h2.live.symm.trans hy, h2.av⟩
  by_cases hx : leaf x = true
  · rw [live2_leaf hx] at hl
    rw [live2_leaf hx, A2_leaf hx, A2_leaf hx]
    exact one _ (hs x (by rw [leafs1_leaf hx]; simp)) hl
  · cases x with
    | ag cs =>
      have h2 : ∀ y ∈ cs, live1 h y = true ∧ A1 h1 y = A1 h y := fun y hy => one y (hs y hy) (List.all_eq_true.1 hl y hy)
      have e : cs.all (live1 h) = true := List.all_eq_true.2 fun y hy => (h2 y hy).1
      refine ⟨e, ?_⟩
      have hl' : cs.all (live1 h1) = true := hl
      rw [A2_ag, A2_ag, if_pos hl', if_pos e, List.map_congr_left fun y hy => (h2 y hy).2]
    | tp => simp [live2, live1] at hl
    | fn => simp [live2, live1] at hl
    | _ => simp [leaf] at hx
theorem LO.all {h h1 : THp} {x : TV} (hs : ∀ y ∈ leafs x, LO h h1 y) : Av h1 x = .bot ∨ Av h1 x = Av h x := by
  by_cases hx : leaf x = true
  · have h0 : LO h h1 x := hs x (by rw [leafs_leaf hx]; simp)
    rw [Av_leaf hx, Av_leaf hx]
    exact h0.imp A1_dead fun h0 => h0.av
  · cases x with
    | ag cs =>
      rw [Av_ag, Av_ag, ← A2_ag, ← A2_ag]
      cases hb : live2 h1 (.ag cs) with
      | true => exact .inr (LO.two (x := .ag cs) hs hb).2
      | false =>
        left
        rw [A2_ag, if_neg]
        simp only [live2] at hb; rw [hb]; simp
    | tp cs =>
      have h2 : ∀ y ∈ cs, live2 h1 y = true → live2 h y = true ∧ A2 h1 y = A2 h y := fun y hy => LO.two fun z hz => hs z (List.mem_flatMap.2 ⟨y, hy, hz⟩)
      rw [Av_tp, Av_tp]
      split
      · rename_i hb
        have hb' := List.all_eq_true.1 hb
        rw [if_pos (List.all_eq_true.2 fun y hy => (h2 y hy (hb' y hy)).1), List.map_congr_left fun y hy => (h2 y hy (hb' y hy)).2]
        exact .inr rfl
      · exact .inl rfl
    | fn f cs =>
      have h2 : ∀ y ∈ cs, live2 h1 y = true → live2 h y = true ∧ A2 h1 y = A2 h y := fun y hy => LO.two fun z hz => hs z (List.mem_flatMap.2 ⟨y, hy, hz⟩)
      rw [Av_fn, Av_fn]
      split
      · rename_i hb
        have hb' := List.all_eq_true.1 hb
        rw [if_pos (List.all_eq_true.2 fun y hy => (h2 y hy (hb' y hy)).1), List.map_congr_left fun y hy => (h2 y hy (hb' y hy)).2]
        exact .inr rfl
      · exact .inl rfl
    | _ => simp [leaf] at hx
theorem LO.wk {N : Nat → Prop} {h h1 : THp} {x : TV} (hs : ∀ y ∈ leafs x, LO h h1 y) : Wk N (Av h x) (Av h1 x) := by
  rcases LO.all hs with e | e <;> rw [e]
  · exact .bot _
  · exact .rfl _

/-! ### one name more, or another thing under a name -/

theorem any_false {α : Type} {f : α → Bool} : ∀ {l : List α}, l.any f = false → ∀ y ∈ l, f y = false
  | a :: r, h, y, hy => by
    simp only [List.any_cons, Bool.or_eq_false_iff] at h
    rcases List.mem_cons.1 hy with rfl | hy
    · exact h.1
    · exact any_false h.2 y hy
theorem cl_leafs {d : Nat} {b : TB} {x : TV} (h : cl d b x = false) : ∀ y ∈ leafs x, cl1 d b y = false := by
  have two : ∀ x, cl2 d b x = false → ∀ y ∈ leafs1 x, cl1 d b y = false := by
    intro x h y hy
    by_cases hx : leaf x = true
    · rw [leafs1_leaf hx, List.mem_singleton] at hy
      subst hy
      cases y <;> first | exact h | simp [leaf] at hx
    · cases x with
      | ag cs => exact any_false h y hy
      | tp => simp only [leafs1, List.mem_singleton] at hy; subst hy; exact h
      | fn => simp only [leafs1, List.mem_singleton] at hy; subst hy; exact h
      | _ => simp [leaf] at hx
  intro y hy
  cases x with
  | tp cs =>
    obtain ⟨z, hz, hy⟩ := List.mem_flatMap.1 hy
    exact two z (any_false h z hz) y hy
  | fn f cs =>
    obtain ⟨z, hz, hy⟩ := List.mem_flatMap.1 hy
    exact two z (any_false h z hz) y hy
  | ag cs => exact two (.ag cs) h y hy
  | _ =>
    simp only [leafs, leafs1, List.mem_singleton] at hy
    subst hy
    exact h
theorem look_mem {α : Type} {k : Nat} {d : α} : ∀ {l : List (Nat × α)}, look k d l = d ∨ (k, look k d l) ∈ l
  | [] => .inl rfl
  | (a, x) :: r => by
    rw [look_cons]
    split
    · rename_i e; subst e; exact .inr List.mem_cons_self
    · rcases look_mem (k := k) (d := d) (l := r) with h | h
      · exact .inl h
      · exact .inr (List.mem_cons_of_mem _ h)

/-- What may come under the name d. -/
inductive Chg (h : THp) (d : Nat) : TB → Prop
  | newV {cs : List TV} : look d .gone h = .gone → Chg h d (.var cs)
  | newR {n : Nat} {t : Ty} {xs : List t.den} : look d .gone h = .gone → Chg h d (.row n t xs)
  | var {cs cs' : List TV} : look d .gone h = .var cs → Chg h d (.var cs')
  | row {v : Nat} {t : Ty} {xs xs' : List t.den} : look d .gone h = .row v t xs → xs'.length = xs.length → Chg h d (.row v t xs')

theorem push1 {h : THp} {d : Nat} {b : TB} (hc : Chg h d b) {y : TV} (hn : look d .gone h = .gone → cl1 d b y = false) : LE h ((d, b) :: h) y := by
  have other : ∀ r, d ≠ r → look r .gone ((d, b) :: h) = look r .gone h := fun r hr => by rw [look_cons, if_neg hr]
  have here : look d .gone ((d, b) :: h) = b := by rw [look_cons, if_pos rfl]
  cases y with
  | lw r v =>
    by_cases hr : d = r
    · subst hr
      cases hc with
      | newV h0 => exact ⟨by simp only [live1, here, h0], by simp only [A1, lv1, here, h0, av1]⟩
      | newR h0 =>
        have := hn h0
        simp only [cl1, Nat.beq_refl, Bool.true_and] at this
        exact ⟨by simp only [live1, here, h0, this], by simp only [A1, lv1, here, h0, this, av1]⟩
      | var h0 => exact ⟨by simp only [live1, here, h0], by simp only [A1, lv1, here, h0, av1]⟩
      | @row v' t xs xs' h0 h1 =>
        refine ⟨by simp only [live1, here, h0], ?_⟩
        simp only [A1, lv1, here, h0]
        cases hb : v.beq v' with
        | true => simp only [av1, here, h0, h1]
        | false => rfl
    · exact ⟨by simp only [live1, other r hr], by
        simp only [A1, lv1, other r hr]
        repeat' split
        all_goals simp only [av1, other r hr]⟩
  | ls r v off len =>
    by_cases hr : d = r
    · subst hr
      cases hc with
      | newV h0 => exact ⟨by simp only [live1, here, h0], by simp only [A1, lv1, here, h0, av1]⟩
      | newR h0 =>
        have := hn h0
        simp only [cl1, Nat.beq_refl, Bool.true_and] at this
        exact ⟨by simp only [live1, here, h0, this], by simp only [A1, lv1, here, h0, this, av1]⟩
      | var h0 => exact ⟨by simp only [live1, here, h0], by simp only [A1, lv1, here, h0, av1]⟩
      | @row v' t xs xs' h0 h1 =>
        refine ⟨by simp only [live1, here, h0], ?_⟩
        simp only [A1, lv1, here, h0]
        cases hb : v.beq v' with
        | true => simp only [av1, here, h0]
        | false => rfl
    · exact ⟨by simp only [live1, other r hr], by
        simp only [A1, lv1, other r hr]
        repeat' split
        all_goals simp only [av1, other r hr]⟩
  | pe r v i off =>
    by_cases hr : d = r
    · subst hr
      cases hc with
      | newV h0 => exact ⟨by simp only [live1, here, h0], by simp only [A1, lv1, here, h0, av1]⟩
      | newR h0 =>
        have := hn h0
        simp only [cl1, Nat.beq_refl, Bool.true_and] at this
        exact ⟨by simp only [live1, here, h0, this], by simp only [A1, lv1, here, h0, this, av1]⟩
      | var h0 => exact ⟨by simp only [live1, here, h0], by simp only [A1, lv1, here, h0, av1]⟩
      | @row v' t xs xs' h0 h1 =>
        refine ⟨by simp only [live1, here, h0], ?_⟩
        simp only [A1, lv1, here, h0]
        cases hb : v.beq v' with
        | true => simp only [av1, here, h0]
        | false => rfl
    · exact ⟨by simp only [live1, other r hr], by
        simp only [A1, lv1, other r hr]
        repeat' split
        all_goals simp only [av1, other r hr]⟩
  | pv r off =>
    by_cases hr : d = r
    · subst hr
      cases hc with
      | newV h0 =>
        have := hn h0
        simp [cl1, Nat.beq_refl] at this
      | newR h0 => exact ⟨by simp only [live1, here, h0], by simp only [A1, lv1, here, h0, av1]⟩
      | var h0 => exact ⟨by simp only [live1, here, h0], by simp only [A1, lv1, here, h0, av1]⟩
      | row h0 h1 => exact ⟨by simp only [live1, here, h0], by simp only [A1, lv1, here, h0, av1]⟩
    · exact ⟨by simp only [live1, other r hr], by
        simp only [A1, lv1, other r hr]
        repeat' split
        all_goals simp only [av1]⟩
  | ns t x => cases x <;> exact ⟨rfl, rfl⟩
  | _ => exact ⟨rfl, rfl⟩

/-- One thing more in the heap, or another one under a name: nothing else changes. -/
theorem toA_push {s : TSt} {d : Nat} {b : TB} (hc : Chg s.hp d b) (hf : look d .gone s.hp = .gone → freeB d b s = true) : (s.push [(d, b)]).toA = s.toA.setH d (blk ((d, b) :: s.hp) b) := by
  have hcl : ∀ x, (x = TV.bot ∨ ∃ k, (k, x) ∈ s.fr) → ∀ y ∈ leafs x, LE s.hp ((d, b) :: s.hp) y := by
    intro x hx y hy
    refine push1 hc fun hg => ?_
    rcases hx with rfl | ⟨k, hk⟩
    · simp only [leafs, leafs1, List.mem_singleton] at hy; subst hy; rfl
    · have := (Bool.and_eq_true_iff.1 (hf hg)).1
      have := List.all_eq_true.1 this _ hk
      exact cl_leafs (by simpa using this) y hy
  have hfr : (s.push [(d, b)]).toA.fr = s.toA.fr := by
    funext k
    simp only [toA_fr, TSt.push, List.cons_append, List.nil_append]
    exact LE.all (hcl _ (look_mem.imp id fun h => ⟨k, h⟩))
  have hhp : (s.push [(d, b)]).toA.hp = upd s.toA.hp d (blk ((d, b) :: s.hp) b) := by
    funext r
    simp only [toA_hp, TSt.push, List.cons_append, List.nil_append, upd, look_cons]
    by_cases hr : d = r
    · subst hr; simp
    · rw [if_neg hr, if_neg (Ne.symm hr)]
      cases hb : look r .gone s.hp with
      | var cs =>
        simp only [blk, Option.some.injEq, Blk.var.injEq]
        refine List.map_congr_left fun y hy => ?_
        have hle : LE s.hp ((d, b) :: s.hp) y := push1 hc fun hg => by
          have h2 := (Bool.and_eq_true_iff.1 (hf hg)).2
          rcases look_mem (k := r) (d := TB.gone) (l := s.hp) with h | h
          · rw [h] at hb; cases hb
          · rw [hb] at h
            have := List.all_eq_true.1 h2 _ h
            simp only at this
            simpa using List.all_eq_true.1 this y hy
        exact hle.av
      | _ => rfl
  show (⟨(s.push [(d, b)]).toA.fr, (s.push [(d, b)]).toA.hp⟩ : ASt) = ⟨s.toA.fr, upd s.toA.hp d (blk ((d, b) :: s.hp) b)⟩
  rw [hfr, hhp]
theorem toA_put (s : TSt) (d : Option Nat) (x : TV) : (s.putO d x).toA = s.toA.putO d (Av s.hp x) := by
  cases d with
  | none => rfl
  | some d =>
    simp only [TSt.putO, TSt.put, ASt.putO, ASt.put, TSt.toA]
    congr 1
    funext k
    simp only [look_cons, upd]
    by_cases hk : d = k
    · subst hk; simp [Av]
    · rw [if_neg hk, if_neg (Ne.symm hk)]
theorem toA_push0 (s : TSt) : (s.push []).toA = s.toA := rfl

/-! ### a row that is appended to -/

theorem scr1 {h : THp} {r v n : Nat} {t t' : Ty} {xs : List t.den} {xs' : List t'.den} (h0 : look r .gone h = .row v t xs) {y : TV} (hn : cl1 r (.row n .int []) y = false) :
    live1 ((r, .row n t' xs') :: h) y = (live1 h y && !((A1 h y).refs.contains r)) ∧ (live1 ((r, .row n t' xs') :: h) y = true → A1 ((r, .row n t' xs') :: h) y = A1 h y) := by
  have other : ∀ k, r ≠ k → look k .gone ((r, TB.row n t' xs') :: h) = look k .gone h := fun k hk => by rw [look_cons, if_neg hk]
  have here : look r .gone ((r, TB.row n t' xs') :: h) = .row n t' xs' := by rw [look_cons, if_pos rfl]
  have fin : ∀ (b : Bool) (a : AV), (b = true → r ∉ a.refs) → b = (b && !(a.refs.contains r)) := by
    intro b a ha
    cases b with
    | false => rfl
    | true => simp [List.contains_eq_mem, ha rfl]
  cases y with
  | lw k w =>
    by_cases hk : r = k
    · subst hk
      simp only [cl1, Nat.beq_refl, Bool.true_and] at hn
      refine ⟨?_, fun hl => ?_⟩
      · simp only [live1, here, hn, h0, A1, lv1]
        cases hb : w.beq v with
        | false => rfl
        | true => simp [av1, h0, AV.refs]
      · simp only [live1, here, hn] at hl; cases hl
    · refine ⟨?_, fun _ => ?_⟩
      · rw [show live1 ((r, TB.row n t' xs') :: h) (.lw k w) = live1 h (.lw k w) by simp only [live1, other k hk]]
        refine fin _ _ fun _ hm => ?_
        have := (by
          simp only [A1, lv1] at hm
          repeat' split at hm
          all_goals (first | (simp only [av1] at hm; repeat' split at hm) | skip)
          all_goals (simp [AV.refs] at hm)
          all_goals exact hm : r = k)
        exact hk this
      · simp only [A1, lv1, other k hk]
        repeat' split
        all_goals simp only [av1, other k hk]
  | ls k w off len =>
    by_cases hk : r = k
    · subst hk
      simp only [cl1, Nat.beq_refl, Bool.true_and] at hn
      refine ⟨?_, fun hl => ?_⟩
      · simp only [live1, here, hn, h0, A1, lv1]
        cases hb : w.beq v with
        | false => rfl
        | true => simp [av1, h0, AV.refs]
      · simp only [live1, here, hn] at hl; cases hl
    · refine ⟨?_, fun _ => ?_⟩
      · rw [show live1 ((r, TB.row n t' xs') :: h) (.ls k w off len) = live1 h (.ls k w off len) by simp only [live1, other k hk]]
        refine fin _ _ fun _ hm => ?_
        have := (by
          simp only [A1, lv1] at hm
          repeat' split at hm
          all_goals (first | (simp only [av1] at hm; repeat' split at hm) | skip)
          all_goals (simp [AV.refs] at hm)
          all_goals exact hm : r = k)
        exact hk this
      · simp only [A1, lv1, other k hk]
        repeat' split
        all_goals simp only [av1, other k hk]
  | pe k w i off =>
    by_cases hk : r = k
    · subst hk
      simp only [cl1, Nat.beq_refl, Bool.true_and] at hn
      refine ⟨?_, fun hl => ?_⟩
      · simp only [live1, here, hn, h0, A1, lv1]
        cases hb : w.beq v with
        | false => rfl
        | true => simp [av1, h0, AV.refs]
      · simp only [live1, here, hn] at hl; cases hl
    · refine ⟨?_, fun _ => ?_⟩
      · rw [show live1 ((r, TB.row n t' xs') :: h) (.pe k w i off) = live1 h (.pe k w i off) by simp only [live1, other k hk]]
        refine fin _ _ fun _ hm => ?_
        have := (by
          simp only [A1, lv1] at hm
          repeat' split at hm
          all_goals (first | (simp only [av1] at hm; repeat' split at hm) | skip)
          all_goals (simp [AV.refs] at hm)
          all_goals exact hm : r = k)
        exact hk this
      · simp only [A1, lv1, other k hk]
        repeat' split
        all_goals simp only [av1, other k hk]
  | pv k off =>
    by_cases hk : r = k
    · subst hk
      exact ⟨by simp only [live1, here, h0, Bool.false_and], fun hl => by simp only [live1, here] at hl; cases hl⟩
    · refine ⟨?_, fun _ => ?_⟩
      · rw [show live1 ((r, TB.row n t' xs') :: h) (.pv k off) = live1 h (.pv k off) by simp only [live1, other k hk]]
        refine fin _ _ fun _ hm => ?_
        have := (by
          simp only [A1, lv1] at hm
          repeat' split at hm
          all_goals simp [av1, AV.refs] at hm
          all_goals exact hm : r = k)
        exact hk this
      · simp only [A1, lv1, other k hk]
        repeat' split
        all_goals simp only [av1]
  | e x => exact ⟨by cases x <;> simp [live1, A1, lv1, av1, Err.av, AV.refs, aI], fun _ => rfl⟩
  | ns t x => exact ⟨by cases x <;> simp [live1, A1, lv1, av1, AV.refs, aN], fun _ => by cases x <;> rfl⟩
  | ag => exact ⟨rfl, fun _ => rfl⟩
  | tp => exact ⟨rfl, fun _ => rfl⟩
  | fn => exact ⟨rfl, fun _ => rfl⟩
  | _ => exact ⟨by simp [live1, A1, lv1, av1, AV.refs, aI, aU, aB, aS, aN, ud], fun _ => rfl⟩

theorem refsL_contains (l : List AV) (r : Nat) : (AV.refsL l).contains r = l.any fun x => x.refs.contains r := by
  induction l with
  | nil => rfl
  | cons a l ih => rw [AV.refsL, List.any_cons, ← ih]; simp [List.contains_eq_mem, List.mem_append]
theorem all_and_not {α : Type} {f g g' : α → Bool} : ∀ {l : List α}, (∀ y ∈ l, g y = (f y && !g' y)) → l.all g = (l.all f && !(l.any g'))
  | [], _ => rfl
  | a :: r, h => by
    simp only [List.all_cons, List.any_cons, h a List.mem_cons_self, all_and_not fun y hy => h y (List.mem_cons_of_mem _ hy)]
    cases f a <;> cases g' a <;> cases r.all f <;> cases r.any g' <;> rfl

theorem scr2 {h : THp} {r v n : Nat} {t t' : Ty} {xs : List t.den} {xs' : List t'.den} (h0 : look r .gone h = .row v t xs) {x : TV} (hn : ∀ y ∈ leafs1 x, cl1 r (.row n .int []) y = false) :
    live2 ((r, .row n t' xs') :: h) x = (live2 h x && !((A2 h x).refs.contains r)) ∧ (live2 ((r, .row n t' xs') :: h) x = true → A2 ((r, .row n t' xs') :: h) x = A2 h x) := by
  by_cases hx : leaf x = true
  · have := scr1 (t' := t') (xs' := xs') h0 (hn x (by rw [leafs1_leaf hx]; simp))
    simp only [live2_leaf hx, A2_leaf hx]
    exact this
  · cases x with
    | ag cs =>
      have h1 := fun y (hy : y ∈ cs) => scr1 (t' := t') (xs' := xs') h0 (hn y hy)
      have e : cs.all (live1 ((r, .row n t' xs') :: h)) = (cs.all (live1 h) && !(cs.any fun y => (A1 h y).refs.contains r)) := all_and_not fun y hy => (h1 y hy).1
      refine ⟨?_, fun hl => ?_⟩
      · simp only [live2]
        rw [e, A2_ag]
        cases ha : cs.all (live1 h) with
        | false => rfl
        | true => simp only [if_true, AV.refs, refsL_contains, List.any_map, Bool.true_and]; rfl
      · simp only [live2] at hl
        have hl0 := hl
        rw [e] at hl0
        rw [A2_ag, A2_ag, if_pos hl, if_pos (Bool.and_eq_true_iff.1 hl0).1, List.map_congr_left fun y hy => (h1 y hy).2 (List.all_eq_true.1 hl y hy)]
    | tp => exact ⟨rfl, fun _ => rfl⟩
    | fn => exact ⟨rfl, fun _ => rfl⟩
    | _ => simp [leaf] at hx
theorem scrub_fin {r : Nat} {b b' : Bool} {X X' : AV} (hb : b' = (b && !(X.refs.contains r))) (hx : b' = true → X' = X) : (if b' = true then X' else .bot) = scrub r (if b = true then X else .bot) := by
  cases b with
  | false => rw [hb]; simp [scrub, AV.refs]
  | true =>
    simp only [Bool.true_and] at hb
    cases hc : X.refs.contains r with
    | true => rw [hc] at hb; rw [hb]; simp only [Bool.not_true, Bool.false_eq_true, if_false, if_true, scrub, hc]
    | false => rw [hc] at hb; rw [if_pos (by simpa using hb), hx (by simpa using hb)]; simp only [if_true, scrub, hc, Bool.false_eq_true, if_false]

theorem scr3 {h : THp} {r v n : Nat} {t t' : Ty} {xs : List t.den} {xs' : List t'.den} (h0 : look r .gone h = .row v t xs) {x : TV} (hn : ∀ y ∈ leafs x, cl1 r (.row n .int []) y = false) :
    Av ((r, .row n t' xs') :: h) x = scrub r (Av h x) := by
  by_cases hx : leaf x = true
  · rw [Av_leaf hx, Av_leaf hx]
    have key := scr1 (t' := t') (xs' := xs') h0 (hn x (by rw [leafs_leaf hx]; simp))
    have := scrub_fin key.1 key.2
    have e1 : ∀ h : THp, (if live1 h x = true then A1 h x else .bot) = A1 h x := fun h => by
      cases hb : live1 h x with
      | true => rfl
      | false => rw [A1_dead hb]; rfl
    rwa [e1, e1] at this
  · have top : ∀ (cs : List TV), (∀ y ∈ cs, ∀ z ∈ leafs1 y, cl1 r (.row n .int []) z = false) → cs.all (live2 ((r, .row n t' xs') :: h)) = (cs.all (live2 h) && !(AV.refsL (cs.map (A2 h))).contains r) ∧
        (cs.all (live2 ((r, .row n t' xs') :: h)) = true → cs.map (A2 ((r, .row n t' xs') :: h)) = cs.map (A2 h)) := by
      intro cs hc
      have h1 := fun y (hy : y ∈ cs) => scr2 (t' := t') (xs' := xs') h0 (hc y hy)
      refine ⟨?_, fun hl => List.map_congr_left fun y hy => (h1 y hy).2 (List.all_eq_true.1 hl y hy)⟩
      simp only [refsL_contains, List.any_map]
      exact all_and_not fun y hy => (h1 y hy).1
    cases x with
    | ag cs =>
      have h1 := fun y (hy : y ∈ cs) => scr1 (t' := t') (xs' := xs') h0 (hn y (by simpa [leafs, leafs1] using hy))
      have e : cs.all (live1 ((r, .row n t' xs') :: h)) = (cs.all (live1 h) && !((AV.agg (cs.map (A1 h))).refs.contains r)) := by
        simp only [AV.refs, refsL_contains, List.any_map]
        exact all_and_not fun y hy => (h1 y hy).1
      rw [Av_ag, Av_ag]
      exact scrub_fin e fun hl => by rw [List.map_congr_left fun y hy => (h1 y hy).2 (List.all_eq_true.1 hl y hy)]
    | tp cs =>
      have := top cs fun y hy z hz => hn z (List.mem_flatMap.2 ⟨y, hy, hz⟩)
      rw [Av_tp, Av_tp]
      exact scrub_fin (by rw [AV.refs]; exact this.1) fun hl => by rw [this.2 hl]
    | fn f cs =>
      have := top cs fun y hy z hz => hn z (List.mem_flatMap.2 ⟨y, hy, hz⟩)
      rw [Av_fn, Av_fn]
      exact scrub_fin (by rw [AV.refs]; exact this.1) fun hl => by rw [this.2 hl]
    | _ => simp [leaf] at hx

theorem toA_app {s : TSt} {r v n : Nat} {t t' : Ty} {xs : List t.den} {xs' : List t'.den} (h0 : look r .gone s.hp = .row v t xs) (hf : freeB r (.row n .int []) s = true) :
    (s.push [(r, .row n t' xs')]).toA = (s.toA.scrub r).setH r (some (.arr t'.z (xs'.map t'.cells))) := by
  have hfr : (s.push [(r, .row n t' xs')]).toA.fr = (s.toA.scrub r).fr := by
    funext k
    simp only [toA_fr, TSt.push, List.cons_append, List.nil_append, ASt.scrub]
    refine scr3 h0 ?_
    rcases look_mem (k := k) (d := TV.bot) (l := s.fr) with h | h
    · rw [h]; intro y hy; simp only [leafs, leafs1, List.mem_singleton] at hy; subst hy; rfl
    · have := List.all_eq_true.1 (Bool.and_eq_true_iff.1 hf).1 _ h
      exact cl_leafs (by simpa using this)
  have hhp : (s.push [(r, .row n t' xs')]).toA.hp = upd (s.toA.scrub r).hp r (some (.arr t'.z (xs'.map t'.cells))) := by
    funext k
    simp only [toA_hp, TSt.push, List.cons_append, List.nil_append, upd, look_cons, ASt.scrub]
    by_cases hr : r = k
    · subst hr; simp [blk]
    · rw [if_neg hr, if_neg (Ne.symm hr)]
      cases hb : look k .gone s.hp with
      | var cs =>
        simp only [blk, Option.map_some, scrubB, Option.some.injEq, Blk.var.injEq, List.map_map]
        refine List.map_congr_left fun y hy => ?_
        simp only [Function.comp]
        have hcl : cl1 r (.row n .int []) y = false := by
          rcases look_mem (k := k) (d := TB.gone) (l := s.hp) with h | h
          · rw [h] at hb; cases hb
          · rw [hb] at h
            have := List.all_eq_true.1 (Bool.and_eq_true_iff.1 hf).2 _ h
            simp only at this
            simpa using List.all_eq_true.1 this y hy
        by_cases hy : leaf y = true
        · have := scr3 (t' := t') (xs' := xs') h0 (x := y) (by rw [leafs_leaf hy]; intro z hz; rw [List.mem_singleton] at hz; subst hz; exact hcl)
          rwa [Av_leaf hy, Av_leaf hy] at this
        · cases y <;> first | rfl | simp [leaf] at hy
      | _ => rfl
  show (⟨(s.push [(r, .row n t' xs')]).toA.fr, (s.push [(r, .row n t' xs')]).toA.hp⟩ : ASt) = ⟨(s.toA.scrub r).fr, upd (s.toA.scrub r).hp r (some (.arr t'.z (xs'.map t'.cells)))⟩
  rw [hfr, hhp]
end Ab
