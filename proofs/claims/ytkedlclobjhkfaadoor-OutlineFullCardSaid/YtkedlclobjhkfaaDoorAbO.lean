/-
  Calls by contract are calls of the real machine; all operations together.
-/
import Derived.Test.YtkedlclobjhkfaaDoorAbN
namespace Ab
open Go Go.RowKit
set_option linter.unusedVariables false
set_option linter.unusedSimpArgs false
set_option linter.unnecessarySimpa false

section
variable {S : Seat} {A0 O : Nat → Prop} {w0 : World} {A : Nat → Prop} {σ : Nat → Option Nat} {w : World} {st st' : ASt} {tm : Array Value} {df : List Deferred} {o : Oper} {v : AV} {d : Nat}

/-- A row that is there already comes under a new name. -/
theorem SRel.addSite (h : SRel S A0 O w0 A σ w st tm) {d : Nat} (hd : st.hp d = none) {b? : Option Nat} {blk : Blk} (hr : blk.refs = []) (hb : BlkRel S A (upd σ d b?) w d blk)
    (hq : ∀ b, b? = some b → b < w.heap.size ∧ ¬ A b ∧ w0.heap.size ≤ b ∧ ∀ s, σ s ≠ some b) : SRel S A0 O w0 A (upd σ d b?) w (st.setH d (some blk)) tm := by
  have hks : ∀ s, st.hp s ≠ none → KeepS σ (upd σ d b?) w w s := fun s hs => ⟨upd_ne _ _ _ (fun e => hs (e ▸ hd)), fun b cs el _ hb => ⟨cs, hb, rfl⟩⟩
  refine ⟨fun k => (h.fr k).mono (fun _ h => h) (fun _ _ => rfl) fun s hs => hks s (h.dang k s hs), fun s b hs => ?_, fun k s hs => ?_, fun s cs hs s' hs' => ?_, fun s b hs => ?_, fun s s' b h1 h2 => ?_, h.Alt, h.Asub, h.keep, h.Olt⟩
  · simp only [ASt.setH, upd] at hs
    split at hs
    · rename_i e; subst e; cases hs; exact hb
    · rename_i hne
      refine (h.hp s b hs).mono (fun _ h => h) (fun _ _ => rfl) (upd_ne _ _ _ hne) (fun _ _ => rfl) fun s' hs' => hks s' ?_
      cases b with
      | var cs => exact h.dangV s cs hs s' (by rw [Blk.refs] at hs'; exact hs')
      | arr z es => simp [Blk.refs] at hs'
  · simp only [ASt.setH, upd]
    split
    · simp
    · exact h.dang k s hs
  · simp only [ASt.setH, upd] at hs ⊢
    split
    · simp
    · split at hs
      · cases hs; rw [Blk.refs] at hr; rw [hr] at hs'; cases hs'
      · exact h.dangV s cs hs s' hs'
  · simp only [upd] at hs
    split at hs
    · rename_i e; subst e
      obtain ⟨k1, k2, k3, k4⟩ := hq b hs
      exact ⟨by simp [ASt.setH, upd], k1, k2, .inl k3⟩
    · rename_i hne
      obtain ⟨k1, k2⟩ := h.dom s b hs
      exact ⟨by simp [ASt.setH, upd, hne]; exact k1, k2⟩
  · simp only [upd] at h1 h2
    split at h1
    · rename_i e1
      split at h2
      · rename_i e2; exact e1.trans e2.symm
      · exact absurd h2 ((hq b h1).2.2.2 s')
    · split at h2
      · exact absurd h1 ((hq b h2).2.2.2 s)
      · exact h.inj s s' b h1 h2

theorem ownRel_lsl {b? : Option Nat} {z : Nat} {es : List (List AV)} {rv : Value} (h : OwnRel S A w b? z es rv) {σ' : Nat → Option Nat} {d : Nat} (hσ : σ' d = b?) :
    VR S A σ' w (.lsl d z 0 es.length) rv ∧ BlkRel S A σ' w d (.arr z es) := by
  obtain ⟨h0, ⟨h1, rfl, rfl⟩ | ⟨b, cap, vs, el, h1, rfl, h2, h3, h4, h5, h6, h7⟩⟩ := h
  · exact ⟨.lslnil (hσ.trans h1), h0, .inl ⟨hσ.trans h1, rfl⟩⟩
  · refine ⟨.lsl (hσ.trans h1) h2 (fun _ => by simp) h4 (by simpa using h5) h3, h0, .inr ⟨b, vs, el, hσ.trans h1, h4, Nat.le_trans (Nat.mul_le_mul_right _ h2) h5, h6, h7⟩⟩

/-- The parts of an answer come into the caller. -/
theorem impL_sound {β : Nat → Option Nat} {us : Array Value} {d : Nat} (hβ : ∀ i b, β i = some b → b < w.heap.size ∧ ¬ A b ∧ w0.heap.size ≤ b) (hinj : ∀ i j b, β i = some b → β j = some b → i = j) :
    ∀ (rs : List AV) (i : Nat) {σ : Nat → Option Nat} {st : ASt} {ys : List AV} {st' : ASt}, SRel S A0 O w0 A σ w st tm → (∀ (j : Nat) (x : AV), rs[j]? = some x → ArgR S A w (β (i + j)) x (us.getD (i + j) undef)) →
      (∀ s b k, σ s = some b → i ≤ k → β k ≠ some b) → impL d i rs st = some (ys, st') →
      ∃ σ', SRel S A0 O w0 A σ' w st' tm ∧ ys.length = rs.length ∧ (∀ (j : Nat) (y : AV), ys[j]? = some y → Got S A σ' w st' y (us.getD (i + j) undef)) ∧ ∀ s, st.hp s ≠ none → σ' s = σ s ∧ st'.hp s ≠ none
  | [], i, σ, st, ys, st', h, _, _, hi => by
    simp only [impL, Option.some.injEq, Prod.mk.injEq] at hi
    obtain ⟨rfl, rfl⟩ := hi
    exact ⟨σ, h, rfl, by simp, fun s hs => ⟨rfl, hs⟩⟩
  | x :: r, i, σ, st, ys, st', h, ha, hd, hi => by
    have ha' : ∀ (j : Nat) (x : AV), r[j]? = some x → ArgR S A w (β (i + 1 + j)) x (us.getD (i + 1 + j) undef) := fun j y hj => by
      have := ha (j + 1) y (by simpa using hj)
      rwa [show i + (j + 1) = i + 1 + j by omega] at this
    have h0 := ha 0 x rfl
    simp only [Nat.add_zero] at h0
    by_cases hx : ∃ z es, x = .own z es
    · obtain ⟨z, es, rfl⟩ := hx
      simp only [impL] at hi
      split at hi
      · rename_i ys' st'' hn hrec
        simp only [Option.some.injEq, Prod.mk.injEq] at hi
        obtain ⟨rfl, rfl⟩ := hi
        have h0' : OwnRel S A w (β i) z es (us.getD i undef) := h0
        obtain ⟨v1, v2⟩ := ownRel_lsl h0' (σ' := upd σ (d + 10000 * (i + 1)) (β i)) (upd_same _ _ _)
        have h1 := h.addSite hn (b? := β i) (blk := .arr z es) rfl v2 fun b hb => ⟨(hβ i b hb).1, (hβ i b hb).2.1, (hβ i b hb).2.2, fun s hs => hd s b i hs (Nat.le_refl _) hb⟩
        obtain ⟨σ', k1, k2, k3, k4⟩ := impL_sound hβ hinj r (i + 1) h1 ha' (fun s b k hs hk hb => by
          simp only [upd] at hs
          split at hs
          · have := hinj i k b hs hb; omega
          · exact hd s b k hs (by omega) hb) hrec
        obtain ⟨q1, q2⟩ := k4 (d + 10000 * (i + 1)) (by simp [ASt.setH, upd])
        refine ⟨σ', k1, by simp [k2], fun j y hj => ?_, fun s hs => ?_⟩
        · cases j with
          | zero =>
            simp at hj
            subst hj
            refine ⟨v1.mono (fun _ h => h) (fun _ _ => rfl) fun s hs => ?_, fun s hs => ?_⟩
            · rw [AV.refs, List.mem_singleton] at hs; subst hs
              exact ⟨q1, fun b cs el _ hb => ⟨cs, hb, rfl⟩⟩
            · rw [AV.refs, List.mem_singleton] at hs; subst hs
              exact q2
          | succ j =>
            simp at hj
            have := k3 j y (by simpa using hj)
            rwa [show i + 1 + j = i + (j + 1) by omega] at this
        · have hne : s ≠ d + 10000 * (i + 1) := fun e => hs (e ▸ hn)
          obtain ⟨e1, e2⟩ := k4 s (by simp [ASt.setH, upd, hne]; exact hs)
          exact ⟨e1.trans (upd_ne _ _ _ hne), e2⟩
      · cases hi
    · have h0' : β i = none ∧ VR0 S A w x (us.getD i undef) := by
        cases x with
        | own z es => exact absurd ⟨z, es, rfl⟩ hx
        | _ => exact h0
      have hi' : ∃ ys' , impL d (i + 1) r st = some (ys', st') ∧ ys = x :: ys' := by
        cases x with
        | own z es => exact absurd ⟨z, es, rfl⟩ hx
        | _ =>
          simp only [impL] at hi
          split at hi
          · rename_i ys' st'' hrec
            simp only [Option.some.injEq, Prod.mk.injEq] at hi
            obtain ⟨rfl, rfl⟩ := hi
            exact ⟨_, hrec, rfl⟩
          · cases hi
      obtain ⟨ys', hrec, rfl⟩ := hi'
      obtain ⟨σ', k1, k2, k3, k4⟩ := impL_sound hβ hinj r (i + 1) h ha' (fun s b k hs hk => hd s b k hs (by omega)) hrec
      refine ⟨σ', k1, by simp [k2], fun j y hj => ?_, k4⟩
      cases j with
      | zero =>
        simp at hj
        subst hj
        exact ⟨.of0 h0'.2, fun s hs => (no_refs0 h0'.2 s hs).elim⟩
      | succ j =>
        simp at hj
        have := k3 j y (by simpa using hj)
        rwa [show i + 1 + j = i + (j + 1) by omega] at this

theorem imp_sound (h : SRel S A0 O w0 A σ w st tm) {w' : World} (hk : KeepO (fun _ => False) w w') {r : AV} {rv : Value} (hr : RetR S A w w' r rv) {d : Nat} (hi : imp d r st = some (v, st')) :
    ∃ A' σ', SRel S A0 O w0 A' σ' w' st' tm ∧ Got S A' σ' w' st' v rv := by
  obtain ⟨β, hβ, hinj, hr⟩ := hr
  have hg : SRel S A0 O w0 (After A β w w') σ w' st tm := h.grow hk
    (fun b hb => ⟨.inl hb, Nat.lt_of_lt_of_le (h.Alt b hb) hk.size, fun i e => by have := (hβ i b e).1; have := h.Alt b hb; omega⟩) (fun b hb => hb.1) (fun b hb => hb.2.1)
  have hβ' : ∀ i b, β i = some b → b < w'.heap.size ∧ ¬ After A β w w' b ∧ w0.heap.size ≤ b := fun i b hb => ⟨(hβ i b hb).2, fun hh => hh.2.2 i hb, Nat.le_trans h.keep.size (hβ i b hb).1⟩
  have hd0 : ∀ s b k, σ s = some b → β k ≠ some b := fun s b k hs hb => by have := (h.dom s b hs).2.1; have := (hβ k b hb).1; omega
  have plain : (∃ rv', rv' = rv ∧ VR0 S (After A β w w') w' r rv') → imp d r st = some (r, st) → ∃ A' σ', SRel S A0 O w0 A' σ' w' st' tm ∧ Got S A' σ' w' st' v rv := by
    rintro ⟨_, rfl, hv⟩ he
    rw [he] at hi
    simp only [Option.some.injEq, Prod.mk.injEq] at hi
    obtain ⟨rfl, rfl⟩ := hi
    exact ⟨_, _, hg, .of0 hv, fun s hs => (no_refs0 hv s hs).elim⟩
  cases r with
  | own z es =>
    simp only [imp] at hi
    split at hi
    · rename_i hn
      simp only [Option.some.injEq, Prod.mk.injEq] at hi
      obtain ⟨rfl, rfl⟩ := hi
      have hr' : OwnRel S (After A β w w') w' (β 0) z es rv := hr
      obtain ⟨v1, v2⟩ := ownRel_lsl hr' (σ' := upd σ d (β 0)) (upd_same _ _ _)
      exact ⟨_, _, hg.addSite hn (b? := β 0) (blk := .arr z es) rfl v2 fun b hb => ⟨(hβ' 0 b hb).1, (hβ' 0 b hb).2.1, (hβ' 0 b hb).2.2, fun s hs => hd0 s b 0 hs hb⟩, v1, fun s hs => by
        rw [AV.refs, List.mem_singleton] at hs; subst hs; simp [ASt.setH, upd]⟩
    · cases hi
  | tup rs =>
    obtain ⟨us, rfl, hl, ha⟩ := hr
    simp only [imp] at hi
    split at hi
    · rename_i ys st'' hrec
      simp only [Option.some.injEq, Prod.mk.injEq] at hi
      obtain ⟨rfl, rfl⟩ := hi
      obtain ⟨σ', k1, k2, k3, k4⟩ := impL_sound (us := us) hβ' hinj rs 0 hg (by simpa using ha) (fun s b k hs _ => hd0 s b k hs) hrec
      refine ⟨_, σ', k1, .tup (by omega) fun i x hx => by simpa using (k3 i x hx).rel, fun s hs => ?_⟩
      rw [AV.refs, mem_refsL] at hs
      obtain ⟨x, hx, hs⟩ := hs
      obtain ⟨i, hi⟩ := List.mem_iff_getElem?.1 hx
      exact (k3 i x hi).dang s hs
    · cases hi
  | _ => exact plain ⟨_, rfl, hr.2⟩ rfl

theorem passArgs_nil {hp : Nat → Option Blk} : ∀ (i : Nat) (args : List AV), passArgs hp [] i args = optAll (snap hp) args
  | _, [] => rfl
  | i, x :: r => by
    have := passArgs_nil (hp := hp) (i + 1) r
    simp only [passArgs, List.contains_nil, Bool.false_eq_true, if_false, List.isEmpty_nil, if_true, optAll, this]
    cases snap hp x <;> cases optAll (snap hp) r <;> rfl
theorem mutSites_nil : ∀ (i : Nat) (args : List AV), mutSites [] i args = []
  | _, [] => rfl
  | i, x :: r => by simp [mutSites, mutSites_nil (i + 1) r]

theorem callR_sound (h : SRel S A0 O w0 A σ w st tm) {args : List AV} {vs : Array Value} (hl : vs.size = args.length) (hg : ∀ (i : Nat) (x : AV), args[i]? = some x → Got S A σ w st x (vs.getD i undef))
    {g f : Nat} (hf : assoc g S.fns = some f) {frz : Bool} (hc : CallR (realRets S) frz [] f args d st v st') :
    Calls S.P g vs w fun e w' => ∃ rv A' σ', e = .returned rv ∧ SRel S A0 O w0 A' σ' w' st' tm ∧ Got S A' σ' w' st' v rv := by
  obtain ⟨args', r, outs, st1, st2, p1, p2, hret, p4, p5, p6⟩ := hc
  obtain ⟨rfl, hreal⟩ := hret g hf
  rw [mutSites_nil] at p5
  simp only [setOuts, Option.some.injEq] at p5
  subst p5
  rw [passArgs_nil] at p1
  obtain ⟨a1, a2⟩ := optAll_get p1
  simp only [List.isEmpty_nil, if_true] at p4
  have sub : ∀ {x0 : AV} {j : Nat}, args[j]? = some x0 → ∀ s ∈ x0.refs, s ∈ AV.refsL args := fun hx s hs => mem_refsL.2 ⟨_, List.mem_of_getElem? hx, hs⟩
  -- what is common
  have fin : ∀ (A1 : Nat → Prop) (σ1 : Nat → Option Nat), SRel S A0 O w0 A1 σ1 w st1 tm → (∀ (i : Nat) (x : AV), args'[i]? = some x → VR0 S A1 w x (vs.getD i undef)) →
      Calls S.P g vs w fun e w' => ∃ rv A' σ', e = .returned rv ∧ SRel S A0 O w0 A' σ' w' st' tm ∧ Got S A' σ' w' st' v rv := by
    intro A1 σ1 h1 ha
    refine (hreal A1 w vs (by omega) ⟨h1.Alt, h1.inv⟩ ha).mono fun e w' ⟨rv, he, hk, hr⟩ => ?_
    obtain ⟨A', σ', k1, k2⟩ := imp_sound h1 hk hr p6
    exact ⟨rv, A', σ', he, k1, k2⟩
  unfold settle at p4
  split at p4
  · rename_i hcase
    simp only [Option.some.injEq] at p4
    subst p4
    by_cases href : AV.refsL args = []
    · exact fin A σ h fun i x hi => by
        obtain ⟨x0, hx0, hx1⟩ := a2 i x hi
        have hx0r : x0.refs = [] := List.eq_nil_iff_forall_not_mem.2 fun s hs => by have := sub hx0 s hs; rw [href] at this; cases this
        exact snap_rel h (fun _ h => h) (hg i x0 hx0).rel hx1 fun s b hb hh => by rw [hx0r] at hh; simp at hh
    · have hpl : r.plain = true := hcase.resolve_right href
      rw [imp_plain hpl] at p6
      simp only [Option.some.injEq, Prod.mk.injEq] at p6
      obtain ⟨rfl, rfl⟩ := p6
      refine (hreal (fun b => A b ∨ ∃ s, σ s = some b) w vs (by omega) ⟨fun b hb => hb.elim (h.Alt b) fun ⟨s, hs⟩ => (h.dom s b hs).2.1, h.inv⟩ fun i x hi => ?_).mono fun e w' ⟨rv, he, hk, hr⟩ => ?_
      · obtain ⟨x0, hx0, hx1⟩ := a2 i x hi
        exact snap_rel h (fun _ h => .inl h) (hg i x0 hx0).rel hx1 fun s b hb _ => .inr ⟨s, hb⟩
      · have hgr := h.grow hk (fun _ h => h) (fun _ h => .inl h) (fun b hb => Nat.lt_of_lt_of_le (h.Alt b hb) hk.size)
        have hv : VR0 S A w' r rv := by
          obtain ⟨β, _, _, hr⟩ := hr
          cases r with
          | own z es => simp [AV.plain] at hpl
          | tup rs =>
            obtain ⟨us, rfl, hl, ha⟩ := hr
            refine .tup hl fun i x hx => ?_
            have hx2 := List.all_eq_true.1 hpl x (List.mem_of_getElem? hx)
            have hax := ha i x hx
            cases x with
            | own z es => simp [AV.plain2] at hx2
            | _ => exact plain2_rel hax.2 hx2
          | _ => exact plain_rel hr.2 hpl
        exact ⟨rv, A, σ, he, hgr, .of0 hv, fun s hs => (no_refs0 hv s hs).elim⟩
  · split at p4
    · rename_i hcase hf2
      simp only [Option.some.injEq] at p4
      subst p4
      obtain ⟨A1, σ1, h1, m1, m2⟩ := h.freezeL (AV.refsL args)
      have harr : ∀ s ∈ AV.refsL args, isArr st.hp s = true := fun s hs => List.all_eq_true.1 hf2.2 s hs
      exact fin A1 σ1 h1 fun i x hi => by
        obtain ⟨x0, hx0, hx1⟩ := a2 i x hi
        refine snap_rel h m1 (hg i x0 hx0).rel hx1 fun s b hb hh => ?_
        rcases hh with hh | ⟨s', h1, h2⟩
        · exact m2 s (sub hx0 s hh) b (harr s (sub hx0 s hh)) hb
        · rw [harr s' (sub hx0 s' h1)] at h2; cases h2
    · cases p4
end

/-- The functions of the seat can be called. -/
def Callable (S : Seat) : Prop := ∀ g id, assoc g S.fns = some id → ∃ fn, S.P.funcs[g]? = some fn ∧ fn.body.isSome = true ∧ (fn.name == "runtime.NumGoroutine") = false

theorem run_callFunc {S : Seat} (hS : Callable S) {g id : Nat} (hg : assoc g S.fns = some id) (args : Array Value) (w : World) : (callFunc g args).run S.P w = .ok (.enter g args) w := by
  obtain ⟨fn, h1, h2, h3⟩ := hS g id hg
  cases hb : fn.body with
  | none => rw [hb] at h2; cases h2
  | some c =>
    have h3' : ¬ fn.name = "runtime.NumGoroutine" := by simpa using h3
    simp [callFunc, h1, h3', hb]
end Ab
