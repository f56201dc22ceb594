/-
  Typed values over the abstract machine: functions.
-/
import Derived.Test.YtkedlclobjhkfaaDoorTJ
namespace Ab
open Go Go.RowKit
set_option linter.unusedVariables false
set_option linter.unusedSimpArgs false
set_option linter.unnecessarySimpa false

section
variable {S : Seat} {C : List CSpec}

/-! ### an answer that says less -/

def RW1 (x y : AV) : Prop := x = y ∨ (isOwn x = false ∧ isOwn y = false ∧ Wk (fun _ => False) x y) ∨ (x = aN ∧ ∃ z, y = .own z [])
theorem argR_rw {S : Seat} {A : Nat → Prop} {w : World} {b? : Option Nat} {x y : AV} {v : Value} (h : RW1 x y) (ha : ArgR S A w b? x v) : ArgR S A w b? y v := by
  rcases h with rfl | ⟨h1, h2, h3⟩ | ⟨rfl, z, rfl⟩
  · exact ha
  · have ha' : b? = none ∧ VR0 S A w x v := by
      cases x with
      | own z es => simp [isOwn] at h1
      | _ => exact ha
    have : b? = none ∧ VR0 S A w y v := ⟨ha'.1, ha'.2.wk h3⟩
    cases y with
    | own z es => simp [isOwn] at h2
    | _ => exact this
  · obtain ⟨h1, h2⟩ := ha
    have : v = .slice none 0 0 := VR.v_inv (σ := fun _ => none) (.of0 h2)
    exact ⟨by simp, .inl ⟨h1, rfl, this⟩⟩
def notTup : AV → Bool
  | .tup _ => false
  | _ => true
theorem ret_rw1 {f : Nat} {as : List AV} {x y : AV} {outs : List (List (List AV))} (hx : notTup x = true) (hy : notTup y = true) (h : RW1 x y) (hr : (realRets S).ret f as x outs) : (realRets S).ret f as y outs := by
  intro g hg
  obtain ⟨h1, h2⟩ := hr g hg
  refine ⟨h1, fun A w vs hl hA ha => (h2 A w vs hl hA ha).mono ?_⟩
  rintro e w' ⟨v, he, hk, β, hβ, hinj, hv⟩
  refine ⟨v, he, hk, β, hβ, hinj, ?_⟩
  have hv' : ArgR S (After A β w w') w' (β 0) x v := by
    cases x with
    | tup => simp [notTup] at hx
    | _ => exact hv
  have := argR_rw h hv'
  cases y with
  | tup => simp [notTup] at hy
  | _ => exact this
theorem ret_rwL {f : Nat} {as : List AV} {xs ys : List AV} {outs : List (List (List AV))} (hl : xs.length = ys.length) (h : ∀ (i : Nat) (x y : AV), xs[i]? = some x → ys[i]? = some y → RW1 x y) (hr : (realRets S).ret f as (.tup xs) outs) : (realRets S).ret f as (.tup ys) outs := by
  intro g hg
  obtain ⟨h1, h2⟩ := hr g hg
  refine ⟨h1, fun A w vs hl' hA ha => (h2 A w vs hl' hA ha).mono ?_⟩
  rintro e w' ⟨v, he, hk, β, hβ, hinj, us, hv, hlen, hp⟩
  refine ⟨v, he, hk, β, hβ, hinj, us, hv, by omega, fun i y hy => ?_⟩
  obtain ⟨x, hx⟩ := get_of_len hl hy
  exact argR_rw (h i x y hx hy) (hp i x hx)

/-! ### a function's begin -/

theorem enc_arg {sh : Sh} (ha : sh.arg = true) (x : sh.den) : Av [] (enc sh x) = encA sh x ∧ isOwn (encA sh x) = false := by
  have two : ∀ (sh : Sh) (x : sh.den), sh.ans1 = true → sh.own1 = false → A2 [] (enc sh x) = encA sh x ∧ live2 [] (enc sh x) = true := by
    intro sh x h1 h2
    have g : (∀ t, sh ≠ .own t) ∧ (∀ f l, sh ≠ .fnc f l) ∧ (∀ l, sh ≠ .tp l) ∧ sh ≠ .unit := by
      refine ⟨fun t e => ?_, fun f l e => ?_, fun l e => ?_, fun e => ?_⟩ <;> (subst e; first | (simp [Sh.own1] at h2; done) | (simp [Sh.ans1] at h1; done))
    obtain ⟨e1, e2, _⟩ := enc_sh g.1 g.2.1 g.2.2.1 g.2.2.2 x []
    exact ⟨by rw [A2, e1, e2], by rw [← e1]; exact live_lv2 _ _⟩
  cases sh with
  | own t => simp [Sh.arg] at ha
  | tp l => simp [Sh.arg] at ha
  | unit => simp [Sh.arg] at ha
  | fnc f caps =>
    simp only [Sh.arg] at ha
    refine ⟨?_, rfl⟩
    have all : ∀ (l : List Sh) (x : Sh.denL l), (l.all fun s => s.ans1 && !s.own1) = true → (encL l x).all (live2 []) = true ∧ (encL l x).map (A2 []) = encAL l x := by
      intro l
      induction l with
      | nil => intro x _; exact ⟨rfl, rfl⟩
      | cons sh l ih =>
        intro x h
        simp only [List.all_cons, Bool.and_eq_true, Bool.not_eq_true'] at h
        cases l with
        | nil =>
          obtain ⟨k1, k2⟩ := two sh x h.1.1 h.1.2
          exact ⟨by simp [encL, k2], by simp [encL, encAL, k1]⟩
        | cons sh' l =>
          obtain ⟨k1, k2⟩ := two sh x.1 h.1.1 h.1.2
          obtain ⟨k3, k4⟩ := ih x.2 h.2
          exact ⟨by simp only [encL, List.all_cons, k2, k3, Bool.and_self], by simp only [encL, encAL, List.map_cons, k1, k4]⟩
    obtain ⟨k1, k2⟩ := all caps x ha
    simp only [enc, encA]
    rw [Av_fn, if_pos k1, k2]
  | err => exact ⟨rfl, by cases x <;> rfl⟩
  | ns t => cases x <;> exact ⟨rfl, rfl⟩
  | st t =>
    refine ⟨?_, rfl⟩
    obtain ⟨k1, _⟩ := two (.st t) x rfl rfl
    rw [← k1]
    show Av [] (.ag (tvs t x)) = A2 [] (.ag (tvs t x))
    rw [Av_ag, A2_ag]
  | _ => exact ⟨rfl, rfl⟩

theorem encL_args : ∀ (sig : List Sh) (x : Sh.denL sig), sig.all Sh.arg = true → (encL sig x).map (Av []) = encAL sig x ∧ (∀ y ∈ encAL sig x, isOwn y = false) ∧ (encAL sig x).length = sig.length := by
  intro sig
  induction sig with
  | nil => intro x _; exact ⟨rfl, by simp [encAL], rfl⟩
  | cons sh l ih =>
    intro x h
    simp only [List.all_cons, Bool.and_eq_true] at h
    cases l with
    | nil =>
      obtain ⟨k1, k2⟩ := enc_arg h.1 x
      exact ⟨by simp [encL, encAL, k1], by simp [encAL, k2], rfl⟩
    | cons sh' l =>
      obtain ⟨k1, k2⟩ := enc_arg h.1 x.1
      obtain ⟨k3, k4, k5⟩ := ih x.2 h.2
      refine ⟨by simp only [encL, encAL, List.map_cons, k1, k3], fun y hy => ?_, by simp only [encAL, List.length_cons, k5]⟩
      simp only [encAL] at hy
      rcases List.mem_cons.1 hy with rfl | hy
      · exact k2
      · exact k4 y hy
theorem frT_fr : ∀ (i : Nat) (vs : List TV) (k : Nat), (∀ y ∈ vs.map (Av []), isOwn y = false) → Av [] (look k .bot (frT i vs)) = enterFr i (vs.map (Av [])) k
  | _, [], _, _ => rfl
  | i, v :: vs, k, h => by
    have h0 := h (Av [] v) (by simp)
    have ih := frT_fr (i + 1) vs k fun y hy => h y (by simp at hy ⊢; exact .inr hy)
    simp only [frT, look_cons, List.map_cons, enterFr, upd]
    by_cases hk : i = k
    · subst hk
      simp only [if_true]
      cases hx : Av [] v with
      | own z es => rw [hx] at h0; simp [isOwn] at h0
      | _ => rfl
    · rw [if_neg hk, if_neg (Ne.symm hk)]; exact ih
theorem enter_toA {sig : List Sh} (x : Sh.denL sig) (h : sig.all Sh.arg = true) : enter (encAL sig x) = (enterT sig x).toA := by
  obtain ⟨k1, k2, _⟩ := encL_args sig x h
  have e1 : (enterT sig x).toA.fr = (enter (encAL sig x)).fr := by
    funext k
    show Av [] (look k .bot (frT 0 (encL sig x))) = enterFr 0 (encAL sig x) k
    rw [← k1]; exact frT_fr 0 _ k (by rw [k1]; exact k2)
  have e2 : (enterT sig x).toA.hp = (enter (encAL sig x)).hp := by
    show _ = enterHp 0 (encAL sig x)
    rw [enterHp_none 0 _ k2]; rfl
  show (⟨(enter (encAL sig x)).fr, (enter (encAL sig x)).hp⟩ : ASt) = ⟨(enterT sig x).toA.fr, (enterT sig x).toA.hp⟩
  rw [e1, e2]
theorem fit_ok (l : List AV) (h : ∀ y ∈ l, isOwn y = false) : ∀ i, argsFit [] i l = true := by
  induction l with
  | nil => intro i; rfl
  | cons a l ih =>
    intro i
    simp only [argsFit, h a List.mem_cons_self, List.contains_nil, beq_self_eq_true, Bool.true_and]
    exact ih (fun y hy => h y (List.mem_cons_of_mem _ hy)) _

/-! ### its end -/

theorem resT_ok {s : TSt} {ar : ARes} {v : TV} (h : resT s ar = some v) : resVal s.toA ar = some (av s.hp v) ∧ lv s.hp v = v := by
  cases ar with
  | tmp t =>
    simp only [resT, Option.some.injEq] at h
    subst h
    exact ⟨by simp only [resVal]; exact congrArg some (ev_av s (.t t)), ev_lv s _⟩
  | cell t n =>
    simp only [resT] at h
    split at h
    · rename_i t' y off hx
      obtain ⟨e1, e2⟩ := ev_eq hx
      obtain ⟨t1, t2⟩ := tvs_av t' y s.hp
      obtain ⟨p1, p2⟩ := partT_ok (h := s.hp) (fun y hy => flat_live (t2 y hy).1) h
      rw [t1] at p1
      have e3 : s.toA.fr t = .ep (t'.cells y) off := e1
      exact ⟨by simp only [resVal, e3, cellsAt, p1], p2⟩
    · rename_i r off hx
      obtain ⟨e1, e2⟩ := ev_eq hx
      split at h
      · rename_i cs hl
        obtain ⟨p1, p2⟩ := partT_ok (h := s.hp) (fun y hy => by obtain ⟨z, hz, rfl⟩ := List.mem_map.1 hy; exact lv1_idem _ z) h
        rw [List.map_map] at p1
        have e3 : s.toA.fr t = .pv r off := e1
        refine ⟨?_, p2⟩
        simp only [resVal, e3, cellsAt, toA_hp, hl, blk]
        exact p1
      · cases h
    · rename_i r v' i off hx
      obtain ⟨e1, e2⟩ := ev_eq hx
      split at h
      · rename_i v'' t' xs hl
        split at h
        · rename_i y hy
          obtain ⟨t1, t2⟩ := tvs_av t' y s.hp
          obtain ⟨p1, p2⟩ := partT_ok (h := s.hp) (fun y hy => flat_live (t2 y hy).1) h
          rw [t1] at p1
          have e3 : s.toA.fr t = .pe r t'.z i off := by have := e1; rw [av_pe hl] at this; exact this
          refine ⟨?_, p2⟩
          simp only [resVal, e3, cellsAt, toA_hp, hl, blk, if_true, List.getElem?_map, hy, Option.map_some]
          exact p1
        · cases h
      · cases h
    · cases h

theorem refs_eq {h : THp} {x : TV} (hl : lv h x = x) : (av h x).refs = rf x := by
  have one : ∀ y, lv1 h y = y → (av1 h y).refs = rf1 y := by
    intro y hy
    cases y with
    | e x => cases x <;> simp [av1, Err.av, AV.refs, aI, rf1]
    | ns t x => cases x <;> simp [av1, AV.refs, aN, rf1]
    | lw s v => obtain ⟨t, xs, hq⟩ := sl_row hy; simp [av1, hq, AV.refs, rf1]
    | ls s v off len => obtain ⟨t, xs, hq⟩ := sl_ls hy; simp [av1, hq, AV.refs, rf1]
    | pe s v i off => obtain ⟨t, xs, hq⟩ := sl_pe hy; simp [av1, hq, AV.refs, rf1]
    | pv s off => rfl
    | _ => simp [av1, AV.refs, aI, aU, aB, aS, aN, ud, rf1]
  have lst : ∀ (l : List TV) (f : TV → AV) (g : TV → List Nat), (∀ y ∈ l, (f y).refs = g y) → AV.refsL (l.map f) = l.flatMap g := by
    intro l f g
    induction l with
    | nil => intro _; rfl
    | cons a l ih => intro h; simp only [List.map_cons, AV.refsL, List.flatMap_cons, h a List.mem_cons_self, ih fun y hy => h y (List.mem_cons_of_mem _ hy)]
  have two : ∀ y, lv2 h y = y → (av2 h y).refs = rf2 y := by
    intro y hy
    cases y with
    | ag cs => simp only [av2, AV.refs, rf2]; exact lst _ _ _ fun z hz => one z (lv2_ag hy z hz)
    | _ => exact one _ (by simpa only [lv2] using hy)
  cases x with
  | tp cs => simp only [av, AV.refs, rf]; exact lst _ _ _ fun z hz => two z (lv_tp hl z hz)
  | fn f cs => simp only [av, AV.refs, rf]; exact lst _ _ _ fun z hz => two z (lv_fn hl z hz)
  | ag cs => exact two (.ag cs) hl
  | _ => exact two _ (by simpa only [lv] using hl)
theorem refsL_eq {h : THp} (l : List TV) (hl : ∀ y ∈ l, lv h y = y) : AV.refsL (l.map (av h)) = l.flatMap rf := by
  induction l with
  | nil => rfl
  | cons a l ih => simp only [List.map_cons, AV.refsL, List.flatMap_cons, refs_eq (hl a List.mem_cons_self), ih fun y hy => hl y (List.mem_cons_of_mem _ hy)]

theorem snap2_shape {hp : Nat → Option Blk} {x a : AV} (h : snap2 hp x = some a) (hx : notTup x = true) : isOwn a = false ∧ notTup a = true := by
  have s1 : ∀ {x a : AV}, snap1 hp x = some a → notTup x = true → isOwn a = false ∧ notTup a = true := by
    intro x a h hx
    cases x with
    | tup => simp [notTup] at hx
    | own z es => simp [snap1] at h
    | pe s z i off => simp only [snap1] at h; repeat' split at h
                      all_goals (first | (cases h; exact ⟨rfl, rfl⟩) | cases h)
    | lsl s z off len => simp only [snap1] at h; repeat' split at h
                         all_goals (first | (cases h; exact ⟨rfl, rfl⟩) | cases h)
    | _ => simp only [snap1] at h; repeat' split at h
           all_goals (first | (cases h; exact ⟨rfl, rfl⟩) | cases h)
  cases x with
  | tup => simp [notTup] at hx
  | pv s off => simp only [snap2] at h; repeat' split at h
                all_goals (first | (cases h; exact ⟨rfl, rfl⟩) | cases h)
  | agg cs => simp only [snap2] at h; repeat' split at h
              all_goals (first | (cases h; exact ⟨rfl, rfl⟩) | cases h)
  | _ => simp only [snap2] at h; exact s1 h hx
theorem dec_nil_rf {sh : Sh} {v : TV} {x : sh.den} (ha : sh.ans1 = true) (h : dec [] sh v = some x) : rf v = [] := by
  cases sh with
  | int => obtain rfl := dI_some h; rfl
  | u8 => obtain rfl := dU_some h; rfl
  | bool => obtain rfl := dB_some h; rfl
  | str => obtain rfl := dS_some h; rfl
  | err => obtain rfl := dE_some h; rfl
  | unit => simp [Sh.ans1] at ha
  | sl t =>
    simp only [dec] at h
    obtain ⟨_, _, _, k4, _, k6⟩ := dSl_ok h []
    obtain ⟨s1, s2⟩ := snap_nil k6
    rw [s1] at k4
    cases v <;> first | exact s2 | (simp [leaf] at k4; done)
  | ns t =>
    simp only [dec] at h
    obtain ⟨_, _, k4, _, k6⟩ := dNs_ok h []
    obtain ⟨s1, s2⟩ := snap_nil k6
    rw [s1] at k4
    cases v <;> first | exact s2 | (simp [leaf] at k4; done)
  | st t =>
    simp only [dec] at h
    split at h
    · rename_i cs
      have hu := unTv_ok h []
      simp only [rf, rf2]
      exact List.flatMap_eq_nil_iff.2 fun y hy => (snap_nil (hu.flat _ (List.mem_map.2 ⟨y, hy, rfl⟩)).2.2.2).2
    · cases h
  | bx t =>
    simp only [dec] at h
    split at h
    · rfl
    · simp [look] at h
    · cases h
  | own t => simp [dec] at h
  | fnc => simp [Sh.ans1] at ha
  | tp => simp [Sh.ans1] at ha
theorem expOwn_plain {st : ASt} {x : AV} (h : x.refs = []) : expOwn st x = some x := by
  cases x with
  | lsl s z off n => simp [AV.refs] at h
  | _ => simp only [expOwn, h]; rfl

/-- One part of an answer. -/
theorem exp1_ok {own : Bool} {s : TSt} {sh : Sh} {v : TV} {x : sh.den} (ha : sh.ans1 = true) (hl : lv s.hp v = v) (h : exp1 own s.hp sh v = some x) :
    ∃ a, (if own = true then expOwn s.toA (av s.hp v) else snap2 s.toA.hp (av s.hp v)) = some a ∧ RW1 a (encA sh x) ∧ notTup a = true ∧ notTup (encA sh x) = true := by
  have nt : notTup (encA sh x) = true := by
    cases sh with
    | tp => simp [Sh.ans1] at ha
    | unit => simp [Sh.ans1] at ha
    | err => cases x <;> rfl
    | ns => cases x <;> rfl
    | _ => rfl
  by_cases ho : ∃ t, sh = .own t
  · obtain ⟨t, rfl⟩ := ho
    simp only [exp1] at h
    cases own with
    | false => cases h
    | true =>
      simp only at h
      split at h
      · rename_i r v'
        split at h
        · rename_i v'' t' xs hb hq
          obtain ⟨rfl, rfl⟩ := castT_some h
          rw [Nat.blt_eq] at hb
          refine ⟨.own t'.z (List.map t'.cells x), ?_, .inl rfl, rfl, rfl⟩
          rw [if_pos rfl, av_lw hq]
          simp only [expOwn, toA_hp, hq, blk]
          rw [if_pos ⟨True.intro, by simp, hb⟩]
        · cases h
      · cases h
        exact ⟨aN, rfl, .inr (.inr ⟨rfl, t.z, rfl⟩), rfl, rfl⟩
      · cases h
  · have hno : ∀ t, sh ≠ .own t := fun t e => ho ⟨t, e⟩
    have h' : (match (generalizing := false) own with | true => dec [] sh v | false => dec s.hp sh v) = some x := by
      cases sh with
      | own t => exact absurd rfl (hno t)
      | _ => exact h
    have n2 : isOwn (encA sh x) = false := by
      cases sh with
      | own t => exact absurd rfl (hno t)
      | err => cases x <;> rfl
      | ns => cases x <;> rfl
      | _ => rfl
    -- not a tuple, not a function
    have hv2 : ∀ hp, dec hp sh v = some x → lv2 s.hp v = v := by
      intro hp hd
      cases v with
      | tp vs => cases sh <;> first | (simp [Sh.ans1] at ha; done) | (simp [dec, dI, dU, dB, dS, dE, snapT, dSl, dNs] at hd; done)
      | fn f vs => cases sh <;> first | (simp [Sh.ans1] at ha; done) | (simp [dec, dI, dU, dB, dS, dE, snapT, dSl, dNs] at hd; done)
      | _ => exact hl
    cases own with
    | false =>
      have hv := hv2 _ h'
      obtain ⟨a, k1, k2⟩ := dec2_ok hv h'
      have e : av s.hp v = av2 s.hp v := by cases v <;> first | rfl | simp [lv2, lv1] at hv
      have hnt : notTup (av2 s.hp v) = true := by
        cases v with
        | tp => simp [lv2, lv1] at hv
        | e x => cases x <;> rfl
        | ns t x => cases x <;> rfl
        | lw r v => obtain ⟨t, xs, hq⟩ := sl_row hv; simp [av2, av1, hq, notTup]
        | ls r v off len => obtain ⟨t, xs, hq⟩ := sl_ls hv; simp [av2, av1, hq, notTup]
        | pe r v i off => obtain ⟨t, xs, hq⟩ := sl_pe hv; simp [av2, av1, hq, notTup]
        | _ => rfl
      obtain ⟨s1, s2⟩ := snap2_shape k1 hnt
      exact ⟨a, by rw [if_neg (by simp), e]; exact k1, .inr (.inl ⟨s1, n2, k2⟩), s2, nt⟩
    | true =>
      have hv := hv2 _ h'
      have e : av s.hp v = av2 s.hp v := by cases v <;> first | rfl | simp [lv2, lv1] at hv
      obtain ⟨k1, k2⟩ := decW2 (N := fun _ => False) hv h' s.hp
      have g : (∀ f l, sh ≠ .fnc f l) ∧ (∀ l, sh ≠ .tp l) ∧ sh ≠ .unit := by
        refine ⟨fun f l e => ?_, fun l e => ?_, fun e => ?_⟩ <;> (subst e; simp [Sh.ans1] at ha)
      obtain ⟨_, e2, _⟩ := enc_sh hno g.1 g.2.1 g.2.2 x s.hp
      rw [e2] at k2
      have hr : (av s.hp v).refs = [] := by rw [refs_eq hl]; exact dec_nil_rf ha h'
      have hnt : notTup (av2 s.hp v) = true ∧ isOwn (av2 s.hp v) = false := by
        cases v with
        | tp => simp [lv2, lv1] at hv
        | e x => cases x <;> exact ⟨rfl, rfl⟩
        | ns t x => cases x <;> exact ⟨rfl, rfl⟩
        | lw r v => obtain ⟨t, xs, hq⟩ := sl_row hv; simp [av2, av1, hq, notTup, isOwn]
        | ls r v off len => obtain ⟨t, xs, hq⟩ := sl_ls hv; simp [av2, av1, hq, notTup, isOwn]
        | pe r v i off => obtain ⟨t, xs, hq⟩ := sl_pe hv; simp [av2, av1, hq, notTup, isOwn]
        | _ => exact ⟨rfl, rfl⟩
      exact ⟨av2 s.hp v, by rw [if_pos rfl, expOwn_plain hr, e], .inr (.inl ⟨hnt.2, n2, k2⟩), hnt.1, nt⟩

theorem expL_ok {own : Bool} {s : TSt} : ∀ (l : List Sh) (vs : List TV) (x : Sh.denL l), l.all Sh.ans1 = true → (∀ v ∈ vs, lv s.hp v = v) → expL own s.hp l vs = some x →
    ∃ as, optAll (fun a => if own = true then expOwn s.toA a else snap2 s.toA.hp a) (vs.map (av s.hp)) = some as ∧ as.length = (encAL l x).length ∧ as.length = vs.length ∧ (∀ (i : Nat) (a b : AV), as[i]? = some a → (encAL l x)[i]? = some b → RW1 a b) := by
  intro l
  induction l with
  | nil =>
    intro vs x _ _ h
    cases vs with
    | nil => exact ⟨[], rfl, rfl, rfl, by simp⟩
    | cons => simp [expL] at h
  | cons sh l ih =>
    intro vs x ha hl h
    simp only [List.all_cons, Bool.and_eq_true] at ha
    cases l with
    | nil =>
      match vs with
      | [] => simp [expL] at h
      | [v] =>
        simp only [expL] at h
        obtain ⟨a, k1, k2, _⟩ := exp1_ok ha.1 (hl v (by simp)) h
        refine ⟨[a], by simp only [List.map_cons, List.map_nil, optAll]; rw [k1], rfl, rfl, fun i a' b ha' hb => ?_⟩
        cases i with
        | zero => simp [encAL] at ha' hb; subst ha'; subst hb; exact k2
        | succ i => simp at ha'
      | _ :: _ :: _ => simp [expL] at h
    | cons sh' l =>
      cases vs with
      | nil => simp [expL] at h
      | cons v vs =>
        simp only [expL] at h
        split at h
        · rename_i a b h1 h2
          cases h
          obtain ⟨a', k1, k2, _⟩ := exp1_ok ha.1 (hl v (by simp)) h1
          obtain ⟨as, m1, m2, m3, m4⟩ := ih vs b ha.2 (fun v hv => hl v (List.mem_cons_of_mem _ hv)) h2
          refine ⟨a' :: as, ?_, by simp only [encAL, List.length_cons, m2], by simp [m3], fun i c d hc hd => ?_⟩
          · simp only [List.map_cons, optAll]
            rw [k1]
            rw [m1]
          · simp only [encAL] at hd
            cases i with
            | zero => simp at hc hd; subst hc; subst hd; exact k2
            | succ i => simp only [List.getElem?_cons_succ] at hc hd; exact m4 i c d hc hd
        · cases h

/-- A function that answers so in the typed machine answers so. -/
theorem tfun_sound {G : Nat → Option AFunc} (hM : Ok G (realRets S)) (hC : CSound S C) {id : Nat} {f : TFunc} (hf : G id = some f.er) {sig : List Sh} {rs : Sh} (h1 : sig.all Sh.arg = true) (h2 : sig.length = f.np) (h3 : rs.ans = true) {x : Sh.denL sig} {y : rs.den}
    (h : f.run C sig rs x = some y) : (realRets S).ret id (encAL sig x) (encA rs y) [] := by
  unfold TFunc.run at h
  obtain ⟨e, s, hk, hex, _⟩ := run_sound (S := S) hC f.body _ _ _ h
  obtain ⟨a1, a2, a3⟩ := encL_args sig x h1
  have he : e = .norm ∨ e = .ret := by
    cases e with
    | norm => exact .inl rfl
    | ret => exact .inr rfl
    | exit i => cases hk
  have hk' : (match optAll (resT s) f.res with | some vs => (match !f.own || nodupB (vs.flatMap rf) with | true => expT f.own s.hp rs vs | false => none) | none => none) = some y := by
    rcases he with rfl | rfl <;> exact hk
  split at hk'
  · rename_i vs hvs
    split at hk'
    · rename_i hnd
      have hres : optAll (resVal s.toA) f.res = some (vs.map (av s.hp)) ∧ ∀ v ∈ vs, lv s.hp v = v := optAll_rel (fun a _ v hv => resT_ok hv) hvs
      have body : ∀ r, (if f.own = true then (if nodupB (AV.refsL (vs.map (av s.hp))) = true then (match optAll (expOwn s.toA) (vs.map (av s.hp)) with | some ys => some (oneOrTup ys) | none => none) else none) else (match optAll (snap2 s.toA.hp) (vs.map (av s.hp)) with | some ys => some (oneOrTup ys) | none => none)) = some r →
          (realRets S).ret id (encAL sig x) r [] := by
        intro r hr
        refine hM id f.er _ r [] hf ⟨by rw [a3, h2]; rfl, fit_ok _ a2 0, e, s.toA, ?_, he, ?_⟩
        · show Ex _ f.body.er (enter (encAL sig x)) e s.toA
          rw [enter_toA x h1]; exact hex
        · show export_ f.own [] f.res s.toA = some (r, [])
          unfold export_
          rw [hres.1]
          simp only
          cases ho : f.own with
          | true =>
            rw [ho] at hr
            simp only [if_true, and_true] at hr ⊢
            split at hr
            · rename_i hn
              rw [if_pos hn]
              split at hr
              · rename_i ys hy; cases hr; rw [hy]
              · cases hr
            · cases hr
          | false =>
            rw [ho] at hr
            simp only [Bool.false_eq_true, if_false, if_true] at hr ⊢
            split at hr
            · rename_i ys hy; cases hr; rw [hy]
            · cases hr
      have exp : ∀ as, optAll (fun a => if f.own = true then expOwn s.toA a else snap2 s.toA.hp a) (vs.map (av s.hp)) = some as → (realRets S).ret id (encAL sig x) (oneOrTup as) [] := by
        intro as ha
        refine body _ ?_
        cases ho : f.own with
        | true =>
          rw [ho] at ha hnd
          simp only [if_true] at ha ⊢
          have hn : nodupB (AV.refsL (vs.map (av s.hp))) = true := by rw [refsL_eq vs hres.2]; simpa using hnd
          rw [if_pos hn, ha]
        | false =>
          rw [ho] at ha
          simp only [Bool.false_eq_true, if_false] at ha ⊢
          rw [ha]
      -- by the answer's shape
      have single : rs.ans1 = true → (∃ v, vs = [v] ∧ exp1 f.own s.hp rs v = some y) → (realRets S).ret id (encAL sig x) (encA rs y) [] := by
        rintro ha ⟨v, rfl, hv⟩
        obtain ⟨a, k1, k2, k3, k4⟩ := exp1_ok ha (hres.2 v (by simp)) hv
        have := exp [a] (by simp only [List.map_cons, List.map_nil, optAll]; rw [k1])
        exact ret_rw1 k3 k4 k2 this
      cases rs with
      | tp l =>
        simp only [expT] at hk'
        split at hk'
        · rename_i v1 v2 vs'
          obtain ⟨as, m1, m2, m3, m4⟩ := expL_ok l _ y h3 hres.2 hk'
          have := exp as m1
          have e2 : oneOrTup as = .tup as := by
            match as, m3 with
            | _ :: _ :: _, _ => rfl
            | [_], h => simp at h
            | [], h => simp at h
          rw [e2] at this
          exact ret_rwL m2 m4 this
        · cases hk'
      | unit =>
        simp only [expT] at hk'
        split at hk'
        · exact exp [] rfl
        · cases hk'
      | fnc f l => simp [Sh.ans] at h3
      | _ =>
        simp only [expT] at hk'
        split at hk'
        · exact single rfl ⟨_, rfl, hk'⟩
        · cases hk'
    · cases hk'
  · cases hk'
end
end Ab
