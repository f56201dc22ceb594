/-
  Typed values over the abstract machine: the state behind a change says no more; code; functions.
-/
import Derived.Test.YtkedlclobjhkfaaDoorTI
namespace Ab
open Go Go.RowKit
set_option linter.unusedVariables false
set_option linter.unusedSimpArgs false
set_option linter.unnecessarySimpa false

section
variable {S : Seat} {α : Type} {C : List CSpec}

theorem lo_of {h h' : THp} {y : TV} (hd : ∀ r ∈ rf1 y, look r .gone h' = look r .gone h ∨ ((∃ a, look r .gone h = .var a) ∧ ∃ b, look r .gone h' = .var b) ∨ live1 h' y = false) : LO h h' y := by
  cases y with
  | lw r v =>
    rcases hd r (by simp [rf1]) with e | ⟨⟨a, e1⟩, b, e2⟩ | e
    · exact .inr ⟨by simp only [live1, e], by
        simp only [A1, lv1, e]
        repeat' split
        all_goals simp only [av1, e]⟩
    · exact .inl (by simp only [live1, e2])
    · exact .inl e
  | ls r v off len =>
    rcases hd r (by simp [rf1]) with e | ⟨⟨a, e1⟩, b, e2⟩ | e
    · exact .inr ⟨by simp only [live1, e], by
        simp only [A1, lv1, e]
        repeat' split
        all_goals simp only [av1, e]⟩
    · exact .inl (by simp only [live1, e2])
    · exact .inl e
  | pe r v i off =>
    rcases hd r (by simp [rf1]) with e | ⟨⟨a, e1⟩, b, e2⟩ | e
    · exact .inr ⟨by simp only [live1, e], by
        simp only [A1, lv1, e]
        repeat' split
        all_goals simp only [av1, e]⟩
    · exact .inl (by simp only [live1, e2])
    · exact .inl e
  | pv r off =>
    rcases hd r (by simp [rf1]) with e | ⟨⟨a, e1⟩, b, e2⟩ | e
    · exact .inr ⟨by simp only [live1, e], by
        simp only [A1, lv1, e]
        repeat' split
        all_goals simp only [av1]⟩
    · exact .inr ⟨by simp only [live1, e1, e2], by simp only [A1, lv1, e1, e2, av1]⟩
    · exact .inl e
  | ns t x => cases x <;> exact .inr ⟨rfl, rfl⟩
  | _ => exact .inr ⟨rfl, rfl⟩

theorem freeB_fr {d : Nat} {b : TB} {s : TSt} (hf : freeB d b s = true) (k : Nat) : ∀ y ∈ leafs (look k .bot s.fr), cl1 d b y = false := by
  rcases look_mem (k := k) (d := TV.bot) (l := s.fr) with h | h
  · rw [h]; intro y hy; simp only [leafs, leafs1, List.mem_singleton] at hy; subst hy; cases b <;> rfl
  · have := List.all_eq_true.1 (Bool.and_eq_true_iff.1 hf).1 _ h
    exact cl_leafs (by simpa using this)
theorem freeB_hp {d : Nat} {b : TB} {s : TSt} (hf : freeB d b s = true) {r : Nat} {cs : List TV} (hl : look r .gone s.hp = .var cs) : ∀ y ∈ cs, cl1 d b y = false := by
  intro y hy
  rcases look_mem (k := r) (d := TB.gone) (l := s.hp) with h | h
  · rw [h] at hl; cases hl
  · rw [hl] at h
    have := List.all_eq_true.1 (Bool.and_eq_true_iff.1 hf).2 _ h
    simp only at this
    simpa using List.all_eq_true.1 this y hy

theorem pRow_ok {h : THp} {r : Nat} {t : Ty} {v : TV} {y : List t.den} (hp : pRow h r t v = some y) : (v = .nl ∧ look r .gone h = .gone ∧ y = []) ∨ ∃ v' v'', v = .lw r v' ∧ look r .gone h = .row v'' t y := by
  unfold pRow at hp
  split at hp
  · split at hp
    · rename_i h1 h2
      cases hp
      refine .inl ⟨rfl, ?_, rfl⟩
      cases hq : look r .gone h <;> simp_all [isGone]
    · cases hp
  · rename_i s' v'
    split at hp
    · rename_i v'' t' xs hb hl
      rw [beq_iff] at hb; subst hb
      obtain ⟨rfl, rfl⟩ := castT_some hp
      exact .inr ⟨v', v'', rfl, hl⟩
    · cases hp
  · cases hp

theorem subN_ok {l m : List Nat} (h : subN l m = true) : ∀ k ∈ l, k ∈ m := fun k hk => memN_iff.1 (List.all_eq_true.1 h k hk)
theorem take_sub {β : Type} {l m : List β} {n : List β} (h : n = l ++ m) : n.take (n.length - m.length) = l := by
  subst h
  simp

theorem inj_ok {m : Mods} {s0 s : TSt} {x : MK.denL m.ks} (ho : Over s0 s) (ht : told m s0 s = true) (hp : pMKs s0 s m.ks = some x) : (realRets S).cv s.toA (inj m s0 x).toA := by
  obtain ⟨⟨lf, ef⟩, lh, eh⟩ := ho
  unfold told at ht
  simp only [Bool.and_eq_true] at ht
  obtain ⟨t1, ⟨t2, t3, t4⟩, t5⟩ := ht
  rw [take_sub ef] at t2
  rw [take_sub eh] at t3
  have t2 := subN_ok t2
  have t3 := subN_ok t3
  obtain ⟨⟨m1, m2⟩, kf, kh⟩ := iMKs_ok (s0 := s0) (s := s) (n := s0.ctr) m.ks x t1 hp
  generalize hF : (iMKs s0.ctr s0.hp m.ks x).1 = F at m1 m2 kf kh
  generalize hH : (iMKs s0.ctr s0.hp m.ks x).2 = H at m1 m2 kf kh
  obtain ⟨d1, d2⟩ := dis1_app t4
  obtain ⟨d3, d4⟩ := dis1_app t5
  rw [← kh] at d1 d2
  rw [← kf] at d3 d4
  have ifr : (inj m s0 x).fr = F ++ (m.w.map fun k => (k, TV.bot)) ++ s0.fr := by rw [← hF]; rfl
  have ihp : (inj m s0 x).hp = H ++ (m.wh.map fun k => (k, TB.gone)) ++ s0.hp := by rw [← hH]; rfl
  have wkeys : (m.w.map fun k => (k, TV.bot)).map (·.1) = m.w := by rw [List.map_map]; exact List.map_id' _
  have whkeys : (m.wh.map fun k => (k, TB.gone)).map (·.1) = m.wh := by rw [List.map_map]; exact List.map_id' _
  -- the heap, name by name
  have hpIn : ∀ r b, (r, b) ∈ H → look r .gone (inj m s0 x).hp = b := fun r b hb => by rw [ihp, List.append_assoc]; exact look_in d1 hb
  have gones : ∀ (l : List Nat) (r : Nat) (rest : THp), r ∈ l → look r .gone ((l.map fun k => (k, TB.gone)) ++ rest) = .gone := by
    intro l
    induction l with
    | nil => intro r rest h; cases h
    | cons a l ih =>
      intro r rest h
      simp only [List.map_cons, List.cons_append, look_cons]
      split
      · rfl
      · rename_i hne
        exact ih r rest ((List.mem_cons.1 h).resolve_left (Ne.symm hne))
  have bots : ∀ (l : List Nat) (k : Nat) (rest : List (Nat × TV)), k ∈ l → look k .bot ((l.map fun k => (k, TV.bot)) ++ rest) = .bot := by
    intro l
    induction l with
    | nil => intro r rest h; cases h
    | cons a l ih =>
      intro r rest h
      simp only [List.map_cons, List.cons_append, look_cons]
      split
      · rfl
      · rename_i hne
        exact ih r rest ((List.mem_cons.1 h).resolve_left (Ne.symm hne))
  have hpWh : ∀ r, r ∈ m.wh → look r .gone (inj m s0 x).hp = .gone := fun r hr => by
    have hn : r ∉ H.map (·.1) := fun h => d2 r h hr
    rw [ihp, List.append_assoc, look_app hn]
    exact gones m.wh r s0.hp hr
  have hpElse : ∀ r, r ∉ H.map (·.1) → r ∉ m.wh → look r .gone (inj m s0 x).hp = look r .gone s.hp ∧ look r .gone s0.hp = look r .gone s.hp := fun r h1 h2 => by
    rw [ihp, List.append_assoc, look_app h1, look_app (by rw [whkeys]; exact h2), eh, look_app]
    · exact ⟨rfl, rfl⟩
    · intro hm
      rcases List.mem_append.1 (t3 r hm) with h | h
      · rw [← kh] at h; exact h1 h
      · exact h2 h
  have cases3 : ∀ r, (∃ b, (r, b) ∈ H) ∨ (r ∈ m.wh) ∨ (r ∉ H.map (·.1) ∧ r ∉ m.wh) := fun r => by
    by_cases h1 : r ∈ H.map (·.1)
    · obtain ⟨⟨a, b⟩, hm, rfl⟩ := List.mem_map.1 h1
      exact .inl ⟨b, hm⟩
    · by_cases h2 : r ∈ m.wh
      · exact .inr (.inl h2)
      · exact .inr (.inr ⟨h1, h2⟩)
  -- leafs of the elder state
  have hLO : ∀ y, (∀ r b, (r, b) ∈ H → freeB r (.row s0.ctr .int []) s0 = true → cl1 r (.row s0.ctr .int []) y = false) → LO s.hp (inj m s0 x).hp y := by
    intro y hy
    refine lo_of fun r hr => ?_
    rcases cases3 r with ⟨b, hb⟩ | hw | ⟨h1, h2⟩
    · have hl := hpIn r b hb
      rcases m2 r b hb with ⟨t, z, v, rfl, hpr, _, hf⟩ | ⟨v, t, z, rfl, hq⟩ | ⟨cs, vs, rfl, hq, _, _⟩
      · right; right
        have := hy r _ hb hf
        cases y with
        | lw r' v' =>
          simp only [rf1, List.mem_singleton] at hr; subst hr
          simp only [cl1, Nat.beq_refl, Bool.true_and] at this
          simp only [live1, hl, this]
        | ls r' v' off len =>
          simp only [rf1, List.mem_singleton] at hr; subst hr
          simp only [cl1, Nat.beq_refl, Bool.true_and] at this
          simp only [live1, hl, this]
        | pe r' v' i off =>
          simp only [rf1, List.mem_singleton] at hr; subst hr
          simp only [cl1, Nat.beq_refl, Bool.true_and] at this
          simp only [live1, hl, this]
        | pv r' off =>
          simp only [rf1, List.mem_singleton] at hr; subst hr
          simp only [live1, hl]
        | _ => simp [rf1] at hr
      · exact .inl (hl.trans hq.symm)
      · exact .inr (.inl ⟨⟨vs, hq⟩, cs, hl⟩)
    · right; right
      have hl := hpWh r hw
      cases y with
      | lw r' v' => simp only [rf1, List.mem_singleton] at hr; subst hr; simp only [live1, hl]
      | ls r' v' off len => simp only [rf1, List.mem_singleton] at hr; subst hr; simp only [live1, hl]
      | pe r' v' i off => simp only [rf1, List.mem_singleton] at hr; subst hr; simp only [live1, hl]
      | pv r' off => simp only [rf1, List.mem_singleton] at hr; subst hr; simp only [live1, hl]
      | _ => simp [rf1] at hr
    · exact .inl (hpElse r h1 h2).1
  -- values that are told
  let N : Nat → Prop := fun r => s.toA.hp r = none
  have hOkF : ∀ v w, lv s.hp v = v → OkF s.hp H s0.ctr v w → Wk N (av s.hp v) (Av (inj m s0 x).hp w) := by
    rintro v w hl (⟨sh, y, rfl, hd⟩ | ⟨r, t, y, rfl, hm, hpr⟩)
    · exact decW hl hd _
    · have hlk := hpIn r _ hm
      have e3 : lv (inj m s0 x).hp (.lw r s0.ctr) = .lw r s0.ctr := by simp only [lv, lv2, lv1, hlk, Nat.beq_refl]
      rw [Av_of e3, av_lw hlk]
      rcases pRow_ok hpr with ⟨rfl, hg, rfl⟩ | ⟨v', v'', rfl, hg⟩
      · exact .row0 r t.z (by simp only [N, toA_hp, hg, blk])
      · rw [av_lw hg]; exact .rfl _
  refine cv_weaken (SWk.mk' (N := N) (fun k => ?_) (fun r => ?_) fun r hr => hr)
  · rw [toA_fr, toA_fr]
    by_cases h1 : k ∈ F.map (·.1)
    · obtain ⟨⟨k', w⟩, hm, rfl⟩ := List.mem_map.1 h1
      have e : look k' .bot (inj m s0 x).fr = w := by rw [ifr, List.append_assoc]; exact look_in d3 hm
      rw [e, ← Av_lv]
      have := hOkF _ w (ev_lv s (.t k')) (m1 k' w hm)
      rw [← Av_of (ev_lv s (.t k'))] at this
      exact this
    · by_cases h2 : k ∈ m.w
      · have e : look k .bot (inj m s0 x).fr = .bot := by
          rw [ifr, List.append_assoc, look_app h1]
          exact bots m.w k s0.fr h2
        rw [e]; exact .bot _
      · have e : look k .bot (inj m s0 x).fr = look k .bot s0.fr := by
          rw [ifr, List.append_assoc, look_app h1, look_app (by rw [wkeys]; exact h2)]
        have e2 : look k .bot s.fr = look k .bot s0.fr := by
          rw [ef, look_app]
          intro hm
          rcases List.mem_append.1 (t2 k hm) with h | h
          · rw [← kf] at h; exact h1 h
          · exact h2 h
        rw [e, e2]
        exact LO.wk fun y hy => hLO y fun r b hb hf => freeB_fr hf k y hy
  · rw [toA_hp, toA_hp]
    rcases cases3 r with ⟨b, hb⟩ | hw | ⟨h1, h2⟩
    · rw [hpIn r b hb]
      rcases m2 r b hb with ⟨t, z, v, rfl, hpr, hl, hf⟩ | ⟨v, t, z, rfl, hq⟩ | ⟨cs, vs, rfl, hq, hlen, hcs⟩
      · rcases pRow_ok hpr with ⟨rfl, hg, rfl⟩ | ⟨v', v'', rfl, hg⟩
        · exact .inr (.inr ⟨by rw [hg]; rfl, t.z, rfl⟩)
        · exact .inr (.inl ⟨_, _, by rw [hg]; rfl, rfl, .rfl _⟩)
      · exact .inr (.inl ⟨_, _, by rw [hq]; rfl, rfl, .rfl _⟩)
      · refine .inr (.inl ⟨_, _, by rw [hq]; rfl, rfl, .var (by simp [hlen]) fun i a b ha hb => ?_⟩)
        simp only [List.getElem?_map, Option.map_eq_some_iff] at ha hb
        obtain ⟨v, hv, rfl⟩ := ha
        obtain ⟨c, hc, rfl⟩ := hb
        have := hOkF _ c (lv1_lv s.hp v) (hcs i c v hc hv)
        rw [av_leaf (lv1_leaf _ _)] at this
        have e : Av (inj m s0 x).hp c = A1 (inj m s0 x).hp c ∨ Wk N (av1 s.hp (lv1 s.hp v)) (A1 (inj m s0 x).hp c) := by
          by_cases hx : leaf c = true
          · exact .inl (Av_leaf hx)
          · right
            have : A1 (inj m s0 x).hp c = .bot := by cases c <;> first | rfl | simp [leaf] at hx
            rw [this]; exact .bot _
        rcases e with e | e
        · rw [e] at this; exact this
        · exact e
    · rw [hpWh r hw]; exact .inl rfl
    · obtain ⟨e1, e2⟩ := hpElse r h1 h2
      rw [e1]
      cases hq : look r .gone s.hp with
      | var vs =>
        refine .inr (.inl ⟨_, _, rfl, rfl, .var (by simp) fun i a b ha hb => ?_⟩)
        simp only [List.getElem?_map, Option.map_eq_some_iff] at ha hb
        obtain ⟨v, hv, rfl⟩ := ha
        obtain ⟨v', hv', rfl⟩ := hb
        rw [hv] at hv'; cases hv'
        have hlo := hLO v fun r' b' hb' hf => freeB_hp hf (e2.trans hq) v (List.mem_of_getElem? hv)
        rcases hlo with hlo | hlo
        · have := A1_dead hlo
          simp only [A1] at this
          rw [this]; exact .bot _
        · have := hlo.av
          simp only [A1] at this
          rw [this]; exact .rfl _
      | row v t xs => exact .inr (.inl ⟨_, _, rfl, rfl, .rfl _⟩)
      | _ => exact .inl rfl

theorem proj_ok {m : Mods} {s0 s : TSt} {x : MK.denL m.ks} (ho : Over s0 s) (hp : proj m s0 s = some x) : (realRets S).cv s.toA (inj m s0 x).toA := by
  unfold proj at hp
  split at hp
  · rename_i s1 hs1
    unfold TSt.frzS at hs1
    split at hs1
    · rename_i h hfz
      cases hs1
      split at hp
      · rename_i ht
        exact cv_trans (cv_frzs _ _ _ hfz) (inj_ok (ho.trans (Over.push s h)) ht hp)
      · cases hp
    · cases hs1
  · cases hp
theorem Over.inj (m : Mods) (s0 : TSt) (x : MK.denL m.ks) : Over s0 (inj m s0 x) := ⟨⟨_, rfl⟩, _, rfl⟩

/-! ### code -/

theorem jn_some {σ : Type} {X : Option (Sum σ α)} {k : σ → Option α} {r : α} (h : jn X k = some r) : (∃ y, X = some (.inl y) ∧ k y = some r) ∨ X = some (.inr r) := by
  unfold jn at h
  split at h
  · exact .inl ⟨_, rfl, h⟩
  · cases h; exact .inr rfl
  · cases h
theorem inlO_some {σ : Type} {x : Option σ} {y : Sum σ α} (h : inlO x = some y) : ∃ z, x = some z ∧ y = .inl z := by
  cases x with
  | none => cases h
  | some z => cases h; exact ⟨z, rfl, rfl⟩
theorem inrO_some {σ : Type} {x : Option α} {y : Sum σ α} (h : inrO x = some y) : ∃ z, x = some z ∧ y = .inr z := by
  cases x with
  | none => cases h
  | some z => cases h; exact ⟨z, rfl, rfl⟩
theorem nxO_some {σ : Type} {x : Option σ} {y : LR σ α} (h : nxO x = some y) : ∃ z, x = some z ∧ y = .nx z := by
  cases x with
  | none => cases h
  | some z => cases h; exact ⟨z, rfl, rfl⟩
theorem dnO_some {σ : Type} {x : Option σ} {y : LR σ α} (h : dnO x = some y) : ∃ z, x = some z ∧ y = .dn z := by
  cases x with
  | none => cases h
  | some z => cases h; exact ⟨z, rfl, rfl⟩
theorem finO_some {σ : Type} {x : Option α} {y : LR σ α} (h : finO x = some y) : ∃ z, x = some z ∧ y = .fin z := by
  cases x with
  | none => cases h
  | some z => cases h; exact ⟨z, rfl, rfl⟩
theorem lpO_some {σ : Type} {B : σ → Option (LR σ α)} {x : σ} {y : Sum σ α} (h : lpO B x = some y) : ∃ n, lpN B n x = some y := by
  unfold lpO at h
  split at h
  · exact ⟨_, h⟩
  · cases h

theorem run_sound (hC : CSound S C) : ∀ (c : TCode) {α : Type} (s : TSt) (k : AExit → TSt → Option α) (r : α), run C c s k = some r → ∃ e s', k e s' = some r ∧ Ex (realRets S) c.er s.toA e s'.toA ∧ Over s s' := by
  intro c
  induction c with
  | skip => intro α s k r h; exact ⟨_, s, h, .skip _, .refl s⟩
  | ret => intro α s k r h; exact ⟨_, s, h, .ret _, .refl s⟩
  | exit id => intro α s k r h; exact ⟨_, s, h, .exit id _, .refl s⟩
  | region ops tys dr =>
    intro α s k r h
    obtain ⟨s', h1, h2, h3⟩ := tops_sound hC ops tys s h
    exact ⟨_, s', h1, .region h2, h3⟩
  | regionJ m ops tys dr =>
    intro α s k r h
    simp only [run] at h
    rcases jn_some h with ⟨y, h1, h⟩ | h1
    · obtain ⟨s', h2, h3, h4⟩ := tops_sound hC ops tys s h1
      obtain ⟨z, hz, e⟩ := inlO_some h2
      cases e
      exact ⟨_, _, h, .cvR (.region h3) (proj_ok h4 hz), Over.inj m s y⟩
    · obtain ⟨s', h2, h3, h4⟩ := tops_sound hC ops tys s h1
      obtain ⟨z, hz, e⟩ := inlO_some h2
      cases e
  | seq a b iha ihb =>
    intro α s k r h
    simp only [run] at h
    obtain ⟨e, s', h1, h2, h3⟩ := iha s _ r h
    cases e with
    | norm =>
      obtain ⟨e2, s2, h4, h5, h6⟩ := ihb s' k r h1
      exact ⟨e2, s2, h4, .seqN h2 h5, h3.trans h6⟩
    | exit id => exact ⟨_, s', h1, .seqE h2 (by simp), h3⟩
    | ret => exact ⟨_, s', h1, .seqE h2 (by simp), h3⟩
  | cond c a b iha ihb =>
    intro α s k r h
    simp only [run] at h
    split at h
    · rename_i x hx
      have ec : s.toA.ev c = .v (.bool x) := by rw [ev_av, hx]; rfl
      rcases br_some h with ⟨rfl, h⟩ | ⟨rfl, h⟩
      · obtain ⟨e, s', h1, h2, h3⟩ := iha s k r h
        exact ⟨e, s', h1, .cond ec (by simpa using h2), h3⟩
      · obtain ⟨e, s', h1, h2, h3⟩ := ihb s k r h
        exact ⟨e, s', h1, .cond ec (by simpa using h2), h3⟩
    · cases h
  | condJ m c a b iha ihb =>
    intro α s k r h
    simp only [run] at h
    split at h
    · rename_i x hx
      have ec : s.toA.ev c = .v (.bool x) := by rw [ev_av, hx]; rfl
      have main : ∀ (t : Bool) (c' : TCode), (c' = if t then a else b) → x = t → ∀ (X : Sum (MK.denL m.ks) α), run C c' s (fun e s' => match e with | .norm => (inlO (proj m s s') : Option (Sum (MK.denL m.ks) α)) | e => inrO (k e s')) = some X →
          (∀ {β : Type} (s : TSt) (k : AExit → TSt → Option β) (r : β), run C c' s k = some r → ∃ e s', k e s' = some r ∧ Ex (realRets S) c'.er s.toA e s'.toA ∧ Over s s') →
          (∀ y, X = .inl y → k .norm (Ab.inj m s y) = some r → ∃ e s', k e s' = some r ∧ Ex (realRets S) (.cond c a.er b.er) s.toA e s'.toA ∧ Over s s') ∧ (X = .inr r → ∃ e s', k e s' = some r ∧ Ex (realRets S) (.cond c a.er b.er) s.toA e s'.toA ∧ Over s s') := by
        intro t c' hc' ht X hX ih
        subst ht
        obtain ⟨e, s', h1, h2, h3⟩ := ih s _ X hX
        have hex : Ex (realRets S) (.cond c a.er b.er) s.toA e s'.toA := .cond ec (by subst hc'; cases x <;> simpa using h2)
        cases e with
        | norm =>
          obtain ⟨z, hz, rfl⟩ := inlO_some h1
          refine ⟨fun y hy hk => ?_, fun hy => nomatch hy⟩
          cases hy
          exact ⟨_, _, hk, .cvR hex (proj_ok h3 hz), Over.inj m s z⟩
        | exit id =>
          obtain ⟨z, hz, rfl⟩ := inrO_some h1
          exact ⟨fun y hy => (nomatch hy), fun hy => by cases hy; exact ⟨_, s', hz, hex, h3⟩⟩
        | ret =>
          obtain ⟨z, hz, rfl⟩ := inrO_some h1
          exact ⟨fun y hy => (nomatch hy), fun hy => by cases hy; exact ⟨_, s', hz, hex, h3⟩⟩
      rcases jn_some h with ⟨y, h1, h⟩ | h1
      · rcases br_some h1 with ⟨hx', h1⟩ | ⟨hx', h1⟩
        · exact (main true a rfl hx' _ h1 iha).1 y rfl h
        · exact (main false b rfl hx' _ h1 ihb).1 y rfl h
      · rcases br_some h1 with ⟨hx', h1⟩ | ⟨hx', h1⟩
        · exact (main true a rfl hx' _ h1 iha).2 rfl
        · exact (main false b rfl hx' _ h1 ihb).2 rfl
    · cases h
  | block id b ih =>
    intro α s k r h
    simp only [run] at h
    obtain ⟨e, s', h1, h2, h3⟩ := ih s _ r h
    cases e with
    | norm => exact ⟨_, s', h1, .blockO h2 (by simp), h3⟩
    | ret => exact ⟨_, s', h1, .blockO h2 (by simp), h3⟩
    | exit i =>
      simp only at h1
      split at h1
      · rename_i hb
        rw [beq_iff] at hb; subst hb
        exact ⟨_, s', h1, .blockX h2, h3⟩
      · rename_i hb
        have hne : i ≠ id := fun e => by subst e; rw [Nat.beq_refl] at hb; cases hb
        exact ⟨_, s', h1, .blockO h2 (by simpa using hne), h3⟩
  | blockJ m id b ih =>
    intro α s k r h
    simp only [run] at h
    have main : ∀ (X : Sum (MK.denL m.ks) α), run C b s (fun e s' => match e with
      | .norm => (inlO (proj m s s') : Option (Sum (MK.denL m.ks) α))
      | .exit i => (match Nat.beq i id with | true => inlO (proj m s s') | false => inrO (k (.exit i) s'))
      | .ret => inrO (k .ret s')) = some X →
        (∀ y, X = .inl y → k .norm (Ab.inj m s y) = some r → ∃ e s', k e s' = some r ∧ Ex (realRets S) (.block id b.er) s.toA e s'.toA ∧ Over s s') ∧ (X = .inr r → ∃ e s', k e s' = some r ∧ Ex (realRets S) (.block id b.er) s.toA e s'.toA ∧ Over s s') := by
      intro X hX
      obtain ⟨e, s', h1, h2, h3⟩ := ih s _ X hX
      cases e with
      | norm =>
        obtain ⟨z, hz, rfl⟩ := inlO_some h1
        refine ⟨fun y hy hk => ?_, fun hy => nomatch hy⟩
        cases hy
        exact ⟨_, _, hk, .cvR (.blockO h2 (by simp)) (proj_ok h3 hz), Over.inj m s z⟩
      | ret =>
        obtain ⟨z, hz, rfl⟩ := inrO_some h1
        exact ⟨fun y hy => (nomatch hy), fun hy => by cases hy; exact ⟨_, s', hz, .blockO h2 (by simp), h3⟩⟩
      | exit i =>
        simp only at h1
        split at h1
        · rename_i hb
          rw [beq_iff] at hb; subst hb
          obtain ⟨z, hz, rfl⟩ := inlO_some h1
          refine ⟨fun y hy hk => ?_, fun hy => nomatch hy⟩
          cases hy
          exact ⟨_, _, hk, .cvR (.blockX h2) (proj_ok h3 hz), Over.inj m s z⟩
        · rename_i hb
          have hne : i ≠ id := fun e => by subst e; rw [Nat.beq_refl] at hb; cases hb
          obtain ⟨z, hz, rfl⟩ := inrO_some h1
          exact ⟨fun y hy => (nomatch hy), fun hy => by cases hy; exact ⟨_, s', hz, .blockO h2 (by simpa using hne), h3⟩⟩
    rcases jn_some h with ⟨y, h1, h⟩ | h1
    · exact (main _ h1).1 y rfl h
    · exact (main _ h1).2 rfl
  | loop m id b ih =>
    intro α s k r h
    simp only [run] at h
    split at h
    · cases h
    · rename_i x0 hx0
      have pre : (realRets S).cv s.toA (Ab.inj m s x0).toA := proj_ok (.refl s) hx0
      have rounds : ∀ (n : Nat) (x : MK.denL m.ks) (X : Sum (MK.denL m.ks) α), lpN (fun x => run C b (Ab.inj m s x) fun e s' => match e with
        | .norm => (nxO (proj m s s') : Option (LR (MK.denL m.ks) α))
        | .exit i => (match Nat.beq i id with | true => dnO (proj m s s') | false => finO (k (.exit i) s'))
        | .ret => finO (k .ret s')) n x = some X →
          (∀ y, X = .inl y → Ex (realRets S) (.loop b.er) (Ab.inj m s x).toA (.exit id) (Ab.inj m s y).toA) ∧ (∀ a, X = .inr a → ∃ e s', k e s' = some a ∧ e ≠ .exit id ∧ Ex (realRets S) (.loop b.er) (Ab.inj m s x).toA e s'.toA ∧ Over s s') := by
        intro n
        induction n with
        | zero => intro x X h; cases h
        | succ n ihn =>
          intro x X h
          simp only [lpN] at h
          split at h
          · rename_i y hy
            obtain ⟨e, s', h1, h2, h3⟩ := ih (Ab.inj m s x) _ _ hy
            have ho := (Over.inj m s x).trans h3
            have hn : e = .norm ∧ proj m s s' = some y := by
              cases e with
              | norm => obtain ⟨z, hz, e⟩ := nxO_some h1; cases e; exact ⟨rfl, hz⟩
              | ret => obtain ⟨z, hz, e⟩ := finO_some h1; cases e
              | exit i =>
                simp only at h1
                split at h1
                · obtain ⟨z, hz, e⟩ := dnO_some h1; cases e
                · obtain ⟨z, hz, e⟩ := finO_some h1; cases e
            obtain ⟨rfl, hz⟩ := hn
            have h4 : Ex (realRets S) b.er (Ab.inj m s x).toA .norm (Ab.inj m s y).toA := .cvR h2 (proj_ok ho hz)
            obtain ⟨k1, k2⟩ := ihn y X h
            exact ⟨fun y' hy' => .loopN h4 (k1 y' hy'), fun a ha => by
              obtain ⟨e, s2, j1, j2, j3, j4⟩ := k2 a ha
              exact ⟨e, s2, j1, j2, .loopN h4 j3, j4⟩⟩
          · rename_i y hy
            cases h
            obtain ⟨e, s', h1, h2, h3⟩ := ih (Ab.inj m s x) _ _ hy
            have ho := (Over.inj m s x).trans h3
            have hn : e = .exit id ∧ proj m s s' = some y := by
              cases e with
              | norm => obtain ⟨z, hz, e⟩ := nxO_some h1; cases e
              | ret => obtain ⟨z, hz, e⟩ := finO_some h1; cases e
              | exit i =>
                simp only at h1
                split at h1
                · rename_i hb
                  rw [beq_iff] at hb; subst hb
                  obtain ⟨z, hz, e⟩ := dnO_some h1; cases e; exact ⟨rfl, hz⟩
                · obtain ⟨z, hz, e⟩ := finO_some h1; cases e
            obtain ⟨rfl, hz⟩ := hn
            exact ⟨fun y' hy' => (by cases hy'; exact .loopE (.cvR h2 (proj_ok ho hz)) (by simp)), fun a ha => nomatch ha⟩
          · rename_i a hy
            cases h
            obtain ⟨e, s', h1, h2, h3⟩ := ih (Ab.inj m s x) _ _ hy
            have ho := (Over.inj m s x).trans h3
            refine ⟨fun y' hy' => (nomatch hy'), fun a' ha' => ?_⟩
            cases ha'
            cases e with
            | norm => obtain ⟨z, hz, e⟩ := nxO_some h1; cases e
            | ret => obtain ⟨z, hz, e⟩ := finO_some h1; cases e; exact ⟨_, s', hz, by simp, .loopE h2 (by simp), ho⟩
            | exit i =>
              simp only at h1
              split at h1
              · obtain ⟨z, hz, e⟩ := dnO_some h1; cases e
              · rename_i hb
                have hne : i ≠ id := fun e => by subst e; rw [Nat.beq_refl] at hb; cases hb
                obtain ⟨z, hz, e⟩ := finO_some h1; cases e
                exact ⟨_, s', hz, by simpa using hne, .loopE h2 (by simp), ho⟩
          · cases h
      rcases jn_some h with ⟨y, h1, h⟩ | h1
      · obtain ⟨n, hn⟩ := lpO_some h1
        exact ⟨_, _, h, .cv pre (.blockX ((rounds n x0 _ hn).1 y rfl)), Over.inj m s y⟩
      · obtain ⟨n, hn⟩ := lpO_some h1
        obtain ⟨e, s', j1, j2, j3, j4⟩ := (rounds n x0 _ hn).2 r rfl
        exact ⟨e, s', j1, .cv pre (.blockO j3 j2), j4⟩
end
end Ab
