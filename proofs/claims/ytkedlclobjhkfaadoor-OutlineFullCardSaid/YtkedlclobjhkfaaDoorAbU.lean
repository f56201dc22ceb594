/-
  Operations that may change places.
-/
import Derived.Test.YtkedlclobjhkfaaDoorAbC
namespace Ab
open Go
set_option linter.unusedVariables false
set_option linter.unusedSimpArgs false
set_option linter.unnecessarySimpa false

def Ext (h h2 : Nat → Option Blk) : Prop := ∀ s b, h s = some b → h2 s = some b

theorem bounds_congr {st st2 : ASt} {n : Nat} {lo hi : Option AOpd} (h : ∀ x ∈ lo.toList ++ hi.toList, st.ev x = st2.ev x) : bounds st n lo hi = bounds st2 n lo hi := by
  cases lo <;> cases hi <;> simp_all [bounds]

theorem optAll_congr {α β : Type} {f g : α → Option β} : ∀ {l : List α}, (∀ x ∈ l, f x = g x) → optAll f l = optAll g l
  | [], _ => rfl
  | x :: r, h => by
    simp only [optAll]
    rw [h x List.mem_cons_self, optAll_congr fun y hy => h y (List.mem_cons_of_mem _ hy)]

theorem cellsAt_ext {h h2 : Nat → Option Blk} (he : Ext h h2) {x : AV} {p : List AV × Nat} (hc : cellsAt h x = some p) : cellsAt h2 x = some p := by
  cases x with
  | pv s off =>
    simp only [cellsAt] at hc ⊢
    split at hc
    · rename_i hb; rw [he _ _ hb]; exact hc
    · cases hc
  | pe s z i off =>
    simp only [cellsAt] at hc ⊢
    split at hc
    · rename_i hb; rw [he _ _ hb]; exact hc
    · cases hc
  | ep cs off => exact hc
  | _ => cases hc

theorem snap1_ext {h h2 : Nat → Option Blk} (he : Ext h h2) {x y : AV} (hc : snap1 h x = some y) : snap1 h2 x = some y := by
  cases x with
  | pe s z i off =>
    simp only [snap1] at hc ⊢
    split at hc
    · rename_i hb; rw [he _ _ hb]; exact hc
    · cases hc
  | lsl s z off len =>
    simp only [snap1] at hc ⊢
    split at hc
    · rename_i hb; rw [he _ _ hb]; exact hc
    · cases hc
  | _ => exact hc

theorem optAll_ext {α β : Type} {f g : α → Option β} (h : ∀ x y, f x = some y → g x = some y) : ∀ {l : List α} {ys : List β}, optAll f l = some ys → optAll g l = some ys
  | [], _, hl => hl
  | x :: r, ys, hl => by
    simp only [optAll] at hl ⊢
    split at hl
    · rename_i y ys' h1 h2
      rw [h x y h1, optAll_ext h h2]
      exact hl
    · cases hl

theorem snap2_ext {h h2 : Nat → Option Blk} (he : Ext h h2) {x y : AV} (hc : snap2 h x = some y) : snap2 h2 x = some y := by
  cases x with
  | pv s off =>
    simp only [snap2] at hc ⊢
    split at hc
    · rename_i hb
      rw [he _ _ hb]
      split at hc
      · rename_i hcs
        have := optAll_ext (g := snap1 h2) (fun _ _ => snap1_ext he) hcs
        simp only [this]
        exact hc
      · cases hc
    · cases hc
  | agg cs =>
    simp only [snap2] at hc ⊢
    split at hc
    · rename_i hcs
      rw [optAll_ext (g := snap1 h2) (fun _ _ => snap1_ext he) hcs]
      exact hc
    · cases hc
  | _ => simp only [snap2] at hc ⊢; exact snap1_ext he hc

theorem snap_ext {h h2 : Nat → Option Blk} (he : Ext h h2) {x y : AV} (hc : snap h x = some y) : snap h2 x = some y := by
  cases x with
  | fn f cs =>
    simp only [snap] at hc ⊢
    split at hc
    · rename_i hcs
      rw [optAll_ext (g := snap2 h2) (fun _ _ => snap2_ext he) hcs]
      exact hc
    · cases hc
  | tup cs =>
    simp only [snap] at hc ⊢
    split at hc
    · rename_i hcs
      rw [optAll_ext (g := snap2 h2) (fun _ _ => snap2_ext he) hcs]
      exact hc
    · cases hc
  | agg cs =>
    simp only [snap] at hc ⊢
    split at hc
    · rename_i hcs
      rw [optAll_ext (g := snap2 h2) (fun _ _ => snap2_ext he) hcs]
      exact hc
    · cases hc
  | _ => simp only [snap] at hc ⊢; exact snap2_ext he hc

theorem passArgs_ext {h h2 : Nat → Option Blk} (he : Ext h h2) : ∀ (i : Nat) (l ys : List AV), passArgs h [] i l = some ys → passArgs h2 [] i l = some ys
  | _, [], _, hl => hl
  | i, x :: r, ys, hl => by
    simp only [passArgs, List.contains_nil, Bool.false_eq_true, if_false, List.isEmpty_nil, if_true] at hl ⊢
    split at hl
    · rename_i y ys' h1 h2
      rw [snap_ext he h1, passArgs_ext he (i + 1) r ys' h2]
      exact hl
    · cases hl

theorem CallQ.ext {M : Rets} {f : Nat} {args : List AV} {st st2 : ASt} {v : AV} (h : CallQ M f args st v) (he : Ext st.hp st2.hp) : CallQ M f args st2 v := by
  obtain ⟨a, h1, h2⟩ := h
  exact ⟨a, passArgs_ext he _ _ _ h1, h2⟩

/-- An operation that leaves memory as it is. -/
theorem aop_quiet {o : AOp} {d : Nat} {st st2 st1 : ASt} {v : AV} (hk : o.kind ≤ 1) (hv : ∀ x ∈ o.opds, st.ev x = st2.ev x) (he : o.kind = 0 ∨ Ext st.hp st2.hp) (h : aop o d st = some (v, st1)) :
    st1 = st ∧ aop o d st2 = some (v, st2) := by
  cases o with
  | load n x =>
    have he' := he.resolve_left (by simp [AOp.kind])
    have e := hv x (by simp [AOp.opds])
    simp only [aop] at h ⊢
    rw [← e]
    split at h
    · rename_i hc
      rw [cellsAt_ext he' hc]
      split at h
      · rename_i hy
        simp only [hy]
        cases h
        exact ⟨rfl, rfl⟩
      · cases h
    · cases h
  | build zero ps =>
    have e : ∀ p ∈ ps, st.ev p.2.2 = st2.ev p.2.2 := fun p hp => hv _ (by simp only [AOp.opds, List.mem_map]; exact ⟨p, hp, rfl⟩)
    simp only [aop] at h ⊢
    split at h
    · rename_i ps' hps
      split at h
      · rename_i cs hcs
        cases h
        have hps2 := (optAll_congr (f := fun (p : Nat × Nat × AOpd) => match (st2.ev p.2.2).cells with | some cs => if cs.length = p.2.1 then some (p.1, cs) else none | none => none) (fun p hp => by simp only [← e p hp]; rfl)).trans hps
        refine ⟨rfl, ?_⟩
        erw [hps2]
        simp only [hcs]
      · cases h
    · cases h
  | mkfn f xs =>
    have e : xs.map st.ev = xs.map st2.ev := List.map_congr_left hv
    simp only [aop] at h ⊢
    rw [← e]
    cases h
    exact ⟨rfl, rfl⟩
  | slc z x lo hi =>
    have e := hv x (by simp [AOp.opds])
    have eb : ∀ n, bounds st n lo hi = bounds st2 n lo hi := fun n => bounds_congr fun y hy => hv y (by simp only [AOp.opds]; exact List.mem_cons_of_mem _ hy)
    simp only [aop] at h ⊢
    rw [← e]
    simp only [← eb]
    repeat' split at h
    all_goals (first | (cases h; done) | skip)
    all_goals simp_all
  | alloc => simp [AOp.kind] at hk
  | bslice b => cases b <;> simp [AOp.kind] at hk
  | store => simp [AOp.kind] at hk
  | box => simp [AOp.kind] at hk
  | mksl => simp [AOp.kind] at hk
  | app => simp [AOp.kind] at hk
  | call => simp [aop] at h
  | calld => simp [aop] at h
  | mov x => have e := hv x (by simp [AOp.opds]); simp only [aop] at h ⊢; rw [← e]; cases h; exact ⟨rfl, rfl⟩
  | ifc t x => have e := hv x (by simp [AOp.opds]); simp only [aop] at h ⊢; rw [← e]; cases h; exact ⟨rfl, rfl⟩
  | chk x => have e := hv x (by simp [AOp.opds]); simp only [aop] at h ⊢; rw [← e]; repeat' split at h; all_goals (first | (cases h; done) | simp_all)
  | eqn sl neg x => have e := hv x (by simp [AOp.opds]); simp only [aop] at h ⊢; rw [← e]; repeat' split at h; all_goals (first | (cases h; done) | simp_all)
  | un op x => have e := hv x (by simp [AOp.opds]); simp only [aop] at h ⊢; rw [← e]; repeat' split at h; all_goals (first | (cases h; done) | simp_all)
  | cvi k x => have e := hv x (by simp [AOp.opds]); simp only [aop] at h ⊢; rw [← e]; repeat' split at h; all_goals (first | (cases h; done) | simp_all)
  | cvs x => have e := hv x (by simp [AOp.opds]); simp only [aop] at h ⊢; rw [← e]; repeat' split at h; all_goals (first | (cases h; done) | simp_all)
  | fa off x => have e := hv x (by simp [AOp.opds]); simp only [aop] at h ⊢; rw [← e]; repeat' split at h; all_goals (first | (cases h; done) | simp_all)
  | fld off n x => have e := hv x (by simp [AOp.opds]); simp only [aop] at h ⊢; rw [← e]; repeat' split at h; all_goals (first | (cases h; done) | simp_all)
  | ext x i => have e := hv x (by simp [AOp.opds]); simp only [aop] at h ⊢; rw [← e]; repeat' split at h; all_goals (first | (cases h; done) | simp_all)
  | len s x => have e := hv x (by simp [AOp.opds]); simp only [aop] at h ⊢; rw [← e]; repeat' split at h; all_goals (first | (cases h; done) | simp_all)
  | bin k op x y => have e := hv x (by simp [AOp.opds]); have e2 := hv y (by simp [AOp.opds]); simp only [aop] at h ⊢; rw [← e, ← e2]; repeat' split at h; all_goals (first | (cases h; done) | simp_all)
  | eqa neg sh x y => have e := hv x (by simp [AOp.opds]); have e2 := hv y (by simp [AOp.opds]); simp only [aop] at h ⊢; rw [← e, ← e2]; repeat' split at h; all_goals (first | (cases h; done) | simp_all)
  | ia z x y => have e := hv x (by simp [AOp.opds]); have e2 := hv y (by simp [AOp.opds]); simp only [aop] at h ⊢; rw [← e, ← e2]; repeat' split at h; all_goals (first | (cases h; done) | simp_all)
  | ix x y => have e := hv x (by simp [AOp.opds]); have e2 := hv y (by simp [AOp.opds]); simp only [aop] at h ⊢; rw [← e, ← e2]; repeat' split at h; all_goals (first | (cases h; done) | simp_all)
  | max2 x y => have e := hv x (by simp [AOp.opds]); have e2 := hv y (by simp [AOp.opds]); simp only [aop] at h ⊢; rw [← e, ← e2]; repeat' split at h; all_goals (first | (cases h; done) | simp_all)
  | pick c x y => have e0 := hv c (by simp [AOp.opds]); have e := hv x (by simp [AOp.opds]); have e2 := hv y (by simp [AOp.opds]); simp only [aop] at h ⊢; rw [← e0, ← e, ← e2]; repeat' split at h; all_goals (first | (cases h; done) | simp_all)

/-- An operation that makes or writes one row. -/
theorem aop_writes {o : AOp} {d : Nat} {st st1 : ASt} {v : AV} (hk : o.kind = 2 ∨ o.kind = 3) (h : aop o d st = some (v, st1)) :
    ∃ s blk, st1 = st.setH s (some blk) ∧ (o.kind = 2 → st.hp s = none) ∧ ∀ st2 : ASt, st2.hp = st.hp → (∀ x ∈ o.opds, st.ev x = st2.ev x) → aop o d st2 = some (v, st2.setH s (some blk)) := by
  cases o with
  | alloc zero =>
    simp only [aop] at h
    split at h
    · rename_i hd
      cases h
      exact ⟨d, _, rfl, fun _ => hd, fun st2 h2 _ => by simp only [aop, h2, hd]⟩
    · cases h
  | bslice b z zero len ps =>
    cases b with
    | true => simp [AOp.kind] at hk
    | false =>
      simp only [aop] at h
      split at h
      · rename_i ps' hd hps
        split at h
        · rename_i hr
          have hr' : partRefs st ps = [] := by simpa using hr
          rw [hr'] at h
          simp only [ASt.freezeL] at h
          cases h
          refine ⟨d, _, rfl, fun _ => hd, fun st2 h2 hv => ?_⟩
          have e : ∀ p ∈ ps, st.ev p.2 = st2.ev p.2 := fun p hp => hv _ (by simp only [AOp.opds, List.mem_map]; exact ⟨p, hp, rfl⟩)
          have hr2 : partRefs st2 ps = [] := by
            rw [← hr']
            unfold partRefs
            congr 1
            exact List.map_congr_left fun p hp => (e p hp).symm
          have hps2 := (optAll_congr (f := fun (p : Nat × AOpd) => match (st2.ev p.2).cells with | some cs => (match optAll (snap1 st.hp) cs with | some cs => if cs.length = z then some (p.1, cs) else none | none => none) | none => none) (fun p hp => by simp only [← e p hp]; rfl)).trans hps
          simp only [aop, h2, hd, hr2, or_true, if_true, ASt.freezeL]
          erw [hps2]
        · cases h
      · cases h
  | store z a x =>
    simp only [aop] at h
    repeat' split at h
    all_goals (first | (cases h; done) | skip)
    all_goals cases h
    all_goals
      refine ⟨_, _, rfl, by simp [AOp.kind], fun st2 h2 hv => ?_⟩
      have e1 := hv a (by simp [AOp.opds])
      have e2 := hv x (by simp [AOp.opds])
      simp only [aop, h2, ← e1, ← e2]
      simp_all
  | load => simp [AOp.kind] at hk
  | box => simp [AOp.kind] at hk
  | mksl => simp [AOp.kind] at hk
  | app => simp [AOp.kind] at hk
  | call => simp [AOp.kind] at hk
  | calld => simp [AOp.kind] at hk
  | _ => simp [AOp.kind] at hk

/-! ### two operations change places -/

theorem ev_putO {st : ASt} {d : Option Nat} {v : AV} {x : AOpd} (h : ∀ n, x = .t n → d ≠ some n) : (st.putO d v).ev x = st.ev x := by
  cases d with
  | none => rfl
  | some d =>
    cases x with
    | t n =>
      have hn : n ≠ d := fun e => h n rfl (by rw [e])
      simp only [ASt.putO, ASt.put, ASt.ev, upd, if_neg hn]
    | _ => rfl
theorem ev_setH {st : ASt} {s : Nat} {b : Option Blk} {x : AOpd} : (st.setH s b).ev x = st.ev x := by cases x <;> rfl
theorem hp_putO {st : ASt} {d : Option Nat} {v : AV} : (st.putO d v).hp = st.hp := by cases d <;> rfl
theorem putO_comm {st : ASt} {d e : Option Nat} {v x : AV} (h : ∀ n, d = some n → e ≠ some n) : (st.putO d v).putO e x = (st.putO e x).putO d v := by
  cases d with
  | none => rfl
  | some d =>
    cases e with
    | none => rfl
    | some e =>
      have hn : d ≠ e := fun e' => h d rfl (by rw [e'])
      simp only [ASt.putO, ASt.put]
      congr 1
      funext k
      simp only [upd]
      by_cases h1 : k = e
      · rw [if_pos h1, if_neg (fun e' => hn (e'.symm.trans h1)), if_pos h1]
      · rw [if_neg h1]
        by_cases h2 : k = d
        · rw [if_pos h2, if_pos h2]
        · rw [if_neg h2, if_neg h2, if_neg h1]
theorem setH_putO {st : ASt} {d : Option Nat} {v : AV} {s : Nat} {b : Option Blk} : (st.putO d v).setH s b = (st.setH s b).putO d v := by cases d <;> rfl
theorem gval_putO {st : ASt} {d : Option Nat} {v : AV} {g : Option (Nat × Bool)} (h : ∀ t w, g = some (t, w) → d ≠ some t) : gval (st.putO d v) g = gval st g := by
  cases g with
  | none => rfl
  | some p =>
    obtain ⟨t, w⟩ := p
    have : (st.putO d v).fr t = st.fr t := by
      cases d with
      | none => rfl
      | some d =>
        have hn : t ≠ d := fun e => h t w rfl (by rw [e])
        simp only [ASt.putO, ASt.put, upd, if_neg hn]
    simp only [gval, this]
theorem gval_setH {st : ASt} {s : Nat} {b : Option Blk} {g : Option (Nat × Bool)} : gval (st.setH s b) g = gval st g := by
  cases g with
  | none => rfl
  | some p => rfl

theorem fills_not {d : Option Nat} {l : List Nat} (h : fills d l = false) : ∀ n, n ∈ l → d ≠ some n := by
  intro n hn e
  subst e
  simp only [fills, List.contains_eq_mem, decide_eq_false_iff_not] at h
  exact h hn
theorem seen_ev {o : AOper} {st : ASt} {d : Option Nat} {v : AV} (h : fills d o.seen = false) : ∀ x ∈ o.op.opds, (st.putO d v).ev x = st.ev x := by
  intro x hx
  refine ev_putO fun n e => fills_not h n ?_
  subst e
  simp only [AOper.seen, List.mem_append, List.mem_filterMap]
  exact .inl ⟨_, hx, rfl⟩
theorem seen_gval {o : AOper} {st : ASt} {d : Option Nat} {v : AV} (h : fills d o.seen = false) : gval (st.putO d v) o.grd = gval st o.grd := by
  refine gval_putO fun t w e => fills_not h t ?_
  simp only [AOper.seen, List.mem_append, e]
  exact .inr (List.mem_singleton.2 rfl)

/-- A step that leaves memory as it is. -/
theorem step_quiet {M : Rets} {o : AOp} {d : Nat} {st st1 : ASt} {v : AV} (hk : o.kind ≤ 1) (h : StepR M true o d st v st1) :
    st1 = st ∧ ∀ st2 : ASt, (∀ x ∈ o.opds, st.ev x = st2.ev x) → (o.kind = 0 ∨ Ext st.hp st2.hp) → StepR M true o d st2 v st2 := by
  cases o with
  | call frz muts f args =>
    simp only [StepR, if_true] at h ⊢
    obtain ⟨rfl, rfl, hc⟩ := h
    refine ⟨rfl, fun st2 hv he => ⟨rfl, trivial, ?_⟩⟩
    have e : args.map st1.ev = args.map st2.ev := List.map_congr_left hv
    rw [← e]
    exact hc.ext (he.resolve_left (by simp [AOp.kind]))
  | calld frz x args =>
    simp only [StepR, if_true] at h
    split at h
    · rename_i f caps hx
      obtain ⟨rfl, hc⟩ := h
      refine ⟨rfl, fun st2 hv he => ?_⟩
      have ex := hv x (by simp [AOp.opds])
      simp only [StepR, if_true, ← ex, hx]
      rw [← List.map_congr_left (f := st1.ev) (g := st2.ev) fun y hy => hv y (by simp [AOp.opds, hy])]
      exact ⟨trivial, hc.ext (he.resolve_left (by simp [AOp.kind]))⟩
    · exact h.elim
  | _ =>
    have h' : aop _ d st = some (v, st1) := h
    refine ⟨(aop_quiet hk (fun _ _ => rfl) (.inr fun _ _ h => h) h').1, fun st2 hv he => ?_⟩
    exact (aop_quiet hk hv he h').2

theorem step_writes {M : Rets} {o : AOp} {d : Nat} {st st1 : ASt} {v : AV} (hk : o.kind = 2 ∨ o.kind = 3) (h : StepR M true o d st v st1) :
    ∃ s blk, st1 = st.setH s (some blk) ∧ (o.kind = 2 → st.hp s = none) ∧ ∀ st2 : ASt, st2.hp = st.hp → (∀ x ∈ o.opds, st.ev x = st2.ev x) → StepR M true o d st2 v (st2.setH s (some blk)) := by
  cases o with
  | call => simp [AOp.kind] at hk
  | calld => simp [AOp.kind] at hk
  | _ => exact aop_writes hk h

theorem swap {M : Rets} {k i : AOper} {st s1 s2 : ASt} (hp : pairOk k i = true) (h1 : OpR M true k st s1) (h2 : OpR M true i s1 s2) : ∃ s1', OpR M true i st s1' ∧ OpR M true k s1' s2 := by
  simp only [pairOk, Bool.and_eq_true, Bool.or_eq_true, beq_iff_eq, Nat.blt_eq, Bool.not_eq_true'] at hp
  obtain ⟨⟨⟨hk, p1⟩, p2⟩, p3⟩ := hp
  have hne : ∀ n, k.dst = some n → i.dst ≠ some n := by
    intro n e1 e2
    rw [e1, e2] at p3
    simp [fills] at p3
  have hkk : k.op.kind ≤ 1 := by omega
  -- k at a state that differs from st as i makes it differ
  have kat : ∀ (vk : AV) (x : ASt), (∀ y ∈ k.op.opds, st.ev y = x.ev y) → gval x k.grd = gval st k.grd → (k.op.kind = 0 ∨ Ext st.hp x.hp) → s1 = st.putO k.dst vk → (∃ vk, s1 = st.putO k.dst vk ∧ OpR M true k x (x.putO k.dst vk)) := by
    intro vk x hv hg he _
    rcases h1 with ⟨g, v, st1, hs, e⟩ | ⟨g, e⟩
    · obtain ⟨rfl, q⟩ := step_quiet hkk hs
      exact ⟨v, e, .inl ⟨hg.trans g, v, x, q x hv he, rfl⟩⟩
    · exact ⟨ud, e, .inr ⟨hg.trans g, rfl⟩⟩
  obtain ⟨vk, hs1⟩ : ∃ vk, s1 = st.putO k.dst vk := by
    rcases h1 with ⟨g, v, st1, hs, e⟩ | ⟨g, e⟩
    · obtain ⟨rfl, q⟩ := step_quiet hkk hs
      exact ⟨v, e⟩
    · exact ⟨ud, e⟩
  have putinj : ∀ v v' : AV, st.putO k.dst v = st.putO k.dst v' → ∀ y : ASt, y.putO k.dst v = y.putO k.dst v' := by
    intro v v' e y
    cases hd : k.dst with
    | none => rfl
    | some d =>
      rw [hd] at e
      have := congrArg (fun z : ASt => z.fr d) e
      simp only [ASt.putO, ASt.put, upd, if_true] at this
      rw [this]
  have hgi : gval s1 i.grd = gval st i.grd := by rw [hs1]; exact seen_gval p1
  have hev : ∀ x ∈ i.op.opds, s1.ev x = st.ev x := by rw [hs1]; exact seen_ev p1
  have hhp : s1.hp = st.hp := by rw [hs1]; exact hp_putO
  rcases h2 with ⟨g2, vi, sx, hs2, rfl⟩ | ⟨g2, rfl⟩
  · by_cases hi : i.op.kind ≤ 1
    · obtain ⟨rfl, q⟩ := step_quiet hi hs2
      refine ⟨st.putO i.dst vi, .inl ⟨hgi ▸ g2, vi, st, q st hev (.inr (hhp ▸ fun _ _ h => h)), rfl⟩, ?_⟩
      obtain ⟨vk', e', hk'⟩ := kat vk (st.putO i.dst vi) (fun y hy => (seen_ev p2 y hy).symm) (seen_gval p2) (.inr (by rw [hp_putO]; exact fun _ _ h => h)) hs1
      rw [e', putO_comm hne]
      exact hk'
    · obtain ⟨s, blk, rfl, hf, q⟩ := step_writes (by omega) hs2
      refine ⟨(st.setH s (some blk)).putO i.dst vi, .inl ⟨hgi ▸ g2, vi, _, q st hhp.symm hev, rfl⟩, ?_⟩
      obtain ⟨vk', e', hk'⟩ := kat vk ((st.setH s (some blk)).putO i.dst vi) (fun y hy => by rw [seen_ev p2 y hy, ev_setH]) (by rw [seen_gval p2, gval_setH]) (by
        by_cases h2 : i.op.kind = 2
        · refine .inr ?_
          rw [hp_putO]
          intro s' b hb
          simp only [ASt.setH, upd]
          split
          · rename_i e; subst e
            have := hf h2
            rw [hhp, hb] at this
            cases this
          · exact hb
        · exact .inl (by omega)) hs1
      rw [e', setH_putO, putO_comm hne]
      exact hk'
  · refine ⟨st.putO i.dst ud, .inr ⟨hgi ▸ g2, rfl⟩, ?_⟩
    obtain ⟨vk', e', hk'⟩ := kat vk (st.putO i.dst ud) (fun y hy => (seen_ev p2 y hy).symm) (seen_gval p2) (.inr (by rw [hp_putO]; exact fun _ _ h => h)) hs1
    rw [e', putO_comm hne]
    exact hk'

/-- An operation comes to the front. -/
theorem front {M : Rets} {i : AOper} {R2 : List AOper} : ∀ (R1 : List AOper) {st st' : ASt}, (∀ k ∈ R1, pairOk k i = true) → OpsR M true (R1 ++ i :: R2) st st' → ∃ s1, OpR M true i st s1 ∧ OpsR M true (R1 ++ R2) s1 st'
  | [], st, st', _, h => by
    cases h with
    | cv hq => cases hq
    | cons h1 h2 => exact ⟨_, h1, h2⟩
  | k :: R1, st, st', hp, h => by
    cases h with
    | cv hq => cases hq
    | cons h1 h2 =>
      obtain ⟨s1, q1, q2⟩ := front R1 (fun x hx => hp x (List.mem_cons_of_mem _ hx)) h2
      obtain ⟨s1', q3, q4⟩ := swap (hp k List.mem_cons_self) h1 q1
      exact ⟨s1', q3, .cons q4 q2⟩

theorem OpR.loud {M : Rets} {o : AOper} {st st' : ASt} (h : OpR M true o st st') : OpR M false o st st' := by
  rcases h with ⟨g, v, st1, hs, e⟩ | h
  · refine .inl ⟨g, v, st1, ?_, e⟩
    generalize o.op = op at hs
    cases op with
    | call frz muts f args =>
      simp only [StepR, if_true] at hs
      obtain ⟨rfl, rfl, hc⟩ := hs
      simp only [StepR, Bool.false_eq_true, if_false]
      exact hc.loud
    | calld frz x args =>
      simp only [StepR, if_true] at hs
      simp only [StepR, Bool.false_eq_true, if_false]
      split at hs
      · obtain ⟨rfl, hc⟩ := hs
        exact hc.loud
      · exact hs.elim
    | _ => exact hs
  · exact .inr h
end Ab
