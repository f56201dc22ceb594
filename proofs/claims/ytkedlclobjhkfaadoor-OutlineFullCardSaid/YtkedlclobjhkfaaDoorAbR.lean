/-
  Regions, code and functions of the abstract machine are those of the real one.
-/
import Derived.Test.YtkedlclobjhkfaaDoorAbQ
import Derived.Orders
namespace Ab
open Go Go.RowKit
set_option linter.unusedVariables false
set_option linter.unusedSimpArgs false
set_option linter.unnecessarySimpa false

section
variable {S : Seat} {A0 O : Nat → Prop} {w0 : World} {A : Nat → Prop} {σ : Nat → Option Nat} {w : World} {st st' : ASt} {tm : Array Value} {df : List Deferred} {o : Oper} {v : AV} {d : Nat} {nt : Nat}

/-- The operations of a region, by their numbers, and what they are in the abstract machine. -/
def Match (S : Seat) (nt : Nat) (draw : Bool) (ops : Array Oper) : List Nat → List AOper → Prop
  | [], [] => True
  | i :: L, a :: la => (∃ o, ops[i]? = some o ∧ cOper S nt ops draw o = some a) ∧ Match S nt draw ops L la
  | _, _ => False

theorem SRel.putO (h : SRel S A0 O w0 A σ w st tm) (hn : tm.size = nt) {dst : Option Nat} (hd : ∀ d, dst = some d → d < nt) {x : AV} {rv : Value} (hg : Got S A σ w st x rv) :
    SRel S A0 O w0 A σ w (st.putO dst x) (Act.put ⟨tm, df⟩ dst rv).tmps ∧ (Act.put ⟨tm, df⟩ dst rv).tmps.size = nt ∧ (Act.put ⟨tm, df⟩ dst rv).defers = df := by
  cases dst with
  | none => exact ⟨h, hn, rfl⟩
  | some d => exact ⟨h.put (by rw [hn]; exact hd d rfl) hg, by simp [Act.put, hn], rfl⟩

/-- One operation, by its number, and what stands behind it. -/
theorem StepR.noFrz {M : Rets} {q : Bool} {op : AOp} {d : Nat} {st st' : ASt} {v : AV} (h : StepR M q (noFrz op) d st v st') : StepR M q op d st v st' := by
  cases op with
  | bslice frz z zero len ps =>
    have h' : aop (.bslice false z zero len ps) d st = some (v, st') := h
    show aop (.bslice frz z zero len ps) d st = some (v, st')
    simp only [aop] at h' ⊢
    split at h'
    · rename_i ps' e1 e2
      split at h'
      · rename_i hc
        rw [if_pos (.inr (hc.resolve_left (by simp)))]
        exact h'
      · cases h'
    · cases h'
  | _ => exact h
theorem OpR.noFrz {M : Rets} {q : Bool} {a : AOper} {op0 : AOp} {st st' : ASt} (hop : a.op = op0 ∨ a.op = Ab.noFrz op0) (h : OpR M q a st st') : OpR M q { a with op := op0 } st st' := by
  rcases h with ⟨h1, v, st1, h2, h3⟩ | h
  · refine .inl ⟨h1, v, st1, ?_, h3⟩
    rcases hop with e | e
    · rw [e] at h2; exact h2
    · rw [e] at h2; exact h2.noFrz
  · exact .inr h
theorem oper_sound0 (hS : Callable S) (h : SRel S A0 O w0 A σ w st tm) (hn : tm.size = nt) {ops : Array Oper} {i : Nat} {a : AOper} (ho : ops[i]? = some o) (c1 : cOp S o.op o.type = some a.op) (c2 : a.dst = o.dst) (c3 : ∀ d, o.dst = some d → d < nt ∧ d < 1000) (c4 : match o.guard with | none => a.grd = none | some (j, want) => ∃ t, (ops[j]?).bind (·.dst) = some t ∧ a.grd = some (t, want)) (hr : OpR (realRets S) false a st st')
    {Q : Exit → Act → World → Prop} {K : Act → World → Prop} (hk : ∀ w' A' σ' tm', SRel S A0 O w0 A' σ' w' st' tm' → tm'.size = nt → K ⟨tm', df⟩ w') : wpOp S.P ops Q i K ⟨tm, df⟩ w := by
  have hwant : ∀ b, gval st a.grd = some b → Region.wanted o (yielded ops tm) = b := by
    intro b hb
    unfold Region.wanted
    cases hg : o.guard with
    | none =>
      rw [hg] at c4
      simp only at c4
      rw [c4] at hb
      simp only [gval, Option.some.injEq] at hb
      exact hb
    | some p =>
      obtain ⟨j, want⟩ := p
      rw [hg] at c4
      obtain ⟨t, h1, h2⟩ := c4
      rw [h2] at hb
      simp only [gval] at hb
      split at hb
      · rename_i c hc'
        simp only [Option.some.injEq] at hb
        have hv := h.fr t
        rw [hc'] at hv
        have e := hv.v_inv
        have e2 : tm[t]? = some (.bool c) := by
          rw [Array.getD_eq_getD_getElem?] at e
          cases hq : tm[t]? with
          | none => rw [hq] at e; simp [undef] at e
          | some x => rw [hq] at e; simp at e; rw [e]
        simp only [yielded, h1, Option.bind_some, e2]
        rw [← hb]
        cases c <;> cases want <;> rfl
      · rename_i y hc'
        simp only [Option.some.injEq] at hb
        have hv := h.fr t
        rw [hc'] at hv
        have e := hv.v_inv
        have e2 : ∀ c, tm[t]? ≠ some (.bool c) := by
          intro c hq
          rw [Array.getD_eq_getD_getElem?, hq] at e
          cases e
        have e3 : yielded ops tm j = none := by
          unfold yielded
          rw [h1]
          split
          · rename_i c hq
            exact absurd hq (e2 c)
          · rfl
        simp only [e3, ← hb]
        rfl
      · cases hb
  simp only [wpOp, ho]
  rcases hr with ⟨hg, v, st1, hs, rfl⟩ | ⟨hg, rfl⟩
  · rw [if_pos (hwant true hg)]
    left
    refine step_call hS h c1 hs fun w' A' σ' rv k1 k2 => ?_
    have hgot : Got S A' σ' w' st1 v rv := by
      rcases k2 with k2 | ⟨rfl, rfl⟩
      · exact k2
      · exact ⟨.of0 (.bot _), by simp [AV.refs]⟩
    obtain ⟨q1, q2, q3⟩ := k1.putO (df := df) hn (dst := o.dst) (fun d hd => (c3 d hd).1) hgot
    rw [c2] at hk
    have := hk w' A' σ' _ q1 q2
    rw [show (Act.put ⟨tm, df⟩ o.dst rv) = ⟨(Act.put ⟨tm, df⟩ o.dst rv).tmps, df⟩ from by cases o.dst <;> rfl]
    exact this
  · rw [if_neg (by rw [hwant false hg]; simp)]
    obtain ⟨q1, q2, q3⟩ := h.putO (df := df) hn (dst := o.dst) (fun d hd => (c3 d hd).1) (x := ud) (rv := undef) ⟨.of0 (.v _), by simp [AV.refs, ud]⟩
    rw [c2] at hk
    have := hk w A σ _ q1 q2
    rw [show (Act.put ⟨tm, df⟩ o.dst undef) = ⟨(Act.put ⟨tm, df⟩ o.dst undef).tmps, df⟩ from by cases o.dst <;> rfl]
    exact this

theorem oper_sound (hS : Callable S) (h : SRel S A0 O w0 A σ w st tm) (hn : tm.size = nt) {ops : Array Oper} {draw : Bool} {i : Nat} {a : AOper} (ho : ops[i]? = some o) (hc : cOper S nt ops draw o = some a) (hr : OpR (realRets S) false a st st')
    {Q : Exit → Act → World → Prop} {K : Act → World → Prop} (hk : ∀ w' A' σ' tm', SRel S A0 O w0 A' σ' w' st' tm' → tm'.size = nt → K ⟨tm', df⟩ w') : wpOp S.P ops Q i K ⟨tm, df⟩ w := by
  obtain ⟨⟨op0, c1, hop⟩, c2, c3, c4⟩ := cOper_some hc
  exact oper_sound0 (a := { a with op := op0 }) hS h hn ho c1 c2 c3 c4 (OpR.noFrz hop hr) hk

theorem ops_sound (hS : Callable S) {ops : Array Oper} {draw : Bool} {Q : Exit → Act → World → Prop} (L : List Nat) (la : List AOper) {st : ASt} {A : Nat → Prop} {σ : Nat → Option Nat} {w : World} {tm : Array Value} (hm : Match S nt draw ops L la) (hr : OpsR (realRets S) false la st st') (h : SRel S A0 O w0 A σ w st tm) (hn : tm.size = nt)
    (hq : ∀ w' A' σ' tm', SRel S A0 O w0 A' σ' w' st' tm' → tm'.size = nt → Q .normal ⟨tm', df⟩ w') : wpOps S.P ops Q L ⟨tm, df⟩ w := by
  induction hr generalizing L A σ w tm with
  | nil st =>
    cases L with
    | nil => exact hq w A σ tm h hn
    | cons i L => exact hm.elim
  | cv hq0 hcv hr ih =>
    obtain ⟨A', σ', h'⟩ := hcv A0 O w0 A σ w tm h
    exact ih L hm h' hn hq
  | cons h1 h2 ih =>
    cases L with
    | nil => exact hm.elim
    | cons i L =>
      obtain ⟨⟨o, ho, hc⟩, hm'⟩ := hm
      rw [wpOps_cons]
      exact oper_sound hS h hn ho hc h1 fun w' A' σ' tm' k1 k2 => ih L hm' k1 k2 hq

theorem match_range {ops : Array Oper} {draw : Bool} : ∀ (n k : Nat) (la : List AOper), k + n = ops.size → optAll (cOper S nt ops draw) (ops.toList.drop k) = some la → Match S nt draw ops (List.range' k n) la
  | 0, k, la, hk, h => by
    rw [List.drop_eq_nil_of_le (by simp; omega)] at h
    simp only [optAll, Option.some.injEq] at h
    subst h
    simp [List.range', Match]
  | n + 1, k, la, hk, h => by
    have hlt : k < ops.toList.length := by simp; omega
    rw [List.drop_eq_getElem_cons hlt] at h
    simp only [optAll] at h
    split at h
    · rename_i a la' ha hla
      cases h
      rw [List.range'_succ]
      exact ⟨⟨ops[k]'(by simpa using hlt), by simp, by simpa using ha⟩, match_range n (k + 1) la' (by omega) hla⟩
    · cases h

/-- Code without a drawn order. -/
def noDraw : ACode → Bool
  | .region _ d => !d
  | .seq a b => noDraw a && noDraw b
  | .cond _ a b => noDraw a && noDraw b
  | .block _ b => noDraw b
  | .loop b => noDraw b
  | _ => true

def LoopWp (P : Program) (c : Code) (Q : Exit → Act → World → Prop) (a : Act) (w : World) : Prop :=
  ∀ (b : Frame) (k : List Item) (cs : List Frame), ∃ e a' w', Q e a' w' ∧ Arrives P (lone (b.at a (.code c :: .inLoop c :: k)) cs w) b k cs e a' w'
def Stm (P : Program) (c : Code) (Q : Exit → Act → World → Prop) (a : Act) (w : World) : Prop :=
  match c with
  | .loop b => LoopWp P b Q a w
  | c => c.wp P Q a w
theorem Stm.wp {P : Program} {c : Code} {Q : Exit → Act → World → Prop} {a : Act} {w : World} (h : Stm P c Q a w) : c.wp P Q a w := by
  cases c with
  | loop b =>
    intro fr k cs
    obtain ⟨e, a', w', hq, harr⟩ := h fr k cs
    exact ⟨e, a', w', hq, .of_steps (.one step_loop) harr⟩
  | _ => exact h
theorem Stm.of {P : Program} {c : Code} {Q : Exit → Act → World → Prop} {a : Act} {w : World} (hl : ∀ b, c ≠ .loop b) (h : c.wp P Q a w) : Stm P c Q a w := by
  cases c with
  | loop b => exact absurd rfl (hl b)
  | _ => exact h

/-- A drawn region, too, is as its operations in the text's order. -/
def DrawOk (S : Seat) : Prop := ∀ (A0 O : Nat → Prop) (w0 : World) (nt : Nat) (ops : Array Oper) (la : List AOper) (id : Nat) (st st' : ASt) (A : Nat → Prop) (σ : Nat → Option Nat) (w : World) (tm : Array Value) (Q : Exit → Act → World → Prop),
  optAll (cOper S nt ops true) ops.toList = some la → la.all dstOk = true → S.P.follows .mixedOrders = true → drawChk la = true → OpsR (realRets S) true la st st' → SRel S A0 O w0 A σ w st tm → tm.size = nt →
  (∀ w' A' σ' tm', SRel S A0 O w0 A' σ' w' st' tm' → tm'.size = nt → Q .normal ⟨tm', []⟩ w') → (Code.region id ops true).wp S.P Q ⟨tm, []⟩ w

theorem Stm.mono {P : Program} {c : Code} {Q Q' : Exit → Act → World → Prop} {a : Act} {w : World} (h : Stm P c Q a w) (hq : ∀ e a w, Q e a w → Q' e a w) : Stm P c Q' a w := by
  cases c with
  | loop b =>
    intro fr k cs
    obtain ⟨e, a', w', h1, h2⟩ := h fr k cs
    exact ⟨e, a', w', hq _ _ _ h1, h2⟩
  | _ => exact wp_mono h hq

theorem code_sound (hS : Callable S) {c : ACode} {e : AExit} (hex : Ex (realRets S) c st e st') (hD : noDraw c = true ∨ DrawOk S) : ∀ {rc : Code}, cCode S nt rc = some c → ∀ {A : Nat → Prop} {σ : Nat → Option Nat} {w : World} {tm : Array Value},
    SRel S A0 O w0 A σ w st tm → tm.size = nt → Stm S.P rc (Post S A0 O w0 nt e st') ⟨tm, []⟩ w := by
  induction hex with
  | skip st =>
    intro rc hc A σ w tm h hn
    cases rc <;> simp [cCode] at hc
    case skip => exact wp_skip ⟨rfl, rfl, hn, A, σ, h⟩
    case region => split at hc <;> simp at hc
    all_goals (first | (split at hc <;> simp at hc; done) | skip)
  | @region ops dr st st' hr =>
    intro rc hc A σ w tm h hn
    cases rc <;> simp only [cCode, Option.map_eq_some_iff, reduceCtorEq, and_false, exists_false, Option.some.injEq] at hc
    case region id rops rdr =>
      split at hc
      · rename_i l' hl
        split at hc
        · rename_i hok
          cases hc
          cases dr with
          | false =>
            refine wp_region ?_
            have hm := match_range (S := S) (nt := nt) (ops := rops) (draw := false) rops.size 0 ops (by simp) (by simpa using hl)
            rw [List.range_eq_range']
            exact ops_sound hS _ _ hm hr h hn fun w' A' σ' tm' k1 k2 => ⟨rfl, rfl, k2, A', σ', k1⟩
          | true =>
            rcases hD with hD | hD
            · simp [noDraw] at hD
            · exact hD A0 O w0 nt rops ops id _ _ A σ w tm _ hl hok.1 (hok.2.resolve_left (by simp)).1 (hok.2.resolve_left (by simp)).2 hr h hn fun w' A' σ' tm' k1 k2 => ⟨rfl, rfl, k2, A', σ', k1⟩
        · cases hc
      · cases hc
    all_goals (split at hc <;> simp at hc)
  | @seqN a b st st1 st2 e h1 h2 ih1 ih2 =>
    intro rc hc A σ w tm h hn
    cases rc <;> simp only [cCode, Option.map_eq_some_iff, reduceCtorEq, and_false, exists_false, Option.some.injEq] at hc
    case seq x y =>
      split at hc
      · rename_i a' b' ha hb
        cases hc
        have hD1 : noDraw a = true ∨ DrawOk S := hD.imp (fun h => by simp [noDraw] at h; exact h.1) id
        have hD2 : noDraw b = true ∨ DrawOk S := hD.imp (fun h => by simp [noDraw] at h; exact h.2) id
        refine wp_seq (wp_mono (Stm.wp (ih1 hD1 ha h hn)) fun ex a' w' ⟨q1, q2, q3, A', σ', q4⟩ => ?_)
        obtain ⟨tm', df'⟩ := a'
        simp only at q2 q3 q4
        subst q1
        subst q2
        exact Stm.wp (ih2 hD2 hb q4 q3)
      · cases hc
    all_goals (split at hc <;> (try split at hc) <;> simp at hc)
  | @seqE a b st st1 e h1 hne ih1 =>
    intro rc hc A σ w tm h hn
    cases rc <;> simp only [cCode, Option.map_eq_some_iff, reduceCtorEq, and_false, exists_false, Option.some.injEq] at hc
    case seq x y =>
      split at hc
      · rename_i a' b' ha hb
        cases hc
        have hD1 : noDraw a = true ∨ DrawOk S := hD.imp (fun h => by simp [noDraw] at h; exact h.1) id
        refine wp_seq (wp_mono (Stm.wp (ih1 hD1 ha h hn)) fun ex a' w' hq => ?_)
        obtain ⟨q1, q2⟩ := hq
        subst q1
        cases e with
        | norm => exact absurd rfl hne
        | exit i => exact ⟨rfl, q2⟩
        | ret => exact ⟨rfl, q2⟩
      · cases hc
    all_goals (split at hc <;> (try split at hc) <;> simp at hc)
  | @cond c a b st st' e t hcond h1 ih1 =>
    intro rc hc A σ w tm h hn
    cases rc <;> simp only [cCode, Option.map_eq_some_iff, reduceCtorEq, and_false, exists_false, Option.some.injEq] at hc
    case cond x y z =>
      split at hc
      · rename_i c' a' b' hx ha hb
        cases hc
        have g := h.ev (df := []) hx
        rw [hcond] at g
        have hv := g.rel.v_inv
        cases t with
        | true =>
          have hD1 : noDraw a = true ∨ DrawOk S := hD.imp (fun h => by simp [noDraw] at h; exact h.1) id
          exact wp_cond_true hv (Stm.wp (ih1 hD1 ha h hn))
        | false =>
          have hD1 : noDraw b = true ∨ DrawOk S := hD.imp (fun h => by simp [noDraw] at h; exact h.2) id
          exact wp_cond_false hv (Stm.wp (ih1 hD1 hb h hn))
      · cases hc
    all_goals (split at hc <;> (try split at hc) <;> simp at hc)
  | @blockX i b st st' h1 ih1 =>
    intro rc hc A σ w tm h hn
    cases rc <;> simp only [cCode, Option.map_eq_some_iff, reduceCtorEq, and_false, exists_false, Option.some.injEq] at hc
    case block i' x =>
      obtain ⟨b', hb, he⟩ := hc
      cases he
      have hD1 : noDraw b = true ∨ DrawOk S := hD.imp (fun h => by simpa [noDraw] using h) id
      refine wp_block (wp_mono (Stm.wp (ih1 hD1 hb h hn)) fun ex a' w' ⟨q1, q2⟩ => ?_)
      subst q1
      simp only [exOf, Exit.inBlock, if_true]
      exact ⟨rfl, q2⟩
    all_goals (split at hc <;> (try split at hc) <;> simp at hc)
  | @blockO i b st st' e h1 hne ih1 =>
    intro rc hc A σ w tm h hn
    cases rc <;> simp only [cCode, Option.map_eq_some_iff, reduceCtorEq, and_false, exists_false, Option.some.injEq] at hc
    case block i' x =>
      obtain ⟨b', hb, he⟩ := hc
      cases he
      have hD1 : noDraw b = true ∨ DrawOk S := hD.imp (fun h => by simpa [noDraw] using h) id
      refine wp_block (wp_mono (Stm.wp (ih1 hD1 hb h hn)) fun ex a' w' ⟨q1, q2⟩ => ?_)
      subst q1
      cases e with
      | norm => exact ⟨rfl, q2⟩
      | exit j =>
        have : j ≠ i := fun e => hne (by rw [e])
        simp only [exOf, Exit.inBlock, if_neg this]
        exact ⟨rfl, q2⟩
      | ret => exact ⟨rfl, q2⟩
    all_goals (split at hc <;> (try split at hc) <;> simp at hc)
  | @loopN b st st1 st2 e h1 h2 ih1 ih2 =>
    intro rc hc A σ w tm h hn
    cases rc <;> simp only [cCode, Option.map_eq_some_iff, reduceCtorEq, and_false, exists_false, Option.some.injEq] at hc
    case loop x =>
      obtain ⟨b', hb, he⟩ := hc
      cases he
      have hD1 : noDraw b = true ∨ DrawOk S := hD.imp (fun h => by simpa [noDraw] using h) id
      intro fr k cs
      obtain ⟨ex, a', w', ⟨q1, q2, q3, A', σ', q4⟩, harr⟩ := Stm.wp (ih1 hD1 hb h hn) fr (.inLoop x :: k) cs
      obtain ⟨tm', df'⟩ := a'
      simp only at q2 q3 q4
      subst q1
      subst q2
      have hl : Stm S.P (.loop x) _ ⟨tm', []⟩ w' := ih2 hD (rc := .loop x) (by simp [cCode, hb]) q4 q3
      obtain ⟨e2, a2, w2, hq2, harr2⟩ := hl fr k cs
      exact ⟨e2, a2, w2, hq2, .of_steps (Steps.trans harr (.one step_inLoop)) harr2⟩
    all_goals (split at hc <;> (try split at hc) <;> simp at hc)
  | @loopE b st st1 e h1 hne ih1 =>
    intro rc hc A σ w tm h hn
    cases rc <;> simp only [cCode, Option.map_eq_some_iff, reduceCtorEq, and_false, exists_false, Option.some.injEq] at hc
    case loop x =>
      obtain ⟨b', hb, he⟩ := hc
      cases he
      have hD1 : noDraw b = true ∨ DrawOk S := hD.imp (fun h => by simpa [noDraw] using h) id
      intro fr k cs
      obtain ⟨ex, a', w', hq, harr⟩ := Stm.wp (ih1 hD1 hb h hn) fr (.inLoop x :: k) cs
      obtain ⟨q1, q2⟩ := hq
      subst q1
      cases e with
      | norm => exact absurd rfl hne
      | exit j => exact ⟨_, a', w', ⟨rfl, q2⟩, .pass (x := .inLoop x) rfl (fun _ _ => .inl (by simp [exOf])) harr⟩
      | ret => exact ⟨_, a', w', ⟨rfl, q2⟩, .pass (x := .inLoop x) rfl (fun _ _ => .inl (by simp [exOf])) harr⟩
    all_goals (split at hc <;> (try split at hc) <;> simp at hc)
  | exit id st =>
    intro rc hc A σ w tm h hn
    cases rc <;> simp only [cCode, Option.map_eq_some_iff, reduceCtorEq, and_false, exists_false, Option.some.injEq] at hc
    case exit i => cases hc; exact wp_exit ⟨rfl, rfl, hn, A, σ, h⟩
    all_goals (split at hc <;> (try split at hc) <;> simp at hc)
  | ret st =>
    intro rc hc A σ w tm h hn
    cases rc <;> simp only [cCode, Option.map_eq_some_iff, reduceCtorEq, and_false, exists_false, Option.some.injEq] at hc
    case ret => exact wp_ret ⟨rfl, rfl, hn, A, σ, h⟩
    all_goals (split at hc <;> (try split at hc) <;> simp at hc)
  | cv hcv h1 ih1 =>
    intro rc hc A σ w tm h hn
    obtain ⟨A', σ', h'⟩ := hcv A0 O w0 A σ w tm h
    exact ih1 hD hc h' hn
  | cvR h1 hcv ih1 =>
    intro rc hc A σ w tm h hn
    refine (ih1 hD hc h hn).mono ?_
    rintro ex a w' ⟨q1, q2, q3, A', σ', q4⟩
    obtain ⟨A2, σ2, h'⟩ := hcv A0 O w0 A' σ' w' _ q4
    exact ⟨q1, q2, q3, A2, σ2, h'⟩
end
end Ab
