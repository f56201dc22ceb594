/-
  Code of the abstract machine is code of the real one; functions.
-/
import Derived.Test.YtkedlclobjhkfaaDoorAbP
namespace Ab
open Go Go.RowKit
set_option linter.unusedVariables false
set_option linter.unusedSimpArgs false
set_option linter.unnecessarySimpa false

def exOf : AExit → Exit
  | .norm => .normal
  | .exit id => .exit id
  | .ret => .ret

/-- What holds behind a piece of code. -/
def Post (S : Seat) (A0 O : Nat → Prop) (w0 : World) (nt : Nat) (e : AExit) (st' : ASt) : Exit → Act → World → Prop :=
  fun ex a w' => ex = exOf e ∧ a.defers = [] ∧ a.tmps.size = nt ∧ ∃ A' σ', SRel S A0 O w0 A' σ' w' st' a.tmps

section
variable {S : Seat} {A0 O : Nat → Prop} {w0 : World} {A : Nat → Prop} {σ : Nat → Option Nat} {w : World} {st st' : ASt} {tm : Array Value} {df : List Deferred} {o : Oper} {v : AV} {d : Nat} {nt : Nat}

theorem cOper_some {ops : Array Oper} {draw : Bool} {o : Oper} {a : AOper} (h : cOper S nt ops draw o = some a) : (∃ op0, cOp S o.op o.type = some op0 ∧ (a.op = op0 ∨ a.op = noFrz op0)) ∧ a.dst = o.dst ∧ (∀ d, o.dst = some d → d < nt ∧ d < 1000) ∧
    (match o.guard with | none => a.grd = none | some (j, want) => ∃ t, (ops[j]?).bind (·.dst) = some t ∧ a.grd = some (t, want)) := by
  unfold cOper at h
  split at h
  · rename_i op g h1 h2
    split at h
    · rename_i hd
      cases h
      refine ⟨⟨op, h1, by cases draw <;> simp⟩, rfl, fun d hd' => ?_, ?_⟩
      · rw [hd'] at hd
        simpa [dstB] using hd
      · split at h2
        · rename_i hg; cases h2; rw [hg]
        · rename_i j want hg
          rw [hg]
          simp only [Option.map_eq_some_iff] at h2
          obtain ⟨t, h3, rfl⟩ := h2
          exact ⟨t, h3, rfl⟩
    · cases h
  · cases h

def isCall : AOp → Bool
  | .call _ _ _ _ | .calld _ _ _ => true
  | _ => false
theorem cBin_nc {op : BinOp} {t : TypeId} {x y : Operand} {a : AOp} (h : cBin S op t x y = some a) : isCall a = false := by
  unfold cBin at h
  repeat' split at h
  all_goals (first | (cases h; rfl) | cases h)
theorem cConv_nc {s t : TypeId} {x : Operand} {a : AOp} (h : cConv S s t x = some a) : isCall a = false := by
  unfold cConv at h
  repeat' split at h
  all_goals (first | (cases h; rfl) | cases h)
theorem map_nc {α : Type} {x : Option α} {f : α → AOp} {a : AOp} (h : x.map f = some a) (hf : ∀ y, isCall (f y) = false) : isCall a = false := by
  simp only [Option.map_eq_some_iff] at h
  obtain ⟨y, _, rfl⟩ := h
  exact hf y
theorem cOp_call {o : Op} {ty : TypeId} {a : AOp} (h : cOp S o ty = some a) (ha : isCall a = true) : ∃ c, o = .call c ∧ cCall S c ty = some a := by
  have no : isCall a = false → ∃ c, o = .call c ∧ cCall S c ty = some a := fun h => by rw [ha] at h; cases h
  unfold cOp at h
  split at h
  case h_23 => exact ⟨_, rfl, h⟩
  all_goals apply no
  all_goals first
    | exact cBin_nc h
    | exact cConv_nc h
    | exact map_nc h fun _ => rfl
    | ((repeat' split at h) <;> (first | (cases h; rfl) | cases h | exact map_nc h fun _ => rfl))

/-- A call's value, and its operands. -/
theorem step_call (hS : Callable S) (h : SRel S A0 O w0 A σ w st tm) {a : AOp} (hc : cOp S o.op o.type = some a) (hs : StepR (realRets S) false a d st v st') {next : Act → World → Prop} {Q : Exit → Act → World → Prop}
    (hn : ∀ w' A' σ' rv, SRel S A0 O w0 A' σ' w' st' tm → (Got S A' σ' w' st' v rv ∨ (v = .bot ∧ rv = undef)) → next (Act.put ⟨tm, df⟩ o.dst rv) w') : o.wp S.P ⟨tm, df⟩ w next Q := by
  -- a call of function g
  have call : ∀ (g f : Nat) (frz : Bool) (args : List AV) (vs : Array Value), assoc g S.fns = some f → (execOp (Act.eval ⟨tm, df⟩) o).run S.P w = .ok (.enter g vs) w → vs.size = args.length → (∀ (i : Nat) (x : AV), args[i]? = some x → Got S A σ w st x (vs.getD i undef)) →
      CallR (realRets S) frz [] f args d st v st' → o.wp S.P ⟨tm, df⟩ w next Q := by
    intro g f frz args vs hf hr hl hg hcr
    unfold Oper.wp
    rw [hr, Oper.upon_enter]
    refine (callR_sound h hl hg hf hcr).mono fun e w' ⟨rv, A', σ', he, k1, k2⟩ => ?_
    subst he
    exact hn w' A' σ' rv k1 (.inl k2)
  have other : aop a d st = some (v, st') → o.wp S.P ⟨tm, df⟩ w next Q := by
    intro ha
    obtain ⟨n, w', A', σ', hr, k1, k2⟩ := op_all (df := df) h hc ha
    unfold Oper.wp
    rw [hr]
    rcases k2 with ⟨rv, rfl, k2⟩ | ⟨rfl, k2⟩
    · exact hn w' A' σ' rv k1 (.inl k2)
    · exact hn w' A' σ' undef k1 (.inr ⟨k2, rfl⟩)
  cases a with
  | call frz muts f as =>
    simp only [StepR, Bool.false_eq_true, if_false] at hs
    obtain ⟨c, ho, hc⟩ := cOp_call hc rfl
    obtain ⟨callee, args, tys⟩ := c
    unfold cCall at hc
    split at hc
    · rename_i g hcal
      simp only at hcal
      subst hcal
      split at hc
      · rename_i id xs hid hxs
        split at hc
        · cases hc
          obtain ⟨e1, e2⟩ := h.evs (df := df) hxs
          refine call g f _ (as.map st.ev) (args.map (Act.eval ⟨tm, df⟩)) hid ?_ (by simp at e1 ⊢; omega) (fun i x hx => ?_) hs
          · have := run_callFunc hS hid (args.map (Act.eval ⟨tm, df⟩)) w
            have e0 : Act.eval ⟨tm, df⟩ (.func g) = .func (.func g) #[] #[] := rfl
            simp [execOp, ho, resolve, Deferred.ofValue, invoke, e0, this]
          · have := e2 i x hx
            simpa [Array.getD_eq_getD_getElem?, List.getD] using this
        · cases hc
      · cases hc
    all_goals (repeat' (split at hc)) <;> (first | cases hc | (simp at hc; done))
  | calld frz x as =>
    simp only [StepR, Bool.false_eq_true, if_false] at hs
    obtain ⟨c, ho, hc⟩ := cOp_call hc rfl
    obtain ⟨callee, args, tys⟩ := c
    unfold cCall at hc
    split at hc
    · (repeat' (split at hc)) <;> (first | cases hc | (simp at hc; done))
    · rename_i t hcal
      simp only at hcal
      subst hcal
      split at hc
      · rename_i xs hxs
        cases hc
        split at hs
        · rename_i f caps hev
          obtain ⟨e1, e2⟩ := h.evs (df := df) hxs
          have gt := h.ev (df := df) (x := .tmp t) (a := .t t) rfl
          rw [hev] at gt
          obtain ⟨g, us, hv, hid, u1, u2⟩ := gt.rel.fn_inv
          refine call g f _ (as.map st.ev ++ caps) (args.map (Act.eval ⟨tm, df⟩) ++ us) hid ?_ (by simp at e1 ⊢; omega) (fun i x hx => ?_) hs
          · have := run_callFunc hS hid (args.map (Act.eval ⟨tm, df⟩) ++ us) w
            simp [execOp, ho, resolve, Deferred.ofValue, invoke, hv, this]
          · have hsz : (args.map (Act.eval ⟨tm, df⟩)).size = (as.map st.ev).length := by simp at e1 ⊢; omega
            by_cases hlt : i < (as.map st.ev).length
            · rw [List.getElem?_append_left hlt] at hx
              have := e2 i x hx
              have e3 : (args.map (Act.eval ⟨tm, df⟩) ++ us).getD i undef = (args.toList.map (Act.eval ⟨tm, df⟩)).getD i undef := by
                rw [Array.getD_eq_getD_getElem?, Array.getElem?_append_left (by omega)]
                simp [List.getD]
              rw [e3]; exact this
            · rw [List.getElem?_append_right (by omega)] at hx
              have e3 : (args.map (Act.eval ⟨tm, df⟩) ++ us).getD i undef = us.getD (i - (as.map st.ev).length) undef := by
                rw [Array.getD_eq_getD_getElem?, Array.getElem?_append_right (by omega), hsz, Array.getD_eq_getD_getElem?]
              rw [e3]
              exact ⟨u2 _ x hx, fun s hs' => gt.dang s (by rw [AV.refs]; exact mem_refsL.2 ⟨x, List.mem_of_getElem? hx, hs'⟩)⟩
        · exact hs.elim
      · cases hc
    all_goals (repeat' (split at hc)) <;> (first | cases hc | (simp at hc; done))
  | _ => exact other hs
end
end Ab
