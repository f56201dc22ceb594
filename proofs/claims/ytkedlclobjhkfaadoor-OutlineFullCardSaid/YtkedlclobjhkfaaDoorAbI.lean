/-
  Operations that compute or read, the last part; and what a new block of memory turns.
-/
import Derived.Test.YtkedlclobjhkfaaDoorAbH
import Derived.Laws.Tables
import Derived.Great.BuildSlice
namespace Ab
open Go Go.RowKit

section
variable {S : Seat} {A0 O : Nat → Prop} {w0 : World} {A : Nat → Prop} {σ : Nat → Option Nat} {w : World} {st st' : ASt} {tm : Array Value} {df : List Deferred} {o : Oper} {v : AV} {d : Nat}

theorem nilIf_inv {x : Operand} (h : nilIf x = true) : x = .const .nilIface := by
  unfold nilIf at h
  split at h
  · rfl
  · cases h

theorem run_eqIface {P : Program} {t : TypeId} {ms : Array (String × TypeId)} (hu : P.underlying t = some (.interface ms)) (w : World) :
    (Op.equal t .nilIface .nilIface).run P w = .ok true w ∧ (∀ T v, (Op.equal t (.iface T v) .nilIface).run P w = .ok false w) ∧ (∀ T v, (Op.equal t .nilIface (.iface T v)).run P w = .ok false w) := by
  have e1 : ∀ dd, (Op.equalIn (dd + 1) t .nilIface .nilIface).run P w = .ok true w := fun dd => by simp [Op.equalIn, run_underlying hu]
  have e2 : ∀ dd T v, (Op.equalIn (dd + 1) t (.iface T v) .nilIface).run P w = .ok false w := fun dd T v => by simp [Op.equalIn, run_underlying hu]
  have e3 : ∀ dd T v, (Op.equalIn (dd + 1) t .nilIface (.iface T v)).run P w = .ok false w := fun dd T v => by simp [Op.equalIn, run_underlying hu]
  exact ⟨e1 9999, e2 9999, e3 9999⟩

/-- An interface value held against nil. -/
theorem op_eqnI (h : SRel S A0 O w0 A σ w st tm) {neg : Bool} {t u : TypeId} {ms : Array (String × TypeId)} {x y z : Operand} {z' : AOpd} (ho : o.op = .binOp (if neg then .neq else .eql) t x y u) (hu : S.P.underlying t = some (.interface ms))
    (hz : (z = x ∧ nilIf y = true) ∨ (z = y ∧ nilIf x = true)) (h1 : cOpd S z = some z') (ha : aop (.eqn false neg z') d st = some (v, st')) : OpOk S A0 O w0 w tm df o v st' := by
  have g1 := h.ev (df := df) h1
  obtain ⟨k1, k2, k3⟩ := run_eqIface hu w
  have key : ∀ b : Bool, ((Act.eval ⟨tm, df⟩ z = .nilIface ∧ b = true) ∨ ((∃ T v, Act.eval ⟨tm, df⟩ z = .iface T v) ∧ b = false)) →
      (execOp (Act.eval ⟨tm, df⟩) o).run S.P w = .ok (.value (.bool (if neg then !b else b))) w := by
    intro b hb
    have ek : Act.eval ⟨tm, df⟩ (.const .nilIface) = .nilIface := rfl
    rcases hz with ⟨rfl, hy⟩ | ⟨rfl, hx⟩
    · obtain rfl := nilIf_inv hy
      rcases hb with ⟨hb, rfl⟩ | ⟨⟨T, v, hb⟩, rfl⟩
      · cases neg <;> simp [execOp, ho, hb, ek, eqGuard_nil_constR, binOp, k1]
      · cases neg <;> simp [execOp, ho, hb, ek, eqGuard_at_iface, binOp, k2]
    · obtain rfl := nilIf_inv hx
      rcases hb with ⟨hb, rfl⟩ | ⟨⟨T, v, hb⟩, rfl⟩
      · cases neg <;> simp [execOp, ho, hb, ek, eqGuard_nil_constL, binOp, k1]
      · cases neg <;> simp [execOp, ho, hb, ek, eqGuard_nil_iface, binOp, k3]
  simp only [aop, Bool.false_eq_true, if_false] at ha
  split at ha
  · rename_i he
    rw [he] at g1
    simp only [Option.some.injEq, Prod.mk.injEq] at ha; obtain ⟨rfl, rfl⟩ := ha
    exact .same h (rv := .bool (!neg)) (by rw [key true (.inl ⟨g1.rel.v_inv, rfl⟩)]; cases neg <;> rfl) (gotV _)
  · rename_i k x1 he
    rw [he] at g1
    obtain ⟨T, v', e, _⟩ := g1.rel.ifc_inv
    simp only [Option.some.injEq, Prod.mk.injEq] at ha; obtain ⟨rfl, rfl⟩ := ha
    exact .same h (rv := .bool neg) (by rw [key false (.inr ⟨⟨T, v', e⟩, rfl⟩)]; cases neg <;> rfl) (gotV _)
  · rename_i k x1 he
    rw [he] at g1
    simp only [Option.some.injEq, Prod.mk.injEq] at ha; obtain ⟨rfl, rfl⟩ := ha
    exact .same h (rv := .bool neg) (by rw [key false (.inr ⟨⟨_, _, g1.rel.v_inv⟩, rfl⟩)]; cases neg <;> rfl) (gotV _)
  · cases ha

theorem op_eqnS (h : SRel S A0 O w0 A σ w st tm) {neg : Bool} {t u e : TypeId} {x : Operand} {x' : AOpd} (ho : o.op = .binOp (if neg then .neq else .eql) t x (.const (.slice none 0 0)) u) (hu : S.P.underlying t = some (.slice e))
    (h1 : cOpd S x = some x') (ha : aop (.eqn true neg x') d st = some (v, st')) : OpOk S A0 O w0 w tm df o v st' := by
  have g1 := h.ev (df := df) h1
  have k : ∀ b n c, (Op.equal t (.slice b n c) (.slice none 0 0)).run S.P w = .ok b.isNone w := by
    intro b n c
    have e1 : ∀ dd, (Op.equalIn (dd + 1) t (.slice b n c) (.slice none 0 0)).run S.P w = .ok b.isNone w := fun dd => by cases b <;> simp [Op.equalIn, run_underlying hu]
    exact e1 9999
  have key : ∀ b n c, Act.eval ⟨tm, df⟩ x = .slice b n c → (execOp (Act.eval ⟨tm, df⟩) o).run S.P w = .ok (.value (.bool (if neg then !b.isNone else b.isNone))) w := by
    intro b n c hb
    have e2 : Act.eval ⟨tm, df⟩ (.const (.slice none 0 0)) = .slice none 0 0 := rfl
    cases neg <;> simp [execOp, ho, hb, e2, eqGuard_at_slice, binOp, k]
  simp only [aop, if_true] at ha
  split at ha
  · rename_i he
    rw [he] at g1
    simp only [Option.some.injEq, Prod.mk.injEq] at ha; obtain ⟨rfl, rfl⟩ := ha
    exact .same h (rv := .bool (!neg)) (by rw [key _ _ _ g1.rel.v_inv]; cases neg <;> rfl) (gotV _)
  · rename_i z e1 es he
    rw [he] at g1
    simp only [Option.some.injEq, Prod.mk.injEq] at ha; obtain ⟨rfl, rfl⟩ := ha
    rcases g1.rel.sl_inv with ⟨hf, _⟩ | ⟨b, o', cap, u, e1, _⟩ | ⟨hf, _⟩
    · cases hf
    · exact .same h (rv := .bool neg) (by rw [key _ _ _ e1]; cases neg <;> rfl) (gotV _)
    · cases hf
  · cases ha

def scTy (P : Program) (t : TypeId) : Sc → Prop
  | .int => ∃ k, P.underlying t = some (.int k)
  | .bool => P.underlying t = some .bool
  | .str => P.underlying t = some .string

theorem scEq_int {x y : AV} {r : Bool} (h : scEq .int x y = some r) : ∃ k a b, x = .v (.int k a) ∧ y = .v (.int k b) ∧ r = decide (a = b) := by
  unfold scEq at h
  split at h
  · rename_i k a k' b _
    split at h
    · rename_i hk; subst hk; cases h; exact ⟨_, _, _, rfl, rfl, rfl⟩
    · cases h
  · rename_i hh; cases hh
  · rename_i hh; cases hh
  · cases h
theorem scEq_bool {x y : AV} {r : Bool} (h : scEq .bool x y = some r) : ∃ a b, x = .v (.bool a) ∧ y = .v (.bool b) ∧ r = decide (a = b) := by
  unfold scEq at h
  split at h
  · rename_i hh; cases hh
  · cases h; exact ⟨_, _, rfl, rfl, rfl⟩
  · rename_i hh; cases hh
  · cases h
theorem scEq_str {x y : AV} {r : Bool} (h : scEq .str x y = some r) : ∃ a b, x = .v (.string a) ∧ y = .v (.string b) ∧ r = decide (a = b) := by
  unfold scEq at h
  split at h
  · rename_i hh; cases hh
  · rename_i hh; cases hh
  · cases h; exact ⟨_, _, rfl, rfl, rfl⟩
  · cases h

theorem scEq_run {P : Program} {s : Sc} {t : TypeId} {x y : AV} {a b : Value} {r : Bool} (h : scEq s x y = some r) (ha : VR S A σ w x a) (hb : VR S A σ w y b) (ht : scTy P t s) (dd : Nat) (w1 : World) :
    (Op.equalIn (dd + 1) t a b).run P w1 = .ok r w1 := by
  cases s with
  | int =>
    obtain ⟨k, n, m, rfl, rfl, rfl⟩ := scEq_int h
    obtain ⟨k', ht⟩ := ht
    rw [ha.v_inv, hb.v_inv, run_equalIn_int w1 dd t _ k' _ _ ht]
    by_cases he : n = m <;> simp [he]
  | bool =>
    obtain ⟨n, m, rfl, rfl, rfl⟩ := scEq_bool h
    rw [ha.v_inv, hb.v_inv, run_equalIn_bool' w1 dd t _ _ ht]
    cases n <;> cases m <;> rfl
  | str =>
    obtain ⟨n, m, rfl, rfl, rfl⟩ := scEq_str h
    rw [ha.v_inv, hb.v_inv, run_equalIn_string w1 dd t _ _ ht, beqBytes]

theorem eqAll_run {P : Program} {cs ds : List AV} {xs ys : Array Value} (hx : cs.length = xs.size) (hy : ds.length = ys.size)
    (h1 : ∀ (i : Nat) (x : AV), cs[i]? = some x → VR S A σ w x (xs.getD i undef)) (h2 : ∀ (i : Nat) (x : AV), ds[i]? = some x → VR S A σ w x (ys.getD i undef)) (dd : Nat) (w1 : World) :
    ∀ (fs : List Field) (l : List (Nat × Sc)) (r : Bool), cShape P fs = some l → eqAll cs ds l = some r → (Op.eqFields (dd + 1) xs ys fs).run P w1 = .ok r w1
  | [], l, r, hl, hr => by
    simp only [cShape, Option.some.injEq] at hl; subst hl
    simp only [eqAll, Option.some.injEq] at hr; subst hr
    simp [Op.eqFields]
  | f :: fs, l, r, hl, hr => by
    simp only [cShape] at hl
    split at hl
    · cases hl
    · rename_i hn
      have step : ∀ (s : Sc) (l' : List (Nat × Sc)), cShape P fs = some l' → l = (f.offset, s) :: l' →
          scTy P f.type s → (Op.eqFields (dd + 1) xs ys (f :: fs)).run P w1 = .ok r w1 := by
        intro s l' hl' hle ht
        subst hle
        simp only [eqAll] at hr
        split at hr
        · rename_i x y ex ey
          split at hr
          · rename_i a b ha hb
            cases hr
            have hi : f.offset < xs.size := by have := (List.getElem?_eq_some_iff.1 ex).1; omega
            have hj : f.offset < ys.size := by have := (List.getElem?_eq_some_iff.1 ey).1; omega
            have ih := eqAll_run hx hy h1 h2 dd w1 fs l' b hl' hb
            have ks := scEq_run (P := P) (t := f.type) ha (h1 _ _ ex) (h2 _ _ ey) ht dd w1
            have hagg : (isAgg f.type).run P w1 = .ok false w1 := by
              unfold isAgg
              cases s with
              | int => obtain ⟨k, ht⟩ := ht; rw [Sem.run_bind, run_underlying ht]; rfl
              | bool => rw [Sem.run_bind, run_underlying ht]; rfl
              | str => rw [Sem.run_bind, run_underlying ht]; rfl
            have p1 : (part f.type xs f.offset).run P w1 = .ok (xs.getD f.offset undef) w1 := by simp [part, hagg, Array.getD, hi]
            have p2 : (part f.type ys f.offset).run P w1 = .ok (ys.getD f.offset undef) w1 := by simp [part, hagg, Array.getD, hj]
            simp only [Op.eqFields, ne_eq, hn, not_false_eq_true, if_true, Sem.run_bind, p1, p2, ks, Result.andThen_ok]
            cases a <;> simp [ih]
          · cases hr
        · cases hr
      split at hl
      · rename_i k l' hu hl'; cases hl; exact step .int l' hl' rfl ⟨k, hu⟩
      · rename_i l' hu hl'; cases hl; exact step .bool l' hl' rfl hu
      · rename_i l' hu hl'; cases hl; exact step .str l' hl' rfl hu
      · cases hl

theorem op_eqa (h : SRel S A0 O w0 A σ w st tm) {neg : Bool} {t u : TypeId} {fs : Array Field} {l : List (Nat × Sc)} {x y : Operand} {x' y' : AOpd} (ho : o.op = .binOp (if neg then .neq else .eql) t x y u) (hu : S.P.underlying t = some (.struct fs))
    (hg : S.P.eqGuardType S.P.depth t = false) (hs : S.P.stoodInHeld t = false) (hl : cShape S.P fs.toList = some l) (h1 : cOpd S x = some x') (h2 : cOpd S y = some y') (ha : aop (.eqa neg l x' y') d st = some (v, st')) : OpOk S A0 O w0 w tm df o v st' := by
  have g1 := h.ev (df := df) h1
  have g2 := h.ev (df := df) h2
  have hf : S.P.fieldsOf t = fs := by simp [Program.fieldsOf, hu]
  simp only [aop] at ha
  split at ha
  · rename_i cs ds he1 he2
    rw [he1] at g1
    rw [he2] at g2
    obtain ⟨xs, e1, l1, v1⟩ := g1.rel.agg_inv
    obtain ⟨ys, e2, l2, v2⟩ := g2.rel.agg_inv
    split at ha
    · rename_i r hr
      simp only [Option.some.injEq, Prod.mk.injEq] at ha; obtain ⟨rfl, rfl⟩ := ha
      have ke : (Op.equalIn 10000 t (.agg xs) (.agg ys)).run S.P w = .ok r w := by
        rw [run_equalIn_agg w 9999 t xs ys (by rw [hf]; exact hu) hs, hf]
        exact eqAll_run l1 l2 v1 v2 9998 w fs.toList l r hl hr
      refine .same h (rv := .bool (if neg then !r else r)) ?_ (gotV _)
      cases neg
      · simp [execOp, ho, e1, e2, run_eqGuard_agg w _ t x y xs ys hg, run_eql_struct, ke]
      · simp [execOp, ho, e1, e2, run_eqGuard_agg w _ t x y xs ys hg, run_neq_struct, ke]
    · cases ha
  · cases ha

/-- Operands in a row. -/
theorem SRel.evs (h : SRel S A0 O w0 A σ w st tm) : ∀ {xs : List Operand} {as : List AOpd}, cOpds S xs = some as →
    xs.length = as.length ∧ ∀ (i : Nat) (a : AV), (as.map st.ev)[i]? = some a → Got S A σ w st a ((xs.map (Act.eval ⟨tm, df⟩)).getD i undef)
  | [], as, hc => by simp only [cOpds, optAll, Option.some.injEq] at hc; subst hc; exact ⟨rfl, by simp⟩
  | x :: xs, as, hc => by
    simp only [cOpds, optAll] at hc
    split at hc
    · rename_i y ys hy hys
      cases hc
      obtain ⟨k1, k2⟩ := SRel.evs h (xs := xs) hys
      refine ⟨by simp [k1], fun i a hi => ?_⟩
      cases i with
      | zero => simp at hi; subst hi; simpa using h.ev hy
      | succ i => simp at hi; simpa using k2 i a (by simpa using hi)
    · cases hc

theorem op_mkfn (h : SRel S A0 O w0 A σ w st tm) {f id : Nat} {first caps : Array Operand} {l : List AOpd} (ho : o.op = .makeFunc (.func f) first caps) (hf : first.size = 0) (hid : assoc f S.fns = some id) (hl : cOpds S caps.toList = some l)
    (ha : aop (.mkfn id l) d st = some (v, st')) : OpOk S A0 O w0 w tm df o v st' := by
  obtain ⟨k1, k2⟩ := h.evs (df := df) hl
  simp only [aop, Option.some.injEq, Prod.mk.injEq] at ha; obtain ⟨rfl, rfl⟩ := ha
  have hfe : first = #[] := Array.eq_empty_of_size_eq_zero hf
  have e : ∀ i, (caps.map (Act.eval ⟨tm, df⟩)).getD i undef = (caps.toList.map (Act.eval ⟨tm, df⟩)).getD i undef := by
    intro i
    simp [Array.getD_eq_getD_getElem?, List.getD]
  refine .same h (rv := .func (.func f) #[] (caps.map (Act.eval ⟨tm, df⟩))) (by simp [execOp, ho, hfe, Instr.makeFunc]) ⟨.fn hid (by simp at k1 ⊢; omega) fun i a hi => ?_, fun s hs => ?_⟩
  · rw [e]; exact (k2 i a hi).rel
  · rw [AV.refs, mem_refsL] at hs
    obtain ⟨x, hx, hs⟩ := hs
    obtain ⟨i, hi⟩ := List.mem_iff_getElem?.1 hx
    exact (k2 i x hi).dang s hs
end
end Ab
