/-
  An operation of the abstract machine is one of the real machine's: the operations that only compute or read.
-/
import Derived.Test.YtkedlclobjhkfaaDoorAbD
import Derived.Laws.StructEq
import Derived.Laws.MakeOwn
import Derived.Laws.Slices
import Derived.Laws.Build
namespace Ab
open Go Go.RowKit

section
variable {S : Seat} {A : Nat → Prop} {σ : Nat → Option Nat} {w : World}

theorem VR.v_inv {x y : Value} (h : VR S A σ w (.v x) y) : y = x := by
  cases h with
  | of0 h => cases h; rfl
theorem VR.agg_inv {cs : List AV} {y : Value} (h : VR S A σ w (.agg cs) y) : ∃ vs, y = .agg vs ∧ cs.length = vs.size ∧ ∀ (i : Nat) (x : AV), cs[i]? = some x → VR S A σ w x (vs.getD i undef) := by
  cases h with
  | of0 h => cases h with | agg h1 h2 => exact ⟨_, rfl, h1, fun i x hx => .of0 (h2 i x hx)⟩
  | agg h1 h2 => exact ⟨_, rfl, h1, h2⟩
theorem VR.tup_inv {cs : List AV} {y : Value} (h : VR S A σ w (.tup cs) y) : ∃ vs, y = .tuple vs ∧ cs.length = vs.size ∧ ∀ (i : Nat) (x : AV), cs[i]? = some x → VR S A σ w x (vs.getD i undef) := by
  cases h with
  | of0 h => cases h with | tup h1 h2 => exact ⟨_, rfl, h1, fun i x hx => .of0 (h2 i x hx)⟩
  | tup h1 h2 => exact ⟨_, rfl, h1, h2⟩
theorem VR.fn_inv {f : Nat} {cs : List AV} {y : Value} (h : VR S A σ w (.fn f cs) y) : ∃ g vs, y = .func (.func g) #[] vs ∧ assoc g S.fns = some f ∧ cs.length = vs.size ∧ ∀ (i : Nat) (x : AV), cs[i]? = some x → VR S A σ w x (vs.getD i undef) := by
  cases h with
  | of0 h => cases h with | fn h0 h1 h2 => exact ⟨_, _, rfl, h0, h1, fun i x hx => .of0 (h2 i x hx)⟩
  | fn h0 h1 h2 => exact ⟨_, _, rfl, h0, h1, h2⟩
theorem VR.ifc_inv {t : Nat} {x : AV} {y : Value} (h : VR S A σ w (.ifc t x) y) : ∃ T v, y = .iface T v ∧ VR S A σ w x v := by
  cases h with
  | of0 h => cases h with | ifc h0 h1 => exact ⟨_, _, rfl, .of0 h1⟩
  | ifc h0 h1 => exact ⟨_, _, rfl, h1⟩
theorem VR.pv_inv {s off : Nat} {y : Value} (h : VR S A σ w (.pv s off) y) : ∃ b, y = .pointer (some ⟨b, off, none⟩) ∧ σ s = some b := by
  cases h with
  | of0 h => cases h
  | pv h => exact ⟨_, rfl, h⟩
theorem VR.pe_inv {s z i off : Nat} {y : Value} (h : VR S A σ w (.pe s z i off) y) : ∃ b, y = .pointer (some ⟨b, i * z + off, none⟩) ∧ σ s = some b := by
  cases h with
  | of0 h => cases h
  | pe h => exact ⟨_, rfl, h⟩
theorem VR.ep_inv {cs : List AV} {off : Nat} {y : Value} (h : VR S A σ w (.ep cs off) y) :
    ∃ b o, ∃ u : Nat → Value, y = .pointer (some ⟨b, o + off, none⟩) ∧ A b ∧ (∀ j, j < cs.length → w.cell? ⟨b, o + j, none⟩ = some (u j)) ∧ (∀ (j : Nat) (x : AV), cs[j]? = some x → VR0 S A w x (u j)) := by
  cases h with
  | of0 h => cases h with | ep h1 h2 h3 => exact ⟨_, _, _, rfl, h1, h2, h3⟩
theorem VR.sl_inv {z : Nat} {es : List (List AV)} {y : Value} (h : VR S A σ w (.sl z es) y) :
    (es = [] ∧ y = .slice none 0 0) ∨ (∃ b o cap, ∃ u : Nat → Value, y = .slice (some ⟨b, o, none⟩) es.length cap ∧ A b ∧ es.length ≤ cap ∧ (∀ e ∈ es, e.length = z) ∧ (∀ j, j < es.length * z → w.cell? ⟨b, o + j, none⟩ = some (u j)) ∧ (∀ j, j < es.length * z → (u j).oneCell' = true) ∧
      (∀ (i : Nat) (e : List AV) (c : Nat) (x : AV), es[i]? = some e → e[c]? = some x → VR0 S A w x (u (i * z + c)))) ∨ (es = [] ∧ ∃ a cap, y = .slice (some a) 0 cap) := by
  cases h with
  | of0 h =>
    cases h with
    | sl h1 h2 h3 h4 h5 h6 => exact .inr (.inl ⟨_, _, _, _, rfl, h1, h2, h3, h4, h5, h6⟩)
    | slnil => exact .inl ⟨rfl, rfl⟩
    | slemp z a cap => exact .inr (.inr ⟨rfl, _, _, rfl⟩)
theorem VR.lsl_inv {s z off len : Nat} {y : Value} (h : VR S A σ w (.lsl s z off len) y) :
    (off = 0 ∧ len = 0 ∧ σ s = none ∧ y = .slice none 0 0) ∨ ∃ b o cap cs el, y = .slice (some ⟨b, o, none⟩) len cap ∧ σ s = some b ∧ len ≤ cap ∧ (cap ≠ 0 ∨ off = 0 → o = off * z) ∧ w.heap[b]? = some (.cells cs el (0, 0)) ∧
      (off + cap) * z ≤ cs.size ∧ cap ≤ maxLen := by
  cases h with
  | of0 h => cases h
  | lsl h1 h2 h3 h4 h5 h6 => exact .inr ⟨_, _, _, _, _, rfl, h1, h2, h3, h4, h5, h6⟩
  | lslnil h => exact .inl ⟨rfl, rfl, h, rfl⟩

/-- A value of one cell is one. -/
theorem VR.cell1 {x : AV} {y : Value} (h : VR S A σ w x y) (hc : x.cell1 = true) : y.oneCell' = true := by
  cases h with
  | of0 h =>
    cases h with
    | v => cases y <;> simp_all [AV.cell1, Value.oneCell']
    | _ => simp_all [AV.cell1, Value.oneCell']
  | _ => simp_all [AV.cell1, Value.oneCell']
theorem oneCell_cells {y : Value} (h : y.oneCell' = true) : y.cells = #[y] := by cases y <;> simp_all [Value.oneCell', Value.cells]

/-- The cells of a value that may be stored are those of what it stands for. -/
theorem VR.cells {x : AV} {y : Value} {cs : List AV} (h : VR S A σ w x y) (hc : x.cells = some cs) :
    cs.length = y.cells.size ∧ (∀ (i : Nat) (a : AV), cs[i]? = some a → VR S A σ w a (y.cells.getD i undef)) ∧ (∀ v ∈ y.cells.toList, v.oneCell' = true) ∧ (∀ s, s ∈ AV.refsL cs ↔ s ∈ x.refs) := by
  by_cases hx : ∃ ds, x = .agg ds
  · obtain ⟨ds, rfl⟩ := hx
    obtain ⟨vs, rfl, h1, h2⟩ := h.agg_inv
    simp only [AV.cells] at hc
    split at hc
    · rename_i hall
      have hc := Option.some.inj hc
      subst hc
      refine ⟨h1, h2, fun v hv => ?_, fun s => by rw [AV.refs]⟩
      obtain ⟨i, hi⟩ := List.mem_iff_getElem?.1 hv
      have hi' : i < vs.size := by simpa [Value.cells] using (List.getElem?_eq_some_iff.1 hi).1
      have hcs : ds[i]? = some (ds[i]'(by omega)) := List.getElem?_eq_getElem _
      have hr := (h2 i _ hcs).cell1 (List.all_eq_true.1 hall _ (List.getElem_mem _))
      have e : vs.getD i undef = v := by
        rw [Array.getD_eq_getD_getElem?]; simp only [Value.cells, Array.getElem?_toList] at hi; rw [hi]; rfl
      rwa [e] at hr
    · cases hc
  · have hc' : x.cell1 = true ∧ cs = [x] := by
      cases x <;> simp_all [AV.cells]
    obtain ⟨h1, rfl⟩ := hc'
    have hone := h.cell1 h1
    rw [oneCell_cells hone]
    refine ⟨rfl, fun i a ha => ?_, by simpa using hone, fun s => by simp [AV.refsL]⟩
    cases i with
    | zero => simp at ha; subst ha; simpa [Array.getD] using h
    | succ i => simp at ha
end

/-- What an operation of the real machine has come to. -/
def OpOk (S : Seat) (A0 O : Nat → Prop) (w0 w : World) (tm : Array Value) (df : List Deferred) (o : Oper) (v : AV) (st' : ASt) : Prop :=
  ∃ n w' A' σ', (execOp (Act.eval ⟨tm, df⟩) o).run S.P w = .ok n w' ∧ SRel S A0 O w0 A' σ' w' st' tm ∧ ((∃ rv, n = .value rv ∧ Got S A' σ' w' st' v rv) ∨ (n = .skip ∧ v = .bot))

section
variable {S : Seat} {A0 O : Nat → Prop} {w0 : World} {A : Nat → Prop} {σ : Nat → Option Nat} {w : World} {st st' : ASt} {tm : Array Value} {df : List Deferred} {o : Oper} {v : AV} {d : Nat}

theorem OpOk.same {rv : Value} (h : SRel S A0 O w0 A σ w st tm) (hr : (execOp (Act.eval ⟨tm, df⟩) o).run S.P w = .ok (.value rv) w) (hg : Got S A σ w st v rv) : OpOk S A0 O w0 w tm df o v st :=
  ⟨_, w, A, σ, hr, h, .inl ⟨rv, rfl, hg⟩⟩

theorem gotV (x : Value) : Got S A σ w st (.v x) x := ⟨.of0 (.v x), by simp [AV.refs]⟩

theorem op_mov (h : SRel S A0 O w0 A σ w st tm) {x : Operand} {a : AOpd} (ho : o.op = .move x ∨ o.op = .assign x) (hc : cOpd S x = some a) (ha : aop (.mov a) d st = some (v, st')) : OpOk S A0 O w0 w tm df o v st' := by
  simp only [aop, Option.some.injEq, Prod.mk.injEq] at ha
  obtain ⟨rfl, rfl⟩ := ha
  exact .same h (rv := Act.eval ⟨tm, df⟩ x) (by rcases ho with ho | ho <;> simp [execOp, ho]) (h.ev hc)

theorem op_pick (h : SRel S A0 O w0 A σ w st tm) {c x y : Operand} {c' x' y' : AOpd} (ho : o.op = .pick c x y) (h1 : cOpd S c = some c') (h2 : cOpd S x = some x') (h3 : cOpd S y = some y')
    (ha : aop (.pick c' x' y') d st = some (v, st')) : OpOk S A0 O w0 w tm df o v st' := by
  have g1 := h.ev (df := df) h1
  simp only [aop] at ha
  split at ha
  · rename_i t ht
    simp only [Option.some.injEq, Prod.mk.injEq] at ha
    obtain ⟨rfl, rfl⟩ := ha
    rw [ht] at g1
    have e := g1.rel.v_inv
    refine .same h (rv := if t then Act.eval ⟨tm, df⟩ x else Act.eval ⟨tm, df⟩ y) (by simp [execOp, ho, e, asBool]) ?_
    cases t
    · exact h.ev h3
    · exact h.ev h2
  · cases ha

theorem op_chk (h : SRel S A0 O w0 A σ w st tm) {x : Operand} {x' : AOpd} (ho : o.op = .nilCheck x) (h1 : cOpd S x = some x') (ha : aop (.chk x') d st = some (v, st')) : OpOk S A0 O w0 w tm df o v st' := by
  have g1 := h.ev (df := df) h1
  simp only [aop] at ha
  split at ha
  · rename_i s off he
    simp only [Option.some.injEq, Prod.mk.injEq] at ha; obtain ⟨rfl, rfl⟩ := ha; rw [he] at g1
    obtain ⟨b, e, _⟩ := g1.rel.pv_inv
    exact .same h (by simp [execOp, ho, e]) (e ▸ g1)
  · rename_i s z i off he
    simp only [Option.some.injEq, Prod.mk.injEq] at ha; obtain ⟨rfl, rfl⟩ := ha; rw [he] at g1
    obtain ⟨b, e, _⟩ := g1.rel.pe_inv
    exact .same h (by simp [execOp, ho, e]) (e ▸ g1)
  · rename_i cs off he
    simp only [Option.some.injEq, Prod.mk.injEq] at ha; obtain ⟨rfl, rfl⟩ := ha; rw [he] at g1
    obtain ⟨b, o', u, e, _⟩ := g1.rel.ep_inv
    exact .same h (by simp [execOp, ho, e]) (e ▸ g1)
  · rename_i f caps he
    simp only [Option.some.injEq, Prod.mk.injEq] at ha; obtain ⟨rfl, rfl⟩ := ha; rw [he] at g1
    obtain ⟨g, vs, e, _⟩ := g1.rel.fn_inv
    exact .same h (by simp [execOp, ho, e]) (e ▸ g1)
  · cases ha

theorem op_ext (h : SRel S A0 O w0 A σ w st tm) {x : Operand} {x' : AOpd} {i : Nat} (ho : o.op = .extract x i) (h1 : cOpd S x = some x') (ha : aop (.ext x' i) d st = some (v, st')) : OpOk S A0 O w0 w tm df o v st' := by
  have g1 := h.ev (df := df) h1
  simp only [aop] at ha
  split at ha
  · rename_i vs he
    split at ha
    · rename_i y hy
      simp only [Option.some.injEq, Prod.mk.injEq] at ha; obtain ⟨rfl, rfl⟩ := ha; rw [he] at g1
      obtain ⟨us, e, hl, hv⟩ := g1.rel.tup_inv
      have hi : i < us.size := by have := (List.getElem?_eq_some_iff.1 hy).1; omega
      refine .same h (rv := us.getD i undef) ?_ ⟨hv i _ hy, fun s hs => g1.dang s (by rw [AV.refs, mem_refsL]; exact ⟨_, List.mem_of_getElem? hy, hs⟩)⟩
      simp [execOp, ho, e, Instr.extract, Array.getD, hi]
    · cases ha
  · cases ha

theorem op_ifc (h : SRel S A0 O w0 A σ w st tm) {t : TypeId} {x : Operand} {x' : AOpd} {k : Nat} (ho : o.op = .makeInterface t x) (h1 : cOpd S x = some x') (hk : assoc t S.tys = some k)
    (hu : (∃ i, S.P.underlying t = some (.int i)) ∨ ∃ fs, S.P.underlying t = some (.struct fs)) (ha : aop (.ifc k x') d st = some (v, st')) : OpOk S A0 O w0 w tm df o v st' := by
  have g1 := h.ev (df := df) h1
  simp only [aop, Option.some.injEq, Prod.mk.injEq] at ha
  obtain ⟨rfl, rfl⟩ := ha
  refine .same h (rv := .iface t (Act.eval ⟨tm, df⟩ x)) ?_ ⟨.ifc hk g1.rel, fun s hs => g1.dang s (by rw [AV.refs] at hs; exact hs)⟩
  rcases hu with ⟨i, hu⟩ | ⟨fs, hu⟩ <;> simp [execOp, ho, Instr.makeInterface, run_underlying hu]

theorem op_un (h : SRel S A0 O w0 A σ w st tm) {op : UnOp} {t : TypeId} {x : Operand} {x' : AOpd} (ho : o.op = .unOp op t x) (h1 : cOpd S x = some x') (ha : aop (.un op x') d st = some (v, st')) : OpOk S A0 O w0 w tm df o v st' := by
  have g1 := h.ev (df := df) h1
  simp only [aop] at ha
  split at ha
  · rename_i y he
    rw [he] at g1
    have e := g1.rel.v_inv
    split at ha
    · rename_i r hr
      simp only [Option.some.injEq, Prod.mk.injEq] at ha
      obtain ⟨rfl, rfl⟩ := ha
      refine .same h (rv := r) ?_ (gotV r)
      unfold unV at hr
      split at hr
      · cases hr; simp [execOp, ho, e, Op.unary, Op.intArith]
      · cases hr; simp [execOp, ho, e, Op.unary]
      · cases hr
    · cases ha
  · cases ha

theorem op_cvi (h : SRel S A0 O w0 A σ w st tm) {s t : TypeId} {k k0 : IntKind} {x : Operand} {x' : AOpd} (ho : o.op = .convert s t x) (hs : S.P.underlying s = some (.int k0)) (ht : S.P.underlying t = some (.int k)) (h1 : cOpd S x = some x')
    (ha : aop (.cvi k x') d st = some (v, st')) : OpOk S A0 O w0 w tm df o v st' := by
  have g1 := h.ev (df := df) h1
  simp only [aop] at ha
  split at ha
  · rename_i k1 n he
    rw [he] at g1
    have e := g1.rel.v_inv
    simp only [Option.some.injEq, Prod.mk.injEq] at ha
    obtain ⟨rfl, rfl⟩ := ha
    exact .same h (rv := .int k (k.wrap n)) (by simp [execOp, ho, e, convert, run_underlying hs, run_underlying ht, Conv.intToInt]) (gotV _)
  · cases ha

theorem op_max (h : SRel S A0 O w0 A σ w st tm) {x y : Operand} {x' y' : AOpd} {ts : Array TypeId} (ho : o.op = .call { callee := .builtin .max, args := #[x, y], argTypes := ts }) (h1 : cOpd S x = some x') (h2 : cOpd S y = some y')
    (ha : aop (.max2 x' y') d st = some (v, st')) : OpOk S A0 O w0 w tm df o v st' := by
  have g1 := h.ev (df := df) h1
  have g2 := h.ev (df := df) h2
  simp only [aop] at ha
  split at ha
  · rename_i k a k' b he1 he2
    rw [he1] at g1
    rw [he2] at g2
    have e1 := g1.rel.v_inv
    have e2 := g2.rel.v_inv
    simp only [Option.some.injEq, Prod.mk.injEq] at ha
    obtain ⟨rfl, rfl⟩ := ha
    exact .same h (rv := .int k (if b > a then b else a)) (by simp [execOp, ho, e1, e2, resolve, invoke, builtin, Builtin.max_, Builtin.max2]) (gotV _)
  · cases ha

theorem op_lenS (h : SRel S A0 O w0 A σ w st tm) {t : TypeId} {x : Operand} {x' : AOpd} (ho : o.op = .call { callee := .builtin .len, args := #[x], argTypes := #[t] }) (hu : S.P.underlying t = some .string) (h1 : cOpd S x = some x')
    (ha : aop (.len true x') d st = some (v, st')) : OpOk S A0 O w0 w tm df o v st' := by
  have g1 := h.ev (df := df) h1
  simp only [aop, if_true] at ha
  split at ha
  · rename_i s he
    rw [he] at g1
    have e := g1.rel.v_inv
    simp only [Option.some.injEq, Prod.mk.injEq] at ha
    obtain ⟨rfl, rfl⟩ := ha
    exact .same h (rv := .int .i64 s.size) (by simp [execOp, ho, e, resolve, invoke, builtin, Builtin.len_, run_underlying hu, goInt]) (gotV _)
  · cases ha

theorem op_len (h : SRel S A0 O w0 A σ w st tm) {t e : TypeId} {x : Operand} {x' : AOpd} (ho : o.op = .call { callee := .builtin .len, args := #[x], argTypes := #[t] }) (hu : S.P.underlying t = some (.slice e)) (h1 : cOpd S x = some x')
    (ha : aop (.len false x') d st = some (v, st')) : OpOk S A0 O w0 w tm df o v st' := by
  have g1 := h.ev (df := df) h1
  simp only [aop, Bool.false_eq_true, if_false] at ha
  have slice : ∀ b n c, Act.eval ⟨tm, df⟩ x = .slice b n c → (execOp (Act.eval ⟨tm, df⟩) o).run S.P w = .ok (.value (.int .i64 n)) w := by
    intro b n c e
    simp [execOp, ho, e, resolve, invoke, builtin, Builtin.len_, run_underlying hu, goInt]
  split at ha
  · rename_i he
    rw [he] at g1
    have e := g1.rel.v_inv
    simp only [Option.some.injEq, Prod.mk.injEq] at ha
    obtain ⟨rfl, rfl⟩ := ha
    exact .same h (slice _ _ _ e) (gotV _)
  · rename_i z es he
    rw [he] at g1
    simp only [Option.some.injEq, Prod.mk.injEq] at ha
    obtain ⟨rfl, rfl⟩ := ha
    rcases g1.rel.sl_inv with ⟨rfl, e⟩ | ⟨b, o', cap, u, e, _⟩ | ⟨rfl, a, cap, e⟩
    · exact .same h (slice _ _ _ e) (gotV _)
    · exact .same h (slice _ _ _ e) (gotV _)
    · exact .same h (slice _ _ _ e) (gotV _)
  · rename_i s z off n he
    rw [he] at g1
    simp only [Option.some.injEq, Prod.mk.injEq] at ha
    obtain ⟨rfl, rfl⟩ := ha
    rcases g1.rel.lsl_inv with ⟨_, rfl, _, e⟩ | ⟨b, o', cap, cs, el, e, _⟩
    · exact .same h (slice _ _ _ e) (gotV _)
    · exact .same h (slice _ _ _ e) (gotV _)
  · cases ha
end

end Ab
