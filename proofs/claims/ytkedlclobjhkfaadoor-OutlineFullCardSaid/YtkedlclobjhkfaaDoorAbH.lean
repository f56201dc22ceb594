/-
  Operations that compute or read, the third part: loads, indexes, slice expressions, tests of equality, function values, aggregates.
-/
import Derived.Test.YtkedlclobjhkfaaDoorAbF
namespace Ab
open Go Go.RowKit

section
variable {S : Seat} {A0 O : Nat → Prop} {w0 : World} {A : Nat → Prop} {σ : Nat → Option Nat} {w : World} {st st' : ASt} {tm : Array Value} {df : List Deferred} {o : Oper} {v : AV} {d : Nat}

theorem op_load (h : SRel S A0 O w0 A σ w st tm) {t : TypeId} {x : Operand} {x' : AOpd} {n : Option Nat} (ho : o.op = .load t x) (hs : cAgg S.P t = some n) (h1 : cOpd S x = some x')
    (ha : aop (.load n x') d st = some (v, st')) : OpOk S A0 O w0 w tm df o v st' := by
  have g1 := h.ev (df := df) h1
  simp only [aop] at ha
  split at ha
  · rename_i cs off he
    obtain ⟨b, o0, u, e, h2, h3⟩ := h.cellsAt g1 he
    split at ha
    · rename_i y hy
      simp only [Option.some.injEq, Prod.mk.injEq] at ha; obtain ⟨rfl, rfl⟩ := ha
      cases n with
      | none =>
        simp only [partA] at hy
        split at hy
        · rename_i a hx
          split at hy
          · cases hy
            have hi : off < cs.length := (List.getElem?_eq_some_iff.1 hx).1
            refine .same h (rv := u off) ?_ (h3 _ _ hx)
            simp [execOp, ho, e, Instr.loadAt, Instr.sureAddr, loadVar, cAgg_none hs, h2 off hi]
          · cases hy
        · cases hy
      | some n =>
        obtain ⟨k1, i, k2, rfl, k3⟩ := cAgg_some hs w
        simp only [partA] at hy
        split at hy
        · rename_i hle
          cases hy
          have hl := run_loadCells (P := S.P) w ⟨b, o0 + off, none⟩ i.size (fun j => u (off + j)) (fun j hj => by rw [Addr.add_lit, Nat.add_assoc]; exact h2 (off + j) (by omega))
          refine .same h (rv := .agg ((List.range i.size).map fun j => u (off + j)).toArray) ?_ ⟨.agg (by simp; omega) fun j a hj => ?_, fun s hs => ?_⟩
          · simp [execOp, ho, e, Instr.loadAt, Instr.sureAddr, loadVar, k1, Go.sizeOf, typeInfo, k2, hl]
          · have hj' : j < i.size := by have := (List.getElem?_eq_some_iff.1 hj).1; simp at this; omega
            rw [List.getElem?_take_of_lt hj', List.getElem?_drop] at hj
            have := (h3 _ _ hj).rel
            simpa [Array.getD, hj'] using this
          · rw [AV.refs] at hs
            have hs' := refs_sub hs
            rw [mem_refsL] at hs'
            obtain ⟨a, ha, hsa⟩ := hs'
            obtain ⟨j, hj⟩ := List.mem_iff_getElem?.1 ha
            exact (h3 j a hj).dang s hsa
        · cases hy
    · cases ha
  · cases ha

theorem op_ia (h : SRel S A0 O w0 A σ w st tm) {t e : TypeId} {x i : Operand} {x' i' : AOpd} {inf : TypeInfo} (ho : o.op = .indexAddr t x i) (hu : S.P.underlying t = some (.slice e)) (hi : S.P.info? e = some inf)
    (h1 : cOpd S x = some x') (h2 : cOpd S i = some i') (ha : aop (.ia inf.size x' i') d st = some (v, st')) : OpOk S A0 O w0 w tm df o v st' := by
  have g1 := h.ev (df := df) h1
  have g2 := h.ev (df := df) h2
  have key : ∀ b off len cap k (n : Int), Act.eval ⟨tm, df⟩ x = .slice (some ⟨b, off, none⟩) len cap → Act.eval ⟨tm, df⟩ i = .int k n → 0 ≤ n → n < len →
      (execOp (Act.eval ⟨tm, df⟩) o).run S.P w = .ok (.value (.pointer (some ⟨b, off + n.toNat * inf.size, none⟩))) w := by
    intro b off len cap k n e1 e2 h3 h4
    simp [execOp, ho, e1, e2, Instr.indexAt, asIntOf, run_underlying hu, h3, h4, Go.sizeOf, typeInfo, hi, Addr.add_lit]
  simp only [aop] at ha
  split at ha
  · rename_i z' es k n he1 he2
    rw [he1] at g1
    rw [he2] at g2
    have e2 := g2.rel.v_inv
    split at ha
    · rename_i hz
      obtain ⟨rfl, hn⟩ := hz
      split at ha
      · rename_i cs hcs
        simp only [Option.some.injEq, Prod.mk.injEq] at ha; obtain ⟨rfl, rfl⟩ := ha
        have hlt : n.toNat < es.length := (List.getElem?_eq_some_iff.1 hcs).1
        rcases g1.rel.sl_inv with ⟨rfl, _⟩ | ⟨b, o', cap, u, e1, k1, k2, k3, k4, _, k5⟩ | ⟨rfl, _⟩
        · simp at hcs
        · refine .same h (key _ _ _ _ _ _ e1 e2 hn (by omega)) ⟨.of0 ?_, fun s hs => by simp [AV.refs] at hs⟩
          have hcl : cs.length = inf.size := k3 _ (List.mem_of_getElem? hcs)
          have hb : (n.toNat + 1) * inf.size ≤ es.length * inf.size := Nat.mul_le_mul_right _ hlt
          rw [Nat.add_mul] at hb
          have := VR0.ep (S := S) (A := A) (w := w) (cs := cs) (off := 0) (b := b) (o := o' + n.toNat * inf.size) (u := fun j => u (n.toNat * inf.size + j)) k1
            (fun j hj => by rw [Nat.add_assoc]; exact k4 _ (by omega)) (fun j a hj => k5 _ _ _ _ hcs hj)
          simpa using this
        · simp at hcs
      · cases ha
    · cases ha
  · rename_i s z' off len k n he1 he2
    rw [he1] at g1
    rw [he2] at g2
    have e2 := g2.rel.v_inv
    split at ha
    · rename_i hz
      obtain ⟨rfl, hn, hl⟩ := hz
      simp only [Option.some.injEq, Prod.mk.injEq] at ha; obtain ⟨rfl, rfl⟩ := ha
      rcases g1.rel.lsl_inv with ⟨_, rfl, _, _⟩ | ⟨b, o', cap, cs, el, e1, k1, k2, k3, _⟩
      · omega
      · refine .same h (key _ _ _ _ _ _ e1 e2 hn hl) ⟨?_, fun s' hs => g1.dang s' (by simpa [AV.refs] using hs)⟩
        rw [k3 (.inl (by omega))]
        have := VR.pe (S := S) (A := A) (w := w) (s := s) (z := inf.size) (i := off + n.toNat) (off := 0) k1
        simpa [Nat.add_mul] using this
    · cases ha
  · cases ha

theorem op_ix (h : SRel S A0 O w0 A σ w st tm) {t : TypeId} {x i : Operand} {x' i' : AOpd} (ho : o.op = .index t x i) (hu : S.P.underlying t = some .string)
    (h1 : cOpd S x = some x') (h2 : cOpd S i = some i') (ha : aop (.ix x' i') d st = some (v, st')) : OpOk S A0 O w0 w tm df o v st' := by
  have g1 := h.ev (df := df) h1
  have g2 := h.ev (df := df) h2
  simp only [aop] at ha
  split at ha
  · rename_i s k n he1 he2
    rw [he1] at g1
    rw [he2] at g2
    have e1 := g1.rel.v_inv
    have e2 := g2.rel.v_inv
    split at ha
    · rename_i hn
      split at ha
      · rename_i b hb
        simp only [Option.some.injEq, Prod.mk.injEq] at ha; obtain ⟨rfl, rfl⟩ := ha
        have hlt : n.toNat < s.data.size := (Array.getElem?_eq_some_iff.1 hb).1
        have hbv : s.data[n.toNat] = b := (Array.getElem?_eq_some_iff.1 hb).2
        refine .same h (rv := .int .u8 b.toNat) ?_ (gotV _)
        have hr := run_index_string (P := S.P) w t s k n hu
        have hlt' : n < (s.size : Int) := by have : s.size = s.data.size := rfl; omega
        rw [dif_pos ⟨hn, hlt'⟩] at hr
        simp only [execOp, ho, e1, e2, Sem.run_bind, hr, Result.andThen_ok, Sem.run_pure]
        subst hbv
        rfl
      · cases ha
    · cases ha
  · cases ha

theorem optInt_inv {x : AV} {n : Int} (h : optInt x = some n) : x = .v (.int .i64 n) := by
  unfold optInt at h
  split at h
  · cases h; rfl
  · cases h

/-- The bounds of a slice expression, as the real machine finds them. -/
theorem run_bounds (h : SRel S A0 O w0 A σ w st tm) {lo hi : Option Operand} {lo' hi' : Option AOpd} (h1 : cOpdO S lo = some lo') (h2 : cOpdO S hi = some hi') {len cap l r : Nat} (isS : Bool) (hb : bounds st len lo' hi' = some (l, r)) (hc : len ≤ cap) :
    (Instr.sliceBounds isS len cap (lo.map (Act.eval ⟨tm, df⟩)) (hi.map (Act.eval ⟨tm, df⟩)) none).run S.P w = .ok (l, r, cap) w ∧ l ≤ r ∧ r ≤ len := by
  have inv : ∀ {x : Option Operand} {x' : Option AOpd}, cOpdO S x = some x' → (x = none ∧ x' = none) ∨ ∃ a a', x = some a ∧ x' = some a' ∧ cOpd S a = some a' := by
    intro x x' hx
    cases x with
    | none => simp only [cOpdO, Option.some.injEq] at hx; exact .inl ⟨rfl, hx.symm⟩
    | some a => simp only [cOpdO, Option.map_eq_some_iff] at hx; obtain ⟨a', h3, rfl⟩ := hx; exact .inr ⟨a, a', rfl, rfl, h3⟩
  have val : ∀ {a : Operand} {a' : AOpd} {n : Int}, cOpd S a = some a' → optInt (st.ev a') = some n → Act.eval ⟨tm, df⟩ a = .int .i64 n := by
    intro a a' n ha hn
    have g := h.ev (df := df) ha
    rw [optInt_inv hn] at g
    exact g.rel.v_inv
  unfold bounds at hb
  rcases inv h1 with ⟨rfl, rfl⟩ | ⟨a, a', rfl, rfl, k1⟩ <;> rcases inv h2 with ⟨rfl, rfl⟩ | ⟨c, c', rfl, rfl, k2⟩ <;> simp only at hb
  · split at hb
    · simp only [Option.some.injEq, Prod.mk.injEq] at hb
      obtain ⟨rfl, rfl⟩ := hb
      exact ⟨by simp [Instr.sliceBounds], by omega, by omega⟩
    · cases hb
  · split at hb
    · rename_i hn hm e1 e2
      split at hb
      · simp only [Option.some.injEq, Prod.mk.injEq] at hb
        obtain ⟨rfl, rfl⟩ := hb
        rename_i hc2
        have e2' := Option.some.inj e2
        have := val k2 e1
        refine ⟨?_, by omega, by omega⟩
        simp [Instr.sliceBounds, this, run_sliceBound_if]
        rw [if_pos (by omega)]
        simp; omega
      · cases hb
    · cases hb
  · split at hb
    · rename_i hn hm e1 e2
      split at hb
      · simp only [Option.some.injEq, Prod.mk.injEq] at hb
        obtain ⟨rfl, rfl⟩ := hb
        rename_i hc2
        have e1' := Option.some.inj e1
        have := val k1 e2
        refine ⟨?_, by omega, by omega⟩
        simp [Instr.sliceBounds, this, run_sliceBound_if]
        rw [if_pos (by omega)]
        simp; omega
      · cases hb
    · cases hb
  · split at hb
    · rename_i hn hm e1 e2
      split at hb
      · simp only [Option.some.injEq, Prod.mk.injEq] at hb
        obtain ⟨rfl, rfl⟩ := hb
        rename_i hc2
        have v1 := val k1 e2
        have v2 := val k2 e1
        refine ⟨?_, by omega, by omega⟩
        simp [Instr.sliceBounds, v1, v2, run_sliceBound_if]
        rw [if_pos (by omega)]
        simp
        omega
      · cases hb
    · cases hb

theorem op_slcS (h : SRel S A0 O w0 A σ w st tm) {t : TypeId} {x : Operand} {x' : AOpd} {lo hi : Option Operand} {lo' hi' : Option AOpd} (ho : o.op = .slice t x lo hi none) (hu : S.P.underlying t = some .string)
    (h1 : cOpd S x = some x') (h2 : cOpdO S lo = some lo') (h3 : cOpdO S hi = some hi') (ha : aop (.slc 0 x' lo' hi') d st = some (v, st')) : OpOk S A0 O w0 w tm df o v st' := by
  have g1 := h.ev (df := df) h1
  simp only [aop, if_true] at ha
  split at ha
  · rename_i s he
    rw [he] at g1
    have e := g1.rel.v_inv
    split at ha
    · rename_i l r hb
      simp only [Option.some.injEq, Prod.mk.injEq] at ha; obtain ⟨rfl, rfl⟩ := ha
      obtain ⟨k1, k2, k3⟩ := run_bounds (df := df) h h2 h3 false hb (Nat.le_refl _)
      refine .same h (rv := .string (s.extract l r)) ?_ (gotV _)
      simp [execOp, ho, e, Instr.sliceAt, Instr.slice, run_underlying hu, k1]
    · cases ha
  · cases ha

theorem op_slc (h : SRel S A0 O w0 A σ w st tm) {t e : TypeId} {inf : TypeInfo} {x : Operand} {x' : AOpd} {lo hi : Option Operand} {lo' : Option AOpd} (ho : o.op = .slice t x lo hi none) (hu : S.P.underlying t = some (.slice e)) (hi' : S.P.info? e = some inf) (hz : 0 < inf.size)
    (h1 : cOpd S x = some x') (h2 : cOpdO S lo = some lo') {hj : Option AOpd} (h3 : cOpdO S hi = some hj) (ha : aop (.slc inf.size x' lo' hj) d st = some (v, st')) : OpOk S A0 O w0 w tm df o v st' := by
  have g1 := h.ev (df := df) h1
  have key : ∀ a len cap l r, Act.eval ⟨tm, df⟩ x = .slice a len cap → bounds st len lo' hj = some (l, r) → len ≤ cap →
      (execOp (Act.eval ⟨tm, df⟩) o).run S.P w = .ok (.value (.slice (if cap = l then a else a.map (·.add (l * inf.size))) (r - l) (cap - l))) w := by
    intro a len cap l r e1 hb hc
    obtain ⟨k1, k2, k3⟩ := run_bounds (df := df) h h2 h3 true hb hc
    simp [execOp, ho, e1, Instr.sliceAt, Instr.slice, run_underlying hu, k1, Go.sizeOf, typeInfo, hi']
  have hbd : ∀ len l r, bounds st len lo' hj = some (l, r) → l ≤ r ∧ r ≤ len := fun len l r hb => (run_bounds (df := df) h h2 h3 true hb (Nat.le_refl _)).2
  simp only [aop, if_neg (show ¬ inf.size = 0 by omega)] at ha
  split at ha
  · rename_i he
    rw [he] at g1
    have e1 := g1.rel.v_inv
    split at ha
    · rename_i p hb
      obtain ⟨l, r⟩ := p
      simp only [Option.some.injEq, Prod.mk.injEq] at ha; obtain ⟨rfl, rfl⟩ := ha
      have hb2 := hbd _ _ _ hb
      have hk := key _ _ _ _ _ e1 hb (Nat.le_refl _)
      obtain rfl : l = 0 := by omega
      obtain rfl : r = 0 := by omega
      exact .same h (rv := .slice none 0 0) (by simpa using hk) (gotV _)
    · cases ha
  · rename_i z' es he
    split at ha
    · rename_i hz'
      subst hz'
      rw [he] at g1
      split at ha
      · rename_i l r hb
        simp only [Option.some.injEq, Prod.mk.injEq] at ha; obtain ⟨rfl, rfl⟩ := ha
        have hb2 := hbd _ _ _ hb
        have hlen : ((es.drop l).take (r - l)).length = r - l := by simp; omega
        rcases g1.rel.sl_inv with ⟨rfl, e1⟩ | ⟨b, o', cap, u, e1, k1, k2, k3, k4, k6, k5⟩ | ⟨rfl, a, cap, e1⟩
        · have hk := key _ _ _ _ _ e1 (by simpa using hb) (Nat.le_refl _)
          simp at hb2
          obtain rfl : l = 0 := by omega
          obtain rfl : r = 0 := by omega
          exact .same h (rv := .slice none 0 0) (by simpa using hk) ⟨.of0 (by simpa using VR0.slnil _), by simp [AV.refs]⟩
        · have hk := key _ _ _ _ _ e1 hb k2
          refine .same h hk ⟨.of0 ?_, by simp [AV.refs]⟩
          by_cases hcl : cap = l
          · have hr : r = l := by omega
            subst hr
            subst hcl
            simp only [if_true, Nat.sub_self, List.take_zero]
            exact VR0.sl (es := []) (o := o') (u := u) k1 (Nat.zero_le _) (by simp) (by simp) (by simp) (by simp)
          · rw [if_neg hcl]
            simp only [Option.map_some, Addr.add_lit]
            have := VR0.sl (S := S) (A := A) (w := w) (z := inf.size) (es := (es.drop l).take (r - l)) (b := b) (o := o' + l * inf.size) (cap := cap - l) (u := fun j => u (l * inf.size + j)) k1 (by omega)
              (fun e he => k3 e (List.mem_of_mem_drop (List.mem_of_mem_take he)))
              (fun j hj => by
                rw [hlen] at hj
                rw [Nat.add_assoc]
                refine k4 _ ?_
                have h5 : (r - l) * inf.size + l * inf.size = r * inf.size := by rw [← Nat.add_mul]; congr 1; omega
                have h6 : r * inf.size ≤ es.length * inf.size := Nat.mul_le_mul_right _ hb2.2
                omega)
              (fun j hj => by
                rw [hlen] at hj
                refine k6 _ ?_
                have h5 : (r - l) * inf.size + l * inf.size = r * inf.size := by rw [← Nat.add_mul]; congr 1; omega
                have h6 : r * inf.size ≤ es.length * inf.size := Nat.mul_le_mul_right _ hb2.2
                omega)
              (fun i e c a hi hc => by
                have hlt : i < r - l := by have := (List.getElem?_eq_some_iff.1 hi).1; omega
                rw [List.getElem?_take_of_lt hlt, List.getElem?_drop] at hi
                have := k5 _ _ _ _ hi hc
                rwa [Nat.add_mul, Nat.add_assoc] at this)
            rwa [hlen] at this
        · have hk := key _ _ _ _ _ e1 (by simpa using hb) (Nat.zero_le _)
          simp at hb2
          obtain rfl : l = 0 := by omega
          obtain rfl : r = 0 := by omega
          refine .same h hk ⟨.of0 ?_, by simp [AV.refs]⟩
          simp only [List.drop_nil, List.take_nil, Nat.sub_zero, Nat.sub_self]
          split <;> exact VR0.slemp _ _ _
      · cases ha
    · cases ha
  · rename_i s z' off len he
    split at ha
    · rename_i hz'
      subst hz'
      rw [he] at g1
      split at ha
      · rename_i l r hb
        simp only [Option.some.injEq, Prod.mk.injEq] at ha; obtain ⟨rfl, rfl⟩ := ha
        have hb2 := hbd _ _ _ hb
        have hd : ∀ s' ∈ (AV.lsl s inf.size (off + l) (r - l)).refs, st.hp s' ≠ none := fun s' hs => g1.dang s' (by simpa [AV.refs] using hs)
        rcases g1.rel.lsl_inv with ⟨rfl, rfl, k0, e1⟩ | ⟨b, o', cap, cs, el, e1, k1, k2, k3, k4, k5, k6⟩
        · have hk := key _ _ _ _ _ e1 hb (Nat.le_refl _)
          obtain rfl : l = 0 := by omega
          obtain rfl : r = 0 := by omega
          exact .same h (rv := .slice none 0 0) (by simpa using hk) ⟨.lslnil k0, hd⟩
        · have hk := key _ _ _ _ _ e1 hb k2
          refine .same h hk ⟨?_, hd⟩
          by_cases hcl : cap = l
          · have hr : r = l := by omega
            subst hr
            subst hcl
            simp only [if_true, Nat.sub_self]
            refine .lsl k1 (Nat.le_refl _) (fun hx => ?_) k4 (by simpa using k5) (Nat.zero_le _)
            rcases hx with hx | hx
            · omega
            · have h0 : off = 0 := by omega
              have h1 : cap = 0 := by omega
              rw [k3 (.inr h0), h0, h1]
          · rw [if_neg hcl]
            simp only [Option.map_some, Addr.add_lit]
            refine .lsl k1 (by omega) (fun _ => ?_) k4 ?_ (by omega)
            · rw [k3 (.inl (by omega)), Nat.add_mul]
            · rw [show off + l + (cap - l) = off + cap by omega]; exact k5
      · cases ha
    · cases ha
  · cases ha
end
end Ab
