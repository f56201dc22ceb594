/-
  Operations that compute or read, the second part.
-/
import Derived.Test.YtkedlclobjhkfaaDoorAbE
namespace Ab
open Go Go.RowKit

theorem beqBytes (a b : ByteArray) : (a.toList == b.toList) = decide (a = b) := by
  rw [ByteArray.toList_eq, ByteArray.toList_eq]
  by_cases h : a = b
  · subst h; simp
  · have h2 : ¬ a.data = b.data := by
      intro e
      apply h
      cases a
      cases b
      simp_all
    simp [h, h2]

theorem no_refs0 {S : Seat} {A : Nat → Prop} {w : World} {x : AV} {v : Value} (h : VR0 S A w x v) : ∀ s, s ∈ x.refs → False := by
  induction h with
  | agg _ _ ih => intro s hs; rw [AV.refs, mem_refsL] at hs; obtain ⟨x, hx, hs⟩ := hs; obtain ⟨i, hi⟩ := List.mem_iff_getElem?.1 hx; exact ih i x hi s hs
  | tup _ _ ih => intro s hs; rw [AV.refs, mem_refsL] at hs; obtain ⟨x, hx, hs⟩ := hs; obtain ⟨i, hi⟩ := List.mem_iff_getElem?.1 hx; exact ih i x hi s hs
  | fn _ _ _ ih => intro s hs; rw [AV.refs, mem_refsL] at hs; obtain ⟨x, hx, hs⟩ := hs; obtain ⟨i, hi⟩ := List.mem_iff_getElem?.1 hx; exact ih i x hi s hs
  | ifc _ _ ih => intro s hs; rw [AV.refs] at hs; exact ih s hs
  | _ => intro s hs; simp [AV.refs] at hs

section
variable {S : Seat} {A0 O : Nat → Prop} {w0 : World} {A : Nat → Prop} {σ : Nat → Option Nat} {w : World} {st st' : ASt} {tm : Array Value} {df : List Deferred} {o : Oper} {v : AV} {d : Nat}

theorem run_binInt {P : Program} {op : BinOp} {t : TypeId} {x y : Operand} {a b : Value} {r : Value} (h : binV .int op a b = some r) (w : World) :
    (do eqGuard op t x y a b; binOp op t a b : Sem Value).run P w = .ok r w := by
  cases a with
  | int k n =>
    cases b with
    | int k' m =>
      simp only [binV] at h
      split at h
      · rename_i hk
        subst hk
        cases op <;> simp only [Option.some.injEq, reduceCtorEq] at h
        case eql => subst h; simp only [eqGuard_at_int, binOp, Op.intCmp]; by_cases he : n = m <;> simp [he]
        case neq => subst h; simp only [eqGuard_at_int, binOp, Op.intCmp]; by_cases he : n = m <;> simp [he]
        case quo => split at h <;> simp_all [eqGuard_at_int, binOp, Op.intDiv]
        case rem => split at h <;> simp_all [eqGuard_at_int, binOp, Op.intDiv]
        all_goals (subst h; simp [eqGuard_at_int, binOp, Op.intArith, Op.intCmp])
      · cases h
    | _ => simp [binV] at h
  | _ => simp [binV] at h

theorem run_binStr {P : Program} {op : BinOp} {t : TypeId} {x y : Operand} {a b : Value} {r : Value} (h : binV .str op a b = some r) (w : World) :
    (do eqGuard op t x y a b; binOp op t a b : Sem Value).run P w = .ok r w := by
  cases a with
  | string n =>
    cases b with
    | string m =>
      simp only [binV] at h
      cases op <;> simp only [Option.some.injEq, reduceCtorEq] at h
      case add =>
        split at h
        · cases h
          have hn : ¬ ((n.size + m.size : Nat) : Int) > 9223372036854775807 := by omega
          simp only [eqGuard_at_string, binOp, Op.stringOp, IntKind.max_i64]
          rw [if_neg hn]
          rfl
        · cases h
      all_goals (subst h; simp [eqGuard_at_string, binOp, Op.stringOp, beqBytes, strEq])
    | _ => simp [binV] at h
  | _ => simp [binV] at h

theorem run_binBool {P : Program} {op : BinOp} {t : TypeId} (ht : P.underlying t = some .bool) {x y : Operand} {a b : Value} {r : Value} (h : binV .bool op a b = some r) (w : World) :
    (do eqGuard op t x y a b; binOp op t a b : Sem Value).run P w = .ok r w := by
  cases a with
  | bool n =>
    cases b with
    | bool m =>
      have he : (Op.equal t (.bool n) (.bool m)).run P w = .ok (n == m) w := run_equalIn_bool w 9999 t n m ht
      simp only [binV] at h
      cases op <;> simp only [Option.some.injEq, reduceCtorEq] at h
      case eql =>
        subst h
        have e : binOp .eql t (.bool n) (.bool m) = (do pure (.bool (← Op.equal t (.bool n) (.bool m)))) := rfl
        simp only [eqGuard_at_bool, e, Sem.run_bind, Sem.run_pure, Result.andThen_ok, he]
        cases n <;> cases m <;> rfl
      case neq =>
        subst h
        have e : binOp .neq t (.bool n) (.bool m) = (do pure (.bool (!(← Op.equal t (.bool n) (.bool m))))) := rfl
        simp only [eqGuard_at_bool, e, Sem.run_bind, Sem.run_pure, Result.andThen_ok, he]
        cases n <;> cases m <;> rfl
    | _ => simp [binV] at h
  | _ => simp [binV] at h

theorem op_bin (h : SRel S A0 O w0 A σ w st tm) {k : Sc} {op : BinOp} {t u : TypeId} {x y : Operand} {x' y' : AOpd} (ho : o.op = .binOp op t x y u) (hk : k = .bool → S.P.underlying t = some .bool)
    (h1 : cOpd S x = some x') (h2 : cOpd S y = some y') (ha : aop (.bin k op x' y') d st = some (v, st')) : OpOk S A0 O w0 w tm df o v st' := by
  have g1 := h.ev (df := df) h1
  have g2 := h.ev (df := df) h2
  simp only [aop] at ha
  split at ha
  · rename_i a b he1 he2
    rw [he1] at g1
    rw [he2] at g2
    have e1 := g1.rel.v_inv
    have e2 := g2.rel.v_inv
    split at ha
    · rename_i r hr
      simp only [Option.some.injEq, Prod.mk.injEq] at ha
      obtain ⟨rfl, rfl⟩ := ha
      refine .same h (rv := r) ?_ (gotV r)
      have key : (do eqGuard op t x y a b; binOp op t a b : Sem Value).run S.P w = .ok r w := by
        cases k with
        | int => exact run_binInt hr w
        | str => exact run_binStr hr w
        | bool => exact run_binBool (hk rfl) hr w
      simp only [execOp, ho, e1, e2]
      rw [Sem.run_bind, key]
      rfl
    · cases ha
  · cases ha

theorem op_fa (h : SRel S A0 O w0 A σ w st tm) {t : TypeId} {x : Operand} {x' : AOpd} {f n : Nat} {fs : Array Field} {fl : Field} (ho : o.op = .fieldAddr t x f) (hu : S.P.underlying t = some (.struct fs)) (hf : fs[f]? = some fl)
    (hs : cSize S.P fl.type = some n) (hn : 0 < n) (h1 : cOpd S x = some x') (ha : aop (.fa fl.offset x') d st = some (v, st')) : OpOk S A0 O w0 w tm df o v st' := by
  have g1 := h.ev (df := df) h1
  obtain ⟨i, hi, rfl⟩ : ∃ i, S.P.info? fl.type = some i ∧ i.size = n := by simpa [cSize] using hs
  have key : ∀ b off, Act.eval ⟨tm, df⟩ x = .pointer (some ⟨b, off, none⟩) → (execOp (Act.eval ⟨tm, df⟩) o).run S.P w = .ok (.value (.pointer (some ⟨b, off + fl.offset, none⟩))) w := by
    intro b off e
    have hn' : ¬ i.size = 0 := by omega
    simp [execOp, ho, e, Instr.fieldAt, run_underlying hu, hf, Instr.sureAddr, fieldPlace, Go.sizeOf, typeInfo, hi, hn', Addr.add_lit]
  simp only [aop] at ha
  split at ha
  · rename_i s off he
    rw [he] at g1
    obtain ⟨b, e, hs⟩ := g1.rel.pv_inv
    simp only [Option.some.injEq, Prod.mk.injEq] at ha; obtain ⟨rfl, rfl⟩ := ha
    exact .same h (key _ _ e) ⟨.pv hs, fun s' hs' => g1.dang s' (by simpa [AV.refs] using hs')⟩
  · rename_i s z j off he
    rw [he] at g1
    obtain ⟨b, e, hs⟩ := g1.rel.pe_inv
    simp only [Option.some.injEq, Prod.mk.injEq] at ha; obtain ⟨rfl, rfl⟩ := ha
    exact .same h (key _ _ e) ⟨by rw [Nat.add_assoc]; exact .pe hs, fun s' hs' => g1.dang s' (by simpa [AV.refs] using hs')⟩
  · rename_i cs off he
    rw [he] at g1
    obtain ⟨b, o', u, e, h2, h3, h4⟩ := g1.rel.ep_inv
    simp only [Option.some.injEq, Prod.mk.injEq] at ha; obtain ⟨rfl, rfl⟩ := ha
    exact .same h (key _ _ e) ⟨by rw [Nat.add_assoc]; exact .of0 (.ep h2 h3 h4), fun s' hs' => by simp [AV.refs] at hs'⟩
  · cases ha

/-- A part of several cells that are told. -/
theorem getD_extract (vs : Array Value) (a n i : Nat) (hi : i < n) (hn : a + n ≤ vs.size) : (vs.extract a (a + n)).getD i undef = vs.getD (a + i) undef := by
  simp only [Array.getD_eq_getD_getElem?, Array.getElem?_extract]
  rw [if_pos (by omega)]

theorem refs_sub {cs : List AV} {off n : Nat} {s : Nat} (h : s ∈ AV.refsL ((cs.drop off).take n)) : s ∈ AV.refsL cs := by
  rw [mem_refsL] at h ⊢
  obtain ⟨x, hx, hs⟩ := h
  exact ⟨x, List.mem_of_mem_drop (List.mem_of_mem_take hx), hs⟩

theorem cAgg_none {P : Program} {t : TypeId} (h : cAgg P t = some none) (w : World) : (isAgg t).run P w = .ok false w := by
  unfold cAgg at h
  split at h
  · split at h
    · split at h <;> simp at h
    · cases h
  · split at h
    · split at h <;> simp at h
    · cases h
  · rename_i dd h1 h2 h3
    unfold isAgg
    rw [Sem.run_bind, run_underlying h3]
    cases dd <;> simp_all
  · cases h
theorem cAgg_some {P : Program} {t : TypeId} {n : Nat} (h : cAgg P t = some (some n)) (w : World) : (isAgg t).run P w = .ok true w ∧ ∃ i, P.info? t = some i ∧ i.size = n ∧ 0 < n := by
  unfold cAgg at h
  have fin : ∀ m, cSize P t = some m → ∃ i, P.info? t = some i ∧ i.size = m := by intro m hm; simpa [cSize] using hm
  split at h
  · rename_i hu
    split at h
    · rename_i m hm
      split at h
      · cases h
        obtain ⟨i, h1, h2⟩ := fin _ hm
        exact ⟨by unfold isAgg; rw [Sem.run_bind, run_underlying hu]; rfl, i, h1, h2, by assumption⟩
      · cases h
    · cases h
  · rename_i hu
    split at h
    · rename_i m hm
      split at h
      · cases h
        obtain ⟨i, h1, h2⟩ := fin _ hm
        exact ⟨by unfold isAgg; rw [Sem.run_bind, run_underlying hu]; rfl, i, h1, h2, by assumption⟩
      · cases h
    · cases h
  · cases h
  · cases h

theorem op_fld (h : SRel S A0 O w0 A σ w st tm) {t : TypeId} {x : Operand} {x' : AOpd} {f : Nat} {n : Option Nat} {fs : Array Field} {fl : Field} (ho : o.op = .field t x f) (hu : S.P.underlying t = some (.struct fs)) (hf : fs[f]? = some fl)
    (hs : cAgg S.P fl.type = some n) (h1 : cOpd S x = some x') (ha : aop (.fld fl.offset n x') d st = some (v, st')) : OpOk S A0 O w0 w tm df o v st' := by
  have g1 := h.ev (df := df) h1
  simp only [aop] at ha
  split at ha
  · rename_i cs he
    rw [he] at g1
    obtain ⟨vs, e, hl, hv⟩ := g1.rel.agg_inv
    have hd : ∀ s ∈ AV.refsL cs, st.hp s ≠ none := fun s hs => g1.dang s (by rw [AV.refs]; exact hs)
    split at ha
    · rename_i y hy
      simp only [Option.some.injEq, Prod.mk.injEq] at ha; obtain ⟨rfl, rfl⟩ := ha
      cases n with
      | none =>
        simp only [partA] at hy
        split at hy
        · rename_i a hx
          split at hy
          · cases hy
            have hi : fl.offset < vs.size := by have := (List.getElem?_eq_some_iff.1 hx).1; omega
            refine .same h (rv := vs.getD fl.offset undef) ?_ ⟨hv _ _ hx, fun s hs => hd s (mem_refsL.2 ⟨_, List.mem_of_getElem? hx, hs⟩)⟩
            simp [execOp, ho, e, Instr.field, run_underlying hu, hf, asAgg, part, cAgg_none hs, Array.getD, hi]
          · cases hy
        · cases hy
      | some n =>
        obtain ⟨k1, i, k2, rfl, k3⟩ := cAgg_some hs w
        simp only [partA] at hy
        split at hy
        · rename_i hle
          cases hy
          refine .same h (rv := .agg (vs.extract fl.offset (fl.offset + i.size))) ?_ ⟨.agg (by simp; omega) fun j a hj => ?_, fun s hs => hd s (refs_sub (by rw [AV.refs] at hs; exact hs))⟩
          · simp [execOp, ho, e, Instr.field, run_underlying hu, hf, asAgg, part, k1, Go.sizeOf, typeInfo, k2]
          · have hj' : j < i.size := by have := (List.getElem?_eq_some_iff.1 hj).1; simp at this; omega
            rw [getD_extract _ _ _ _ hj' (by omega)]
            rw [List.getElem?_take_of_lt hj', List.getElem?_drop] at hj
            exact hv _ _ hj
        · cases hy
    · cases ha
  · cases ha

/-- The cells behind a pointer of the state. -/
theorem SRel.cellsAt (h : SRel S A0 O w0 A σ w st tm) {x : AV} {rv : Value} (g : Got S A σ w st x rv) {cs : List AV} {off : Nat} (hc : Ab.cellsAt st.hp x = some (cs, off)) :
    ∃ b o0, ∃ u : Nat → Value, rv = .pointer (some ⟨b, o0 + off, none⟩) ∧ (∀ j, j < cs.length → w.cell? ⟨b, o0 + j, none⟩ = some (u j)) ∧ (∀ (j : Nat) (a : AV), cs[j]? = some a → Got S A σ w st a (u j)) := by
  unfold Ab.cellsAt at hc
  split at hc
  · rename_i cs' off'
    simp only [Option.some.injEq, Prod.mk.injEq] at hc; obtain ⟨rfl, rfl⟩ := hc
    obtain ⟨b, o', u, e, h2, h3, h4⟩ := g.rel.ep_inv
    refine ⟨b, o', u, e, h3, fun j a hj => ⟨.of0 (h4 j a hj), fun s hs => ?_⟩⟩
    exfalso
    exact no_refs0 (h4 j a hj) s hs
  · rename_i s off'
    split at hc
    · rename_i cs' hb
      simp only [Option.some.injEq, Prod.mk.injEq] at hc; obtain ⟨rfl, rfl⟩ := hc
      obtain ⟨b, e, hs⟩ := g.rel.pv_inv
      obtain ⟨b', vs, el, k1, k2, k3, k4⟩ := h.hp _ _ hb
      obtain rfl : b' = b := Option.some.inj (k1.symm.trans hs)
      refine ⟨b', 0, fun j => vs.getD j undef, by simpa using e, fun j hj => ?_, fun j a hj => ⟨k4 j a hj, fun s' hs' => h.dangV _ _ hb s' (mem_refsL.2 ⟨a, List.mem_of_getElem? hj, hs'⟩)⟩⟩
      have hj' : j < vs.size := by omega
      simp [World.cell?, k2, hj', Array.getD]
    · cases hc
  · rename_i s z i off'
    split at hc
    · rename_i z' es hb
      split at hc
      · rename_i hz
        subst hz
        split at hc
        · rename_i cs' hes
          simp only [Option.some.injEq, Prod.mk.injEq] at hc; obtain ⟨rfl, rfl⟩ := hc
          obtain ⟨b, e, hs⟩ := g.rel.pe_inv
          obtain ⟨k0, ⟨k1, rfl⟩ | ⟨b', vs, el, k1, k2, k3, _, k4⟩⟩ := h.hp _ _ hb
          · simp at hes
          · obtain rfl : b' = b := Option.some.inj (k1.symm.trans hs)
            have hz : cs'.length = z := k0 _ (List.mem_of_getElem? hes)
            have hi : i < es.length := (List.getElem?_eq_some_iff.1 hes).1
            refine ⟨b', i * z, fun j => vs.getD (i * z + j) undef, e, fun j hj => ?_, fun j a hj => ⟨.of0 (k4 i _ j a hes hj), fun s' hs' => (no_refs0 (k4 i _ j a hes hj) s' hs').elim⟩⟩
            have hj' : i * z + j < vs.size := by
              have : (i + 1) * z ≤ es.length * z := Nat.mul_le_mul_right _ hi
              rw [Nat.add_mul] at this
              omega
            simp [World.cell?, k2, hj', Array.getD]
        · cases hc
      · cases hc
    · cases hc
  · cases hc
end
end Ab
