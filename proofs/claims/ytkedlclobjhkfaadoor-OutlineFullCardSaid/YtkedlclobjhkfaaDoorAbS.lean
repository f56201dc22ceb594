/-
  Functions of the abstract machine are those of the real one.
-/
import Derived.Test.YtkedlclobjhkfaaDoorAbR
namespace Ab
open Go Go.RowKit
set_option linter.unusedVariables false
set_option linter.unusedSimpArgs false
set_option linter.unnecessarySimpa false

section
variable {S : Seat} {A0 O : Nat → Prop} {w0 : World} {A : Nat → Prop} {σ : Nat → Option Nat} {w w' : World} {st st' : ASt} {tm : Array Value}

theorem run_loadAt (h : SRel S A0 O w0 A σ w st tm) {x : AV} {rv : Value} (g : Got S A σ w st x rv) {t : TypeId} {n : Option Nat} (hs : cAgg S.P t = some n) {cs : List AV} {off : Nat} (he : Ab.cellsAt st.hp x = some (cs, off)) {y : AV} (hy : partA cs off n = some y) :
    ∃ a v, rv = .pointer (some a) ∧ (loadVar t a).run S.P w = .ok v w ∧ Got S A σ w st y v := by
  obtain ⟨b, o0, u, e, h2, h3⟩ := h.cellsAt g he
  cases n with
  | none =>
    simp only [partA] at hy
    split at hy
    · rename_i a hx
      split at hy
      · cases hy
        have hi : off < cs.length := (List.getElem?_eq_some_iff.1 hx).1
        exact ⟨_, u off, e, by simp [loadVar, cAgg_none hs, h2 off hi], h3 _ _ hx⟩
      · cases hy
    · cases hy
  | some n =>
    obtain ⟨k1, i, k2, rfl, k3⟩ := cAgg_some hs w
    simp only [partA] at hy
    split at hy
    · rename_i hle
      cases hy
      have hl := run_loadCells (P := S.P) w ⟨b, o0 + off, none⟩ i.size (fun j => u (off + j)) (fun j hj => by rw [Addr.add_lit, Nat.add_assoc]; exact h2 (off + j) (by omega))
      refine ⟨_, .agg ((List.range i.size).map fun j => u (off + j)).toArray, e, by simp [loadVar, k1, Go.sizeOf, typeInfo, k2, hl], .agg (by simp; omega) fun j a hj => ?_, fun s hs => ?_⟩
      · have hj' : j < i.size := by have := (List.getElem?_eq_some_iff.1 hj).1; simp at this; omega
        rw [List.getElem?_take_of_lt hj', List.getElem?_drop] at hj
        have := (h3 _ _ hj).rel
        simpa [Array.getD, hj'] using this
      · rw [AV.refs] at hs
        have hs' := refs_sub hs
        rw [mem_refsL] at hs'
        obtain ⟨a, ha, hsa⟩ := hs'
        obtain ⟨j, hj⟩ := List.mem_iff_getElem?.1 ha
        exact (h3 j a hj).dang s hsa
    · cases hy

def resSem (tm : Array Value) : ResultVar → Sem Value
  | .tmp t => pure (tm.getD t undef)
  | .cell a t => do loadVar t (← asAddr (tm.getD a undef))

theorem resVal_ok (h : SRel S A0 O w0 A σ w st tm) {r : ResultVar} {a : ARes} (hc : cRes S.P r = some a) {y : AV} (hy : resVal st a = some y) : ∃ v, (resSem tm r).run S.P w = .ok v w ∧ Got S A σ w st y v := by
  cases r with
  | tmp t =>
    simp only [cRes, Option.some.injEq] at hc
    subst hc
    simp only [resVal, Option.some.injEq] at hy
    subst hy
    exact ⟨_, by simp [resSem], h.fr t, h.dang t⟩
  | cell t ty =>
    simp only [cRes, Option.map_eq_some_iff] at hc
    obtain ⟨n, hn, rfl⟩ := hc
    simp only [resVal] at hy
    split at hy
    · rename_i cs off he
      obtain ⟨a, v, e, hr, hg⟩ := run_loadAt h ⟨h.fr t, h.dang t⟩ hn he hy
      exact ⟨v, by simp [resSem, e, asAddr, hr], hg⟩
    · cases hy

theorem resL_ok (h : SRel S A0 O w0 A σ w st tm) : ∀ (l : List ResultVar) (res : List ARes) (ys : List AV), optAll (cRes S.P) l = some res → optAll (resVal st) res = some ys →
    ∃ vs : List Value, (l.mapM (resSem tm)).run S.P w = .ok vs w ∧ ys.length = vs.length ∧ ∀ (i : Nat) (y : AV), ys[i]? = some y → Got S A σ w st y (vs.getD i undef)
  | [], res, ys, h1, h2 => by
    simp only [optAll, Option.some.injEq] at h1
    subst h1
    simp only [optAll, Option.some.injEq] at h2
    subst h2
    exact ⟨[], by simp, rfl, by simp⟩
  | r :: l, res, ys, h1, h2 => by
    simp only [optAll] at h1
    split at h1
    · rename_i a res' ha hres
      simp only [Option.some.injEq] at h1
      subst h1
      simp only [optAll] at h2
      split at h2
      · rename_i y ys' hy hys
        simp only [Option.some.injEq] at h2
        subst h2
        obtain ⟨v, k1, k2⟩ := resVal_ok h ha hy
        obtain ⟨vs, q1, q2, q3⟩ := resL_ok h l res' ys' hres hys
        refine ⟨v :: vs, by simp [List.mapM_cons, k1, q1], by simp [q2], fun i x hx => ?_⟩
        cases i with
        | zero => simp at hx; subst hx; exact k2
        | succ i => simp at hx; simpa using q3 i x hx
      · cases h2
    · cases h1

theorem results_ok (h : SRel S A0 O w0 A σ w st tm) {fn : Func} {res : List ARes} {ys : List AV} (h1 : optAll (cRes S.P) fn.results.toList = some res) (h2 : optAll (resVal st) res = some ys) :
    ∃ vs : Array Value, (results fn tm).run S.P w = .ok (if h : vs.size = 1 then vs[0] else .tuple vs) w ∧ ys.length = vs.size ∧ ∀ (i : Nat) (y : AV), ys[i]? = some y → Got S A σ w st y (vs.getD i undef) := by
  obtain ⟨vs, k1, k2, k3⟩ := resL_ok h _ _ _ h1 h2
  refine ⟨vs.toArray, ?_, by simpa using k2, fun i y hy => by simpa [Array.getD_eq_getD_getElem?] using k3 i y hy⟩
  have e2 : results fn tm = (do let vs ← fn.results.mapM (resSem tm); pure (if h : vs.size = 1 then vs[0] else .tuple vs)) :=
    congrArg (fun (f : ResultVar → Sem Value) => (do let vs ← fn.results.mapM f; pure (if h : vs.size = 1 then vs[0] else Value.tuple vs) : Sem Value)) (funext fun x => by cases x <;> rfl)
  rw [e2, Array.mapM_eq_mapM_toList]
  simp [k1]

theorem argR_of0 {x : AV} {v : Value} (h : VR0 S A w x v) : ArgR S A w none x v := by
  cases x with
  | own z es => cases h
  | _ => exact ⟨rfl, h⟩

theorem retR_of {β : Nat → Option Nat} (hβ : ∀ i b, β i = some b → w.heap.size ≤ b ∧ b < w'.heap.size) (hinj : ∀ i j b, β i = some b → β j = some b → i = j) {ys : List AV} {vs : Array Value} (hl : ys.length = vs.size)
    (ha : ∀ (i : Nat) (x : AV), ys[i]? = some x → ArgR S (After A β w w') w' (β i) x (vs.getD i undef)) : RetR S A w w' (oneOrTup ys) (if h : vs.size = 1 then vs[0] else .tuple vs) := by
  by_cases h1 : vs.size = 1
  · rw [dif_pos h1]
    have e : vs[0] = vs.getD 0 undef := by simp [Array.getD, h1]
    match ys, hl, ha with
    | [x], _, ha =>
      have hx := ha 0 x rfl
      rw [← e] at hx
      rw [show oneOrTup [x] = x from rfl]
      by_cases ht : ∃ rs, x = .tup rs
      · obtain ⟨rs, rfl⟩ := ht
        have hx2 : VR0 S (After A β w w') w' (.tup rs) vs[0] := hx.2
        have hx3 := hx2.mono (A' := After A (fun _ => none) w w') (fun b hb => ⟨hb.1, hb.2.1, by simp⟩) (fun _ _ => rfl)
        generalize vs[0] = v at hx3
        refine ⟨fun _ => none, by simp, by simp, ?_⟩
        cases hx3 with
        | tup q1 q2 => exact ⟨_, rfl, q1, fun i y hy => argR_of0 (q2 i y hy)⟩
      · refine ⟨β, hβ, hinj, ?_⟩
        cases x with
        | tup rs => exact absurd ⟨rs, rfl⟩ ht
        | _ => exact hx
    | [], hl, _ => simp at hl; omega
    | _ :: _ :: _, hl, _ => simp at hl; omega
  · rw [dif_neg h1]
    have e : oneOrTup ys = .tup ys := by
      match ys, hl with
      | [], _ => rfl
      | [x], hl => simp at hl; omega
      | _ :: _ :: _, _ => rfl
    rw [e]
    exact ⟨β, hβ, hinj, vs, rfl, hl, ha⟩

theorem nodup_at : ∀ (rs : List AV) (i j : Nat) (x y : AV) (s : Nat), nodupB (AV.refsL rs) = true → rs[i]? = some x → rs[j]? = some y → s ∈ x.refs → s ∈ y.refs → i = j := by
  have app : ∀ (a b : List Nat), nodupB (a ++ b) = true → nodupB b = true ∧ ∀ s, s ∈ a → s ∈ b → False := by
    intro a b
    induction a with
    | nil => intro h; exact ⟨h, by simp⟩
    | cons x a ih =>
      intro h
      simp only [List.cons_append, nodupB, Bool.and_eq_true, Bool.not_eq_true', List.contains_eq_mem, decide_eq_false_iff_not, List.mem_append] at h
      obtain ⟨k1, k2⟩ := ih h.2
      refine ⟨k1, fun s hs hb => ?_⟩
      rcases List.mem_cons.1 hs with rfl | hs
      · exact h.1 (.inr hb)
      · exact k2 s hs hb
  intro rs
  induction rs with
  | nil => intro i j x y s _ h; simp at h
  | cons a rs ih =>
    intro i j x y s hn hi hj hx hy
    rw [AV.refsL] at hn
    obtain ⟨k1, k2⟩ := app _ _ hn
    cases i with
    | zero =>
      cases j with
      | zero => rfl
      | succ j =>
        simp at hi hj
        subst hi
        exact (k2 s hx (mem_refsL.2 ⟨y, List.mem_of_getElem? hj, hy⟩)).elim
    | succ i =>
      cases j with
      | zero =>
        simp at hi hj
        subst hj
        exact (k2 s hy (mem_refsL.2 ⟨x, List.mem_of_getElem? hi, hx⟩)).elim
      | succ j =>
        simp at hi hj
        rw [ih i j x y s k1 hi hj hx hy]

/-- What a function hands back. -/
theorem export_ok (h : SRel S A (fun _ => False) w A0 σ w' st tm) {own : Bool} {res : List ARes} {r : AV} {outs : List (List (List AV))} {fn : Func} (h1 : optAll (cRes S.P) fn.results.toList = some res) (he : export_ own [] res st = some (r, outs)) :
    outs = [] ∧ ∃ v, (results fn tm).run S.P w' = .ok v w' ∧ RetR S A w w' r v := by
  unfold export_ at he
  split at he
  · rename_i rs hrs
    obtain ⟨vs, k1, k2, k3⟩ := results_ok h h1 hrs
    have hA : ∀ b, A0 b → (A b ∨ w.heap.size ≤ b) ∧ b < w'.heap.size := fun b hb => ⟨(h.Asub b hb).imp id fun e => e.resolve_right (fun e => e), h.Alt b hb⟩
    have hσ : ∀ s b, σ s = some b → w.heap.size ≤ b ∧ b < w'.heap.size := fun s b hs => ⟨(h.dom s b hs).2.2.2.resolve_right (fun e => e), (h.dom s b hs).2.1⟩
    cases own with
    | true =>
      simp only [if_true] at he
      split at he
      · rename_i hnd
        split at he
        · rename_i ys hys
          simp only [Option.some.injEq, Prod.mk.injEq] at he
          obtain ⟨rfl, rfl⟩ := he
          obtain ⟨d1, d2⟩ := optAll_get hys
          let β : Nat → Option Nat := fun i => match rs[i]? with | some (.lsl s z 0 n) => (match st.hp s with | some (.arr z' es) => if z = z' ∧ n = es.length ∧ s < 1000 then σ s else none | _ => none) | _ => none
          have hβ : ∀ i b, β i = some b → ∃ s x, rs[i]? = some x ∧ s ∈ x.refs ∧ σ s = some b := by
            intro i b hb
            simp only [β] at hb
            split at hb
            · rename_i s z n hi
              split at hb
              · split at hb
                · exact ⟨s, _, hi, by simp [AV.refs], hb⟩
                · cases hb
              · cases hb
            · cases hb
          refine ⟨rfl, _, k1, retR_of (β := β) (fun i b hb => ?_) (fun i j b hi hj => ?_) (by omega) fun i y hy => ?_⟩
          · obtain ⟨s, x, _, _, hs⟩ := hβ i b hb
            exact hσ s b hs
          · obtain ⟨s, x, q1, q2, q3⟩ := hβ i b hi
            obtain ⟨s', x', q1', q2', q3'⟩ := hβ j b hj
            obtain rfl := h.inj s s' b q3 q3'
            exact nodup_at rs i j x x' s hnd.1 q1 q1' q2 q2'
          · have hAft : ∀ b, A0 b → After A β w w' b := fun b hb => ⟨(hA b hb).1, (hA b hb).2, fun i e => by
              obtain ⟨s, x, _, _, hs⟩ := hβ i b e
              exact (h.dom s b hs).2.2.1 hb⟩
            obtain ⟨x0, hx0, hx1⟩ := d2 i y hy
            have hg := k3 i x0 hx0
            have plain : β i = none → x0.refs = [] → y = x0 → ArgR S (After A β w w') w' (β i) y (vs.getD i undef) := by
              rintro hb hr rfl
              rw [hb]
              exact argR_of0 ((hg.rel.to0 hr).mono hAft fun _ _ => rfl)
            have other : (∀ s z n, x0 ≠ .lsl s z 0 n) → ArgR S (After A β w w') w' (β i) y (vs.getD i undef) := by
              intro hne
              have : (if x0.refs.isEmpty then some x0 else none) = some y := by
                cases x0 with
                | lsl s z off n =>
                  cases off with
                  | zero => exact absurd rfl (hne _ _ _)
                  | succ off => exact hx1
                | _ => exact hx1
              split at this
              · rename_i hr
                have e := Option.some.inj this
                refine plain ?_ (by simpa using hr) e.symm
                clear hx1 this e
                cases x0 with
                | lsl s z off n => simp [AV.refs] at hr
                | _ => simp [β, hx0]
              · cases this
            by_cases hl : ∃ s z n, x0 = .lsl s z 0 n
            · obtain ⟨s, z, n, rfl⟩ := hl
              simp only [expOwn] at hx1
              split at hx1
              · rename_i z' es hb
                split at hx1
                · rename_i hcond
                  cases hx1
                  obtain ⟨rfl, rfl, hs1000⟩ := hcond
                  have hβi : β i = σ s := by simp [β, hx0, hb, hs1000]
                  rw [hβi]
                  obtain ⟨b0, bb⟩ := h.hp s _ hb
                  refine (show OwnRel S _ w' (σ s) z es (vs.getD i undef) from ⟨b0, ?_⟩)
                  rcases hg.rel.lsl_inv with ⟨_, q2, q3, q4⟩ | ⟨b, o, cap, cs, el, e1, q0, q1, q2, q3, q4, q5⟩
                  · exact .inl ⟨q3, List.length_eq_zero_iff.1 q2, by rw [q4]⟩
                  · rcases bb with ⟨m1, m2⟩ | ⟨b', cs', el', m1, m2, m3, m4, m5⟩
                    · rw [m1] at q0; cases q0
                    · obtain rfl : b' = b := Option.some.inj (m1.symm.trans q0)
                      rw [q3] at m2
                      cases m2
                      have ho : o = 0 := by have := q2 (.inr rfl); omega
                      subst ho
                      exact .inr ⟨b', cap, cs, el, q0, e1, q1, q5, q3, by simpa using q4, m4, fun i' e' c x h1 h2 => (m5 i' e' c x h1 h2).mono hAft fun _ _ => rfl⟩
                · cases hx1
              · cases hx1
            · exact other fun s z n e => hl ⟨s, z, n, e⟩
        · cases he
      · cases he
    | false =>
      simp only [Bool.false_eq_true, if_false, if_true] at he
      split at he
      · rename_i ys hys
        simp only [Option.some.injEq, Prod.mk.injEq] at he
        obtain ⟨rfl, rfl⟩ := he
        obtain ⟨d1, d2⟩ := optAll_get hys
        refine ⟨rfl, _, k1, retR_of (β := fun _ => none) (by simp) (by simp) (by omega) fun i y hy => ?_⟩
        obtain ⟨x0, hx0, hx1⟩ := d2 i y hy
        exact argR_of0 (snap2_rel h (fun b hb => ⟨(hA b hb).1, (hA b hb).2, by simp⟩) (k3 i x0 hx0).rel hx1 fun s b hs _ => ⟨.inr (hσ s b hs).1, (hσ s b hs).2, by simp⟩)
      · cases he
  · cases he

/-! ### a function's begin -/

theorem argsFit_own : ∀ (i : Nat) (args : List AV), argsFit [] i args = true → ∀ x ∈ args, isOwn x = false
  | _, [], _, _, hx => by cases hx
  | i, a :: r, h, x, hx => by
    simp only [argsFit, List.contains_nil, Bool.and_eq_true, beq_iff_eq] at h
    rcases List.mem_cons.1 hx with rfl | hx
    · exact h.1
    · exact argsFit_own (i + 1) r h.2 x hx

theorem enterHp_none : ∀ (i : Nat) (args : List AV), (∀ x ∈ args, isOwn x = false) → enterHp i args = fun _ => none
  | _, [], _ => rfl
  | i, a :: r, h => by
    have ih := enterHp_none (i + 1) r fun x hx => h x (List.mem_cons_of_mem _ hx)
    have ha := h a List.mem_cons_self
    cases a with
    | own z es => simp [isOwn] at ha
    | _ => simp only [enterHp, ih]

theorem enterFr_get : ∀ (i : Nat) (args : List AV) (k : Nat), (∀ x ∈ args, isOwn x = false) → enterFr i args k = .bot ∨ (i ≤ k ∧ args[k - i]? = some (enterFr i args k))
  | _, [], _, _ => .inl rfl
  | i, a :: r, k, h => by
    have ih := enterFr_get (i + 1) r k fun x hx => h x (List.mem_cons_of_mem _ hx)
    have ha := h a List.mem_cons_self
    simp only [enterFr, upd]
    split
    · rename_i e
      subst e
      refine .inr ⟨Nat.le_refl _, ?_⟩
      simp only [Nat.sub_self, List.getElem?_cons_zero]
      cases a with
      | own z es => simp [isOwn] at ha
      | _ => rfl
    · rcases ih with ih | ⟨h1, h2⟩
      · exact .inl ih
      · refine .inr ⟨by omega, ?_⟩
        rw [show k - i = (k - (i + 1)) + 1 by omega, List.getElem?_cons_succ]
        exact h2

theorem enter_ok {args : List AV} {vs : Array Value} (hf : argsFit [] 0 args = true) (hl : vs.size = args.length) (hA : (∀ b, A b → b < w.heap.size) ∧ Inv S w) (ha : ∀ (i : Nat) (x : AV), args[i]? = some x → VR0 S A w x (vs.getD i undef)) (m : Nat) :
    SRel S A (fun _ => False) w A (fun _ => none) w (enter args) (vs ++ Array.replicate m undef) := by
  have ho := argsFit_own 0 args hf
  have hh : (enter args).hp = fun _ => none := by simp only [enter]; exact enterHp_none 0 args ho
  have hget : ∀ k, (enter args).fr k = .bot ∨ VR0 S A w ((enter args).fr k) ((vs ++ Array.replicate m undef).getD k undef) := by
    intro k
    rcases enterFr_get 0 args k ho with h | ⟨_, h⟩
    · exact .inl h
    · refine .inr ?_
      simp only [Nat.sub_zero] at h
      have := ha k _ h
      have hk : k < vs.size := by rw [hl]; exact (List.getElem?_eq_some_iff.1 h).1
      have e : (vs ++ Array.replicate m undef).getD k undef = vs.getD k undef := by
        rw [Array.getD_eq_getD_getElem?, Array.getElem?_append_left hk, Array.getD_eq_getD_getElem?]
      rw [e]
      exact this
  refine ⟨fun k => ?_, fun s blk hb => ?_, fun k s hs => ?_, fun s cs hs => ?_, fun s b hs => ?_, fun s s' b hs => ?_, hA.1, fun b hb => .inl hb, .refl _ _, fun b hb => hb.elim, fun _ _ h => h, hA.2⟩
  · rcases hget k with h | h
    · rw [h]; exact .of0 (.bot _)
    · exact .of0 h
  · rw [hh] at hb; cases hb
  · rcases hget k with h | h
    · rw [h] at hs; simp [AV.refs] at hs
    · exact (no_refs0 h s hs).elim
  · rw [hh] at hs; cases hs
  · cases hs
  · cases hs

/-- A function that answers so in the abstract machine answers so. -/
theorem func_sound (hS : Callable S) {g id : Nat} {fn : Func} {f : AFunc} (hg : S.P.funcs[g]? = some fn) (hc : cFunc S id fn = some f) (hD : noDraw f.body = true ∨ DrawOk S) {args : List AV} {r : AV} {outs : List (List (List AV))}
    (hb : BodyR (realRets S) f args r outs) : outs = [] ∧ RealRet S g args r := by
  unfold cFunc at hc
  split at hc
  · rename_i body res hbody hres
    split at hc
    · rename_i hcond
      obtain ⟨hnt, hmut⟩ := hcond
      cases hc
      obtain ⟨hlen, hfit, e, st', hex, hend, hexp⟩ := hb
      simp only at hlen hfit hex hexp hD
      rw [hmut] at hfit hexp
      obtain ⟨c, hfb, hcc⟩ : ∃ c, fn.body = some c ∧ cCode S fn.ntmps c = some body := by
        cases hfb : fn.body with
        | none => simp [hfb] at hbody
        | some c => simp [hfb] at hbody; exact ⟨c, rfl, hbody⟩
      have main : ∀ (A : Nat → Prop) (w : World) (vs : Array Value), vs.size = args.length → ((∀ b, A b → b < w.heap.size) ∧ Inv S w) → (∀ (i : Nat) (x : AV), args[i]? = some x → VR0 S A w x (vs.getD i undef)) →
          c.wp S.P (fun ex a w' => (ex = .normal ∨ ex = .ret) ∧ a.defers = [] ∧ ∃ A' σ', SRel S A (fun _ => False) w A' σ' w' st' a.tmps) { tmps := vs ++ Array.replicate (fn.ntmps - vs.size) undef, defers := [] } w := by
        intro A w vs hl hA ha
        refine wp_mono (Stm.wp (code_sound hS hex hD hcc (enter_ok hfit hl hA ha _) (by simp; omega))) ?_
        rintro ex a w' ⟨q1, q2, q3, q4⟩
        refine ⟨?_, q2, q4⟩
        subst q1
        rcases hend with rfl | rfl
        · exact .inl rfl
        · exact .inr rfl
      have hout : outs = [] := by
        unfold export_ at hexp
        split at hexp
        · split at hexp
          · split at hexp
            · split at hexp
              · simp only [Option.some.injEq, Prod.mk.injEq] at hexp; exact hexp.2.symm
              · cases hexp
            · cases hexp
          · simp only [if_true] at hexp
            split at hexp
            · simp only [Option.some.injEq, Prod.mk.injEq] at hexp; exact hexp.2.symm
            · cases hexp
        · cases hexp
      refine ⟨hout, fun A w vs hl hA ha => ?_⟩
      refine calls_of_wp hg hfb (wp_mono (main A w vs hl hA ha) ?_)
      rintro ex a w' ⟨q1, q2, A', σ', q3⟩
      obtain ⟨_, v, k1, k2⟩ := export_ok q3 hres hexp
      rcases q1 with rfl | rfl
      · exact ⟨q2, v, k1, v, rfl, q3.keep, k2⟩
      · exact ⟨q2, v, k1, v, rfl, q3.keep, k2⟩
    · cases hc
  · cases hc

/-- The table's functions answer as their code says. -/
theorem ok_of (hS : Callable S) {G : Nat → Option AFunc} (hG : ∀ g id, assoc g S.fns = some id → ∀ f, G id = some f → ∃ fn, S.P.funcs[g]? = some fn ∧ cFunc S id fn = some f) (hD : ∀ id f, G id = some f → noDraw f.body = true ∨ DrawOk S) : Ok G (realRets S) := by
  intro id f args r outs hf hb g hg
  obtain ⟨fn, h1, h2⟩ := hG g id hg f hf
  exact func_sound hS h1 h2 (hD id f hf) hb
end
end Ab
