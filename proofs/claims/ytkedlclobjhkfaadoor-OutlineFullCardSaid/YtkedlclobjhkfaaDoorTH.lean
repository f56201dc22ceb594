/-
  Typed values over the abstract machine: calls; all operations; regions.
-/
import Derived.Test.YtkedlclobjhkfaaDoorTG
namespace Ab
open Go Go.RowKit
set_option linter.unusedVariables false
set_option linter.unusedSimpArgs false
set_option linter.unnecessarySimpa false

section
variable {S : Seat} {q : Bool} {α : Type} {C : List CSpec} {ty : Ty} {d : Nat} {s : TSt} {k : TV → THp → Option α} {r : α}

/-- What is said of functions is so. -/
def CSound (S : Seat) (C : List CSpec) : Prop := ∀ c ∈ C, ∀ x y, c.fn x = some y → (realRets S).ret c.f (encAL c.sig x) (encA c.res y) []

theorem ret_wk {f : Nat} {as bs : List AV} {r : AV} {outs : List (List (List AV))} (hp : PK as bs) (h : (realRets S).ret f bs r outs) : (realRets S).ret f as r outs := by
  intro g hg
  obtain ⟨h1, h2⟩ := h g hg
  refine ⟨h1, fun A w vs hl hA ha => h2 A w vs (by rw [hl, hp.1]) hA fun i y hy => ?_⟩
  obtain ⟨x, hx⟩ := get_of_len hp.1 hy
  exact (ha i x hx).wk (hp.2 i x y hx hy)

theorem cells_plain {t : Ty} (ht : Sh.flat (.st t) = true) (x : t.den) : (t.cells x).all AV.plain1 = true := by
  cases t <;> first | rfl | (simp [Sh.flat] at ht; done)
theorem flat_plain2 {sh : Sh} (h : sh.flat = true) (x : sh.den) : (encA sh x).plain2 = true := by
  cases sh with
  | err => cases x <;> rfl
  | st t => exact cells_plain h x
  | int => rfl
  | u8 => rfl
  | bool => rfl
  | str => rfl
  | _ => simp [Sh.flat] at h
theorem encAL_all {P : AV → Bool} : ∀ {l : List Sh} (x : Sh.denL l), (∀ sh ∈ l, ∀ y : sh.den, P (encA sh y) = true) → (encAL l x).all P = true
  | [], _, _ => rfl
  | [sh], x, h => by simp only [encAL, List.all_cons, List.all_nil, Bool.and_true]; exact h sh (by simp) x
  | sh :: sh' :: l, x, h => by
    simp only [encAL, List.all_cons, Bool.and_eq_true]
    refine ⟨h sh (by simp) _, ?_⟩
    have := encAL_all (P := P) (l := sh' :: l) x.2 fun sh hs => h sh (List.mem_cons_of_mem _ hs)
    exact this
theorem plain_ok {sh : Sh} (h : sh.plain = true) (x : sh.den) : (encA sh x).plain = true := by
  cases sh with
  | tp l =>
    simp only [Sh.plain] at h
    exact encAL_all x fun sh hs y => flat_plain2 (List.all_eq_true.1 h sh hs) y
  | unit => rfl
  | err => cases x <;> rfl
  | st t => exact cells_plain h x
  | int => rfl
  | u8 => rfl
  | bool => rfl
  | str => rfl
  | _ => simp [Sh.plain, Sh.flat] at h

/-! ### an answer comes in -/

theorem enc_sh {sh : Sh} (hno : ∀ t, sh ≠ .own t) (hnf : ∀ f l, sh ≠ .fnc f l) (hnt : ∀ l, sh ≠ .tp l) (hnu : sh ≠ .unit) (x : sh.den) (h : THp) : lv2 h (enc sh x) = enc sh x ∧ av2 h (enc sh x) = encA sh x ∧ (∀ y ∈ leafs1 (enc sh x), rf1 y = []) := by
  cases sh with
  | own t => exact absurd rfl (hno t)
  | fnc f l => exact absurd rfl (hnf f l)
  | tp l => exact absurd rfl (hnt l)
  | unit => exact absurd rfl hnu
  | err => exact ⟨rfl, rfl, by simp [enc, leafs1, rf1]⟩
  | st t =>
    obtain ⟨t1, t2⟩ := tvs_av t x h
    refine ⟨mk_ag fun y hy => flat_live (t2 y hy).1, ?_, fun y hy => (t2 y hy).1.1⟩
    simp only [enc, av2, encA, t1]
  | ns t => cases x <;> exact ⟨rfl, rfl, by simp [enc, leafs1, rf1]⟩
  | _ => exact ⟨rfl, rfl, by simp [enc, leafs1, rf1]⟩

theorem freeR_push {d' n m : Nat} {t : Ty} {xs : List t.den} (hf : freeR d n s = true) (hne : d' ≠ d) : freeR d n (s.push [(d', .row m t xs)]) = true := by
  simp only [freeR, freeB, TSt.push, List.cons_append, List.nil_append, look_cons, if_neg hne, List.all_cons, Bool.true_and] at hf ⊢
  exact hf

/-- The parts of an answer, one by one. -/
theorem opnL_ok : ∀ (l : List Sh) (i : Nat) (x : Sh.denL l) {s : TSt} {n : Nat} {ys : List TV} {hs : THp}, l.all Sh.ans1 = true → opnL s n d i l x = some (ys, hs) →
    ∃ zs, impL d i (encAL l x) s.toA = some (zs, (s.push hs).toA) ∧ zs = ys.map (A2 (hs ++ s.hp)) ∧ (∀ y ∈ ys, live2 (hs ++ s.hp) y = true) ∧ (∀ r, (∀ j, r ≠ d + 10000 * (i + 1 + j)) → look r .gone (hs ++ s.hp) = look r .gone s.hp) := by
  have one : ∀ (sh : Sh) (x : sh.den) (i : Nat) {s : TSt} {n : Nat}, sh.ans1 = true → (∀ t, sh ≠ .own t) → (∀ (r : List AV) , impL d i (encA sh x :: r) s.toA = match impL d (i + 1) r s.toA with | some (ys, st') => some (encA sh x :: ys, st') | none => none) := by
    intro sh x i s n h1 h2 r
    cases sh with
    | own t => exact absurd rfl (h2 t)
    | ns t => cases x <;> rfl
    | err => cases x <;> rfl
    | _ => rfl
  have good : ∀ (sh : Sh), sh.ans1 = true → (∀ f l, sh ≠ .fnc f l) ∧ (∀ l, sh ≠ .tp l) ∧ sh ≠ .unit := by
    intro sh h
    refine ⟨fun f l e => ?_, fun l e => ?_, fun e => ?_⟩ <;> (subst e; simp [Sh.ans1] at h)
  have nonown : ∀ (sh : Sh) (x : sh.den) (hp : THp), sh.ans1 = true → (∀ t, sh ≠ .own t) → A2 hp (enc sh x) = encA sh x ∧ live2 hp (enc sh x) = true := by
    intro sh x hp h1 h2
    obtain ⟨g1, g2, g3⟩ := good sh h1
    obtain ⟨e1, e2, _⟩ := enc_sh h2 g1 g2 g3 x hp
    refine ⟨by rw [A2, e1, e2], by rw [← e1]; exact live_lv2 _ _⟩
  intro l
  induction l with
  | nil =>
    intro i x s n ys hs _ h
    simp only [opnL, Option.some.injEq, Prod.mk.injEq] at h
    obtain ⟨rfl, rfl⟩ := h
    exact ⟨[], rfl, rfl, by simp, fun r _ => rfl⟩
  | cons sh l ih =>
    intro i x s n ys hs hall h
    simp only [List.all_cons, Bool.and_eq_true] at hall
    by_cases ho : ∃ t, sh = .own t
    · obtain ⟨t, rfl⟩ := ho
      cases l with
      | nil =>
        simp only [opnL] at h
        split at h
        · rename_i hf
          simp only [Option.some.injEq, Prod.mk.injEq] at h
          obtain ⟨rfl, rfl⟩ := h
          obtain ⟨f0, f1⟩ := freeR_ok hf
          have e := toA_push (s := s) (d := d + 10000 * (i + 1)) (b := .row n t x) (.newR f0) fun _ => by rw [freeB_congr (cl1_row _ n t .int _ [])]; exact f1
          have hl : look (d + 10000 * (i + 1)) .gone ((d + 10000 * (i + 1), TB.row n t x) :: s.hp) = .row n t x := by rw [look_cons, if_pos rfl]
          refine ⟨[.lsl (d + 10000 * (i + 1)) t.z 0 x.length], ?_, ?_, ?_, fun r hr => ?_⟩
          · simp only [encAL, encA, impL]
            have e0 : s.toA.hp (d + 10000 * (i + 1)) = none := by rw [toA_hp, f0]; rfl
            simp only [e0, e, List.length_map]
            rfl
          · simp only [List.map_cons, List.map_nil, List.cons_append, List.nil_append]
            rw [A2_leaf rfl, A1]
            simp only [lv1, hl, Nat.beq_refl, av1]
          · intro y hy
            simp only [List.mem_singleton] at hy
            subst hy
            simp only [List.cons_append, List.nil_append, live2, live1, hl, Nat.beq_refl]
          · simp only [List.cons_append, List.nil_append, look_cons]
            rw [if_neg]
            exact fun e => hr 0 (by omega)
        · cases h
      | cons sh' l =>
        simp only [opnL] at h
        split at h
        · rename_i ys' hs' hf hrec
          simp only [Option.some.injEq, Prod.mk.injEq] at h
          obtain ⟨rfl, rfl⟩ := h
          obtain ⟨f0, f1⟩ := freeR_ok hf
          have e := toA_push (s := s) (d := d + 10000 * (i + 1)) (b := .row n t x.1) (.newR f0) fun _ => by rw [freeB_congr (cl1_row _ n t .int _ [])]; exact f1
          -- the rest, behind this row
          have mono : ∀ (l : List Sh) (i' : Nat) (x' : Sh.denL l) (ys : List TV) (hs : THp), i < i' → opnL s n d i' l x' = some (ys, hs) → opnL (s.push [(d + 10000 * (i + 1), .row n t x.1)]) n d i' l x' = some (ys, hs) := by
            intro l
            induction l with
            | nil => intro i' x' ys hs _ h; exact h
            | cons sh l ihl =>
              intro i' x' ys hs hi h
              have hfr : ∀ {b}, freeR (d + 10000 * (i' + 1)) n s = b → b = true → freeR (d + 10000 * (i' + 1)) n (s.push [(d + 10000 * (i + 1), .row n t x.1)]) = true := fun h hb => by
                subst hb; exact freeR_push h (by omega)
              by_cases ho : ∃ t, sh = .own t
              · obtain ⟨t', rfl⟩ := ho
                cases l with
                | nil =>
                  simp only [opnL] at h ⊢
                  split at h
                  · rename_i hb; rw [hfr hb rfl]; exact h
                  · cases h
                | cons sh' l =>
                  simp only [opnL] at h ⊢
                  split at h
                  · rename_i ys' hs' hb hrec
                    rw [hfr hb rfl, ihl (i' + 1) _ _ _ (by omega) hrec]; exact h
                  · cases h
              · cases l with
                | nil => cases sh with
                  | own t => exact absurd ⟨t, rfl⟩ ho
                  | _ => exact h
                | cons sh' l =>
                  cases sh with
                  | own t => exact absurd ⟨t, rfl⟩ ho
                  | _ =>
                    simp only [opnL] at h ⊢
                    split at h
                    · rename_i ys' hs' hrec
                      rw [ihl (i' + 1) _ _ _ (by omega) hrec]; exact h
                    · cases h
          have hrec' := mono (sh' :: l) (i + 1) x.2 ys' hs' (by omega) hrec
          obtain ⟨zs, k1, k2, k3, k4⟩ := ih (i + 1) x.2 hall.2 hrec'
          have hpe : hs' ++ (s.push [(d + 10000 * (i + 1), .row n t x.1)]).hp = (hs' ++ [(d + 10000 * (i + 1), .row n t x.1)]) ++ s.hp := by simp [TSt.push]
          rw [hpe] at k2 k3 k4
          have hl : look (d + 10000 * (i + 1)) .gone ((hs' ++ [(d + 10000 * (i + 1), .row n t x.1)]) ++ s.hp) = .row n t x.1 := by
            rw [k4 _ (fun j => by omega)]
            simp only [TSt.push, List.cons_append, List.nil_append, look_cons, if_true]
          refine ⟨.lsl (d + 10000 * (i + 1)) t.z 0 (List.length x.1) :: zs, ?_, ?_, ?_, fun r hr => ?_⟩
          · simp only [encAL, encA, impL]
            have e0 : s.toA.hp (d + 10000 * (i + 1)) = none := by rw [toA_hp, f0]; rfl
            have e' : s.toA.setH (d + 10000 * (i + 1)) (some (.arr t.z (List.map t.cells x.1))) = (s.push [(d + 10000 * (i + 1), .row n t x.1)]).toA := by rw [e]; rfl
            simp only [e0, e', k1, List.length_map, push_push]
          · simp only [List.map_cons, ← k2]
            rw [A2_leaf rfl, A1]
            simp only [lv1, hl, Nat.beq_refl, av1]
          · intro y hy
            rcases List.mem_cons.1 hy with rfl | hy
            · simp only [live2, live1, hl, Nat.beq_refl]
            · exact k3 y hy
          · rw [k4 r fun j e => hr (j + 1) (by omega)]
            simp only [TSt.push, List.cons_append, List.nil_append, look_cons]
            rw [if_neg]
            exact fun e => hr 0 (by omega)
        · cases h
    · have hno : ∀ t, sh ≠ .own t := fun t e => ho ⟨t, e⟩
      cases l with
      | nil =>
        have h' : some ([enc sh x], ([] : THp)) = some (ys, hs) := by
          cases sh with
          | own t => exact absurd rfl (hno t)
          | _ => exact h
        simp only [Option.some.injEq, Prod.mk.injEq] at h'
        obtain ⟨rfl, rfl⟩ := h'
        obtain ⟨n1, n2⟩ := nonown sh x s.hp hall.1 hno
        refine ⟨[encA sh x], ?_, by simp [n1], by simp [n2], fun r _ => rfl⟩
        simp only [encAL]
        rw [one sh x i hall.1 hno (s := s) (n := 0)]
        rfl
      | cons sh' l =>
        have h' : (match opnL s n d (i + 1) (sh' :: l) x.2 with | some (ys, hs) => some (enc sh x.1 :: ys, hs) | none => none) = some (ys, hs) := by
          cases sh with
          | own t => exact absurd rfl (hno t)
          | _ => exact h
        split at h'
        · rename_i ys' hs' hrec
          simp only [Option.some.injEq, Prod.mk.injEq] at h'
          obtain ⟨rfl, rfl⟩ := h'
          obtain ⟨zs, k1, k2, k3, k4⟩ := ih (i + 1) x.2 hall.2 hrec
          obtain ⟨n1, n2⟩ := nonown sh x.1 (hs' ++ s.hp) hall.1 hno
          refine ⟨encA sh x.1 :: zs, ?_, by simp [n1, k2], ?_, fun r hr => k4 r fun j e => hr (j + 1) (by omega)⟩
          · simp only [encAL]
            rw [one sh x.1 i hall.1 hno (s := s) (n := 0), k1]
          · intro y hy
            rcases List.mem_cons.1 hy with rfl | hy
            · exact n2
            · exact k3 y hy
        · cases h'

theorem opn_ok {sh : Sh} {x : sh.den} {n : Nat} {v : TV} {hs : THp} (ha : sh.ans = true) (h : opn s n d sh x = some (v, hs)) : imp d (encA sh x) s.toA = some (Av (hs ++ s.hp) v, (s.push hs).toA) := by
  have other : (∀ t, sh ≠ .own t) → (∀ f l, sh ≠ .fnc f l) → (∀ l, sh ≠ .tp l) → sh ≠ .unit → v = enc sh x ∧ hs = [] → imp d (encA sh x) s.toA = some (Av (hs ++ s.hp) v, (s.push hs).toA) := by
    rintro h1 h2 h3 h4 ⟨rfl, rfl⟩
    obtain ⟨e1, e2, _⟩ := enc_sh h1 h2 h3 h4 x s.hp
    have e3 : Av s.hp (enc sh x) = encA sh x := by
      rw [Av_of (lv_lv2 e1), ← e2]
      cases he : enc sh x with
      | tp => rw [he] at e1; simp [lv2, lv1] at e1
      | fn => rw [he] at e1; simp [lv2, lv1] at e1
      | _ => rfl
    simp only [List.nil_append, e3, toA_push0]
    cases sh with
    | own t => exact absurd rfl (h1 t)
    | fnc f l => exact absurd rfl (h2 f l)
    | tp l => exact absurd rfl (h3 l)
    | unit => exact absurd rfl h4
    | err => cases x <;> rfl
    | ns t => cases x <;> rfl
    | _ => rfl
  cases sh with
  | own t =>
    simp only [opn] at h
    split at h
    · rename_i hf
      simp only [Option.some.injEq, Prod.mk.injEq] at h
      obtain ⟨rfl, rfl⟩ := h
      obtain ⟨f0, f1⟩ := freeR_ok hf
      have e := toA_push (s := s) (d := d) (b := .row n t x) (.newR f0) fun _ => by rw [freeB_congr (cl1_row _ n t .int _ [])]; exact f1
      have e0 : s.toA.hp d = none := by rw [toA_hp, f0]; rfl
      have e3 := Av_new (s := s) (n := n) (d' := d) (t := t) (xs := x)
      simp only [encA, imp, e0, List.length_map, List.cons_append, List.nil_append, e3, e]
      rfl
    · cases h
  | tp l =>
    simp only [opn] at h
    split at h
    · rename_i ys hs' hrec
      simp only [Option.some.injEq, Prod.mk.injEq] at h
      obtain ⟨rfl, rfl⟩ := h
      obtain ⟨zs, k1, k2, k3, _⟩ := opnL_ok l 0 x ha hrec
      simp only [encA, imp, k1]
      rw [Av_tp, if_pos (List.all_eq_true.2 k3), k2]
    · cases h
  | unit => simp only [opn, Option.some.injEq, Prod.mk.injEq] at h; obtain ⟨rfl, rfl⟩ := h; rfl
  | fnc f l => simp [Sh.ans] at ha
  | _ => simp only [opn, Option.some.injEq, Prod.mk.injEq] at h; exact other (by simp) (by simp) (by simp) (by simp) ⟨h.1.symm, h.2.symm⟩

theorem noOwn_ok {sh : Sh} (h : sh.owns = false) (x : sh.den) : noOwn (encA sh x) = true := by
  have one : ∀ (sh : Sh), sh.own1 = false → ∀ x : sh.den, (!isOwn (encA sh x)) = true := by
    intro sh h x
    cases sh with
    | own t => simp [Sh.own1] at h
    | err => cases x <;> rfl
    | ns t => cases x <;> rfl
    | _ => rfl
  cases sh with
  | own t => simp [Sh.owns] at h
  | tp l => exact encAL_all x fun sh hs y => one sh (any_false h sh hs) y
  | err => cases x <;> rfl
  | ns t => cases x <;> rfl
  | _ => rfl
theorem noOwn_hs {sh : Sh} {x : sh.den} {n : Nat} {v : TV} {hs : THp} (ho : sh.owns = false) (h : opn s n d sh x = some (v, hs)) : (s.push hs).toA = s.toA := by
  have nil : hs = [] := by
    cases sh with
    | own t => simp [Sh.owns] at ho
    | tp l =>
      simp only [opn] at h
      split at h
      · rename_i ys hs' hrec
        simp only [Option.some.injEq, Prod.mk.injEq] at h
        obtain ⟨rfl, rfl⟩ := h
        have : ∀ (l : List Sh) (i : Nat) (x : Sh.denL l) (ys : List TV) (hs : THp), l.any Sh.own1 = false → opnL s n d i l x = some (ys, hs) → hs = [] := by
          intro l
          induction l with
          | nil => intro i x ys hs _ h; simp only [opnL, Option.some.injEq, Prod.mk.injEq] at h; exact h.2.symm
          | cons sh l ih =>
            intro i x ys hs ho h
            simp only [List.any_cons, Bool.or_eq_false_iff] at ho
            cases l with
            | nil => cases sh with
              | own t => simp [Sh.own1] at ho
              | _ => simp only [opnL, Option.some.injEq, Prod.mk.injEq] at h; exact h.2.symm
            | cons sh' l =>
              cases sh with
              | own t => simp [Sh.own1] at ho
              | _ =>
                simp only [opnL] at h
                split at h
                · rename_i ys' hs' hrec
                  simp only [Option.some.injEq, Prod.mk.injEq] at h
                  rw [← h.2]
                  exact ih (i + 1) _ _ _ ho.2 hrec
                · cases h
        exact this l 0 x _ _ ho hrec
      · cases h
    | _ => simp only [opn, Option.some.injEq, Prod.mk.injEq] at h; exact h.2.symm
  subst nil
  rfl

/-- A call that is known. -/
def CallOk (S : Seat) (q frz : Bool) (f : Nat) (vs : List TV) (d : Nat) (s : TSt) (a : AV) (st1 : ASt) : Prop :=
  if q = true then st1 = s.toA ∧ CallQ (realRets S) f (vs.map (av s.hp)) s.toA a else CallR (realRets S) frz [] f (vs.map (av s.hp)) d s.toA a st1

theorem ansT_ok {frz : Bool} {f : Nat} {c : CSpec} {x : Sh.denL c.sig} {vs : List TV} (hC : ∀ x y, c.fn x = some y → (realRets S).ret c.f (encAL c.sig x) (encA c.res y) []) (hf : c.f = f) (hl : ∀ v ∈ vs, lv s.hp v = v) (hd : decL s.hp c.sig vs = some x)
    (hp : c.res.plain = true ∨ vs.flatMap rf = []) (h : ansT q c d s x k = some r) : ∃ v hs a st1, k v hs = some r ∧ CallOk S q frz f vs d s a st1 ∧ ∀ dst : Option Nat, st1.putO dst a = ((s.push hs).putO dst v).toA := by
  unfold ansT at h
  split at h
  · cases h
  · rename_i hcond
    simp only [Bool.or_eq_false_iff, Bool.not_eq_false'] at hcond
    obtain ⟨ho, ha⟩ := hcond
    have main : ∀ y, c.fn x = some y → (match opn s s.ctr d c.res y with | some (v, hs) => k v hs | none => none) = some r → ∃ v hs a st1, k v hs = some r ∧ CallOk S q frz f vs d s a st1 ∧ ∀ dst : Option Nat, st1.putO dst a = ((s.push hs).putO dst v).toA := by
      intro y hy h
      split at h
      · rename_i v hs hop
        have himp := opn_ok ha hop
        obtain ⟨as, h1, h2⟩ := decL_ok hl hd
        have hret : (realRets S).ret f as (encA c.res y) [] := by rw [← hf]; exact ret_wk h2 (hC x y hy)
        have hrefs : vs.flatMap rf = [] → AV.refsL (vs.map (av s.hp)) = [] := fun hv => by
          refine List.eq_nil_iff_forall_not_mem.2 fun r0 hr0 => ?_
          obtain ⟨_, m1, m2⟩ := mem_refsL.1 hr0
          obtain ⟨v0, hv0, rfl⟩ := List.mem_map.1 m1
          rw [rf_refs (hl v0 hv0) (List.flatMap_eq_nil_iff.1 hv v0 hv0)] at m2
          cases m2
        have hset : (encA c.res y).plain = true ∨ AV.refsL (vs.map (av s.hp)) = [] := hp.imp (fun h => plain_ok h y) hrefs
        have hpass : passArgs s.toA.hp [] 0 (vs.map (av s.hp)) = some as := by rw [passArgs_nil]; exact h1
        cases hq : q with
        | true =>
          rw [hq, Bool.true_and] at ho
          have e := noOwn_hs ho hop
          rw [e, imp_quiet (noOwn_ok ho y)] at himp
          simp only [Option.some.injEq, Prod.mk.injEq] at himp
          refine ⟨v, hs, encA c.res y, s.toA, h, ?_, fun dst => ?_⟩
          · unfold CallOk
            rw [if_pos rfl]
            exact ⟨rfl, as, hpass, hret, hset, noOwn_ok ho y⟩
          · rw [toA_put, e, himp.1]; rfl
        | false =>
          refine ⟨v, hs, _, _, h, ?_, fun dst => (toA_put _ dst v).symm⟩
          unfold CallOk
          rw [if_neg (by simp)]
          refine ⟨as, encA c.res y, [], s.toA, s.toA, hpass, by rw [mutSites_nil]; first | done | rfl, hret, ?_, by rw [mutSites_nil]; rfl, himp⟩
          simp only [settle, List.isEmpty_nil, if_true]
          rw [if_pos hset]
      · cases h
    split at h
    · split at h
      · rename_i y hy; exact main y hy h
      · cases h
    · obtain ⟨y, hy, h⟩ := bno_some h
      exact main y hy h

theorem callT_ok {fz frz : Bool} {f : Nat} {args : TSt → List TV} {o : AOp} : ∀ {C : List CSpec}, CSound S C → (∀ s' : TSt, (s' = s ∨ (fz = true ∧ ∃ h1, s' = s.push h1)) → (∀ v ∈ args s', lv s'.hp v = v) ∧ ∀ a st1, CallOk S q frz f (args s') d s' a st1 → StepR (realRets S) q o d s'.toA a st1) →
    callT C q fz f args d s k = some r → ∃ v hs, k v hs = some r ∧ StepT S q o d s v hs
  | [], _, _, h => by cases h
  | c :: C, hC, hA, h => by
    have rest : callT C q fz f args d s k = some r → ∃ v hs, k v hs = some r ∧ StepT S q o d s v hs := callT_ok (fun c hc => hC c (List.mem_cons_of_mem _ hc)) hA
    unfold callT at h
    split at h
    · exact rest h
    · rename_i hb
      rw [beq_iff] at hb
      split at h
      · exact rest h
      · rename_i x hx
        split at h
        · rename_i hcond
          obtain ⟨v, hs, a, st1, k1, k2, k3⟩ := ansT_ok (S := S) (frz := frz) (hC c List.mem_cons_self) hb (hA s (.inl rfl)).1 hx (by simpa only [Bool.or_eq_true, List.isEmpty_iff] using hcond) h
          exact ⟨v, hs, k1, [], a, st1, .inl rfl, (hA s (.inl rfl)).2 a st1 k2, fun dst => .inl (k3 dst)⟩
        · split at h
          · cases h
          · rename_i hq
            simp only [Bool.or_eq_false_iff, Bool.not_eq_false'] at hq
            split at h
            · cases h
            · rename_i h1 hfz
              split at h
              · rename_i x' hx' hem
                have hA' := hA (s.push h1) (.inr ⟨hq.2, h1, rfl⟩)
                obtain ⟨v, hs, a, st1, k1, k2, k3⟩ := ansT_ok (S := S) (frz := frz) (hC c List.mem_cons_self) hb hA'.1 hx' (.inr (List.isEmpty_iff.1 hem)) h
                have st : StepT S q o d (s.push h1) v hs := ⟨[], a, st1, .inl rfl, hA'.2 a st1 k2, fun dst => .inl (k3 dst)⟩
                exact ⟨v, _, k1, st.pre hq.1 (cv_frzs _ _ _ hfz)⟩
              · cases h

theorem top_sound (hC : CSound S C) {o : AOp} (h : top C q ty o d s k = some r) : ∃ v hs, k v hs = some r ∧ StepT S q o d s v hs := by
  cases o with
  | mov x => exact top_mov h
  | box x => exact top_box h
  | alloc z => exact top_alloc h
  | build z p => exact top_build h
  | bslice f z zz l p => exact top_bslice h
  | load n x => exact top_load h
  | store z a x => exact top_store h
  | chk x => exact top_chk h
  | bin kd op x y => exact top_bin h
  | eqa n sh x y => exact top_eqa h
  | eqn sl n x => exact top_eqn h
  | un op x => exact top_un h
  | cvi kd x => exact top_cvi h
  | cvs x => exact top_cvs h
  | ifc t x => exact top_ifc h
  | mkfn f c => exact top_mkfn h
  | mksl z zz l c => exact top_mksl h
  | slc z x lo hi => exact top_slc h
  | fa off x => exact top_fa h
  | fld off n x => exact top_fld h
  | ia z x i => exact top_ia h
  | ix x i => exact top_ix h
  | ext x i => exact top_ext h
  | len st x => exact top_len h
  | app z x y => exact top_app h
  | pick c a b => exact top_pick h
  | max2 x y => exact top_max2 h
  | call frz muts f args =>
    simp only [top] at h
    split at h
    · refine callT_ok (frz := frz) hC (fun s' _ => ⟨fun v hv => ?_, fun a st1 hok => ?_⟩) h
      · obtain ⟨y, hy, rfl⟩ := List.mem_map.1 hv; exact ev_lv s' y
      · have e : (args.map s'.ev).map (av s'.hp) = args.map s'.toA.ev := by rw [List.map_map]; exact List.map_congr_left fun y _ => (ev_av s' y).symm
        unfold CallOk at hok
        rw [e] at hok
        simp only [StepR]
        split at hok
        · rename_i hq; rw [if_pos hq]; exact ⟨True.intro, hok⟩
        · rename_i hq; rw [if_neg hq]; exact hok
    · cases h
  | calld frz x args =>
    simp only [top] at h
    split at h
    · rename_i f caps hx
      obtain ⟨e1, e2⟩ := ev_eq hx
      refine callT_ok (frz := frz) hC (fun s' hs' => ?_) h
      obtain rfl : s' = s := by
        rcases hs' with hs' | ⟨hs', _⟩
        · exact hs'
        · cases hs'
      refine ⟨fun v hv => ?_, fun a st1 hok => ?_⟩
      · rw [hx] at hv
        simp only [capsOf] at hv
        rcases List.mem_append.1 hv with hv | hv
        · obtain ⟨y, hy, rfl⟩ := List.mem_map.1 hv; exact ev_lv s' y
        · exact lv_lv2 (lv_fn e2 v hv)
      · have e : (args.map s'.ev ++ capsOf (s'.ev x)).map (av s'.hp) = args.map s'.toA.ev ++ caps.map (av2 s'.hp) := by
          rw [hx, capsOf, List.map_append, List.map_map]
          congr 1
          · exact List.map_congr_left fun y _ => (ev_av s' y).symm
          · refine List.map_congr_left fun y hy => ?_
            have := lv_fn e2 y hy
            cases y <;> first | rfl | simp [lv2, lv1] at this
        unfold CallOk at hok
        rw [e] at hok
        simp only [StepR, e1]
        rw [show av s'.hp (.fn f caps) = .fn f (caps.map (av2 s'.hp)) from rfl]
        simp only
        split at hok
        · rename_i hq; rw [if_pos hq]; exact hok
        · rename_i hq; rw [if_neg hq]; exact hok
    · cases h

/-! ### regions -/

theorem br_some {b : Bool} {x y : Option α} (h : br b x y = some r) : (b = true ∧ x = some r) ∨ (b = false ∧ y = some r) := by
  cases b with
  | true => exact .inl ⟨rfl, h⟩
  | false => exact .inr ⟨rfl, h⟩

/-- More of a state: what has been laid over it. -/
def Over (s s' : TSt) : Prop := (∃ l, s'.fr = l ++ s.fr) ∧ ∃ l, s'.hp = l ++ s.hp
theorem Over.refl (s : TSt) : Over s s := ⟨⟨[], rfl⟩, ⟨[], rfl⟩⟩
theorem Over.trans {a b c : TSt} (h : Over a b) (h' : Over b c) : Over a c := by
  obtain ⟨⟨l1, e1⟩, l2, e2⟩ := h
  obtain ⟨⟨l3, e3⟩, l4, e4⟩ := h'
  exact ⟨⟨l3 ++ l1, by rw [e3, e1, List.append_assoc]⟩, l4 ++ l2, by rw [e4, e2, List.append_assoc]⟩
theorem Over.put (s : TSt) (d : Option Nat) (v : TV) : Over s (s.putO d v) := by
  cases d with
  | none => exact .refl s
  | some d => exact ⟨⟨[(d, v)], rfl⟩, [], rfl⟩
theorem Over.push (s : TSt) (hs : THp) : Over s (s.push hs) := ⟨⟨[], rfl⟩, hs, rfl⟩

theorem cv_ops {ops : List AOper} {st st1 st2 : ASt} (h : Cv S q st st1) (hr : OpsR (realRets S) q ops st1 st2) : OpsR (realRets S) q ops st st2 := by
  rcases h with rfl | ⟨hq, h⟩
  · exact hr
  · exact .cv hq h hr

theorem tops_sound (hC : CSound S C) : ∀ (ops : List AOper) (tys : List Ty) (s : TSt) {k : TSt → Option α}, tops C q ops tys s k = some r → ∃ s', k s' = some r ∧ OpsR (realRets S) q ops s.toA s'.toA ∧ Over s s'
  | [], tys, s, k, h => ⟨s, h, .nil _, .refl s⟩
  | ⟨d, op, none, af⟩ :: ops, tys, s, k, h => by
    simp only [tops] at h
    obtain ⟨v, hs, h1, h0, a, st1, k1, k2, k3⟩ := top_sound (S := S) hC h
    obtain ⟨s', m1, m2, m3⟩ := tops_sound hC ops tys.tail (s.done d v hs) h1
    exact ⟨s', m1, cv_ops k1 (.cons (.inl ⟨rfl, a, st1, k2, rfl⟩) (cv_ops (k3 d) m2)), (Over.push s hs).trans ((Over.put _ _ _).trans m3)⟩
  | ⟨d, op, some (t, want), af⟩ :: ops, tys, s, k, h => by
    simp only [tops] at h
    have same : ∀ b, s.ev (.t t) = .b b → (s.put t (.b b)).toA = s.toA := fun b hb => by
      have e : s.toA.fr t = .v (.bool b) := by
        have := ev_av s (.t t)
        rw [hb] at this
        exact this
      have := toA_put s (some t) (.b b)
      simp only [TSt.putO, ASt.putO, ASt.put] at this
      rw [this, Av_b]
      show (⟨upd s.toA.fr t (.v (.bool b)), s.toA.hp⟩ : ASt) = ⟨s.toA.fr, s.toA.hp⟩
      congr 1
      funext j
      simp only [upd]
      split
      · rename_i hj; subst hj; exact e.symm
      · rfl
    have go : ∀ b, s.ev (.t t) = .b b → b = want → top C q (tys.headD .int) op (d.getD 0) (s.put t (.b b)) (fun v hs => tops C q ops tys.tail ((s.put t (.b b)).done d v hs) k) = some r →
        ∃ s', k s' = some r ∧ OpsR (realRets S) q (⟨d, op, some (t, want), af⟩ :: ops) s.toA s'.toA ∧ Over s s' := by
      intro b hb hw h
      obtain ⟨v, hs, h1, h0, a, st1, k1, k2, k3⟩ := top_sound (S := S) hC h
      obtain ⟨s', m1, m2, m3⟩ := tops_sound hC ops tys.tail ((s.put t (.b b)).done d v hs) h1
      refine ⟨s', m1, ?_, (Over.put s (some t) (.b b)).trans ((Over.push _ hs).trans ((Over.put _ _ _).trans m3))⟩
      rw [same b hb] at k1
      refine cv_ops k1 (.cons (.inl ⟨?_, a, st1, k2, rfl⟩) (cv_ops (k3 d) m2))
      have e : ((s.put t (.b b)).push h0).toA.fr t = .v (.bool b) := by
        rw [toA_fr]
        simp only [TSt.push, TSt.put, look_cons, if_true, Av_b]
      simp only [gval, e]
      rw [hw]; simp
    have by_ : ∀ b, s.ev (.t t) = .b b → b = !want → tops C q ops tys.tail ((s.put t (.b b)).putO d .ud) k = some r →
        ∃ s', k s' = some r ∧ OpsR (realRets S) q (⟨d, op, some (t, want), af⟩ :: ops) s.toA s'.toA ∧ Over s s' := by
      intro b hb hw h
      obtain ⟨s', m1, m2, m3⟩ := tops_sound hC ops tys.tail _ h
      refine ⟨s', m1, .cons (.inr ⟨?_, rfl⟩) ?_, (Over.put s (some t) (.b b)).trans ((Over.put _ _ _).trans m3)⟩
      · have e : s.toA.fr t = .v (.bool b) := by
          have := ev_av s (.t t)
          rw [hb] at this
          exact this
        simp only [gval, e]
        rw [hw]; cases want <;> rfl
      · rw [toA_put, same b hb] at m2
        exact m2
    split at h
    · rename_i hu
      obtain ⟨s', m1, m2, m3⟩ := tops_sound hC ops tys.tail _ h
      refine ⟨s', m1, .cons (.inr ⟨?_, rfl⟩) ?_, (Over.put _ _ _).trans m3⟩
      · have e : s.toA.fr t = Ab.ud := by
          have := ev_av s (.t t)
          rw [hu] at this
          exact this
        simp only [gval, e, Ab.ud]
      · rw [toA_put] at m2
        exact m2
    · rename_i x hx
      rcases br_some h with ⟨rfl, h⟩ | ⟨rfl, h⟩
      · cases want with
        | true => exact go true hx rfl h
        | false => exact by_ true hx rfl h
      · cases want with
        | true => exact by_ false hx rfl h
        | false => exact go false hx rfl h
    · cases h
end
end Ab
