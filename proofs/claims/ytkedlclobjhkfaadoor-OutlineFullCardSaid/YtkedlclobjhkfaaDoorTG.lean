/-
  Typed values over the abstract machine: the other operations that are no calls.
-/
import Derived.Test.YtkedlclobjhkfaaDoorTF
namespace Ab
open Go Go.RowKit
set_option linter.unusedVariables false
set_option linter.unusedSimpArgs false
set_option linter.unnecessarySimpa false

section
variable {S : Seat} {q : Bool} {α : Type} {C : List CSpec} {ty : Ty} {d : Nat} {s : TSt} {k : TV → THp → Option α} {r : α}

theorem Av_leafs (h : THp) : (∀ n, Av h (.i n) = .v (.int .i64 n)) ∧ (∀ n, Av h (.u n) = .v (.int .u8 n)) ∧ (∀ b, Av h (.b b) = .v (.bool b)) ∧ (∀ b, Av h (.s b) = .v (.string b)) ∧ Av h .nl = .v (.slice none 0 0) ∧
    (∀ (t : Ty) (xs : List t.den), Av h (.sl t xs) = .sl t.z (xs.map t.cells)) ∧ (∀ (t : Ty) (x : t.den) (off : Nat), Av h (.ep t x off) = .ep (t.cells x) off) ∧ (∀ e, Av h (.e e) = e.av) :=
  ⟨fun _ => rfl, fun _ => rfl, fun _ => rfl, fun _ => rfl, rfl, fun _ _ => rfl, fun _ _ _ => rfl, fun _ => rfl⟩
theorem Av_i (h : THp) (n : Int) : Av h (.i n) = .v (.int .i64 n) := rfl
theorem Av_u (h : THp) (n : Int) : Av h (.u n) = .v (.int .u8 n) := rfl
theorem Av_b (h : THp) (n : Bool) : Av h (.b n) = .v (.bool n) := rfl
theorem Av_s (h : THp) (n : ByteArray) : Av h (.s n) = .v (.string n) := rfl
theorem Av_nl (h : THp) : Av h .nl = .v (.slice none 0 0) := rfl
theorem Av_sl (h : THp) (t : Ty) (xs : List t.den) : Av h (.sl t xs) = .sl t.z (xs.map t.cells) := rfl
theorem Av_ep (h : THp) (t : Ty) (x : t.den) (off : Nat) : Av h (.ep t x off) = .ep (t.cells x) off := rfl
theorem Av_e (h : THp) (e : Err) : Av h (.e e) = e.av := rfl

theorem top_chk {x : AOpd} (h : top C q ty (.chk x) d s k = some r) : ∃ v hs, k v hs = some r ∧ StepT S q (.chk x) d s v hs := by
  simp only [top] at h
  split at h
  · rename_i r' off hx
    obtain ⟨e1, e2⟩ := ev_eq hx
    exact ⟨_, _, h, .val rfl (by simp only [aop, e1, av_pv, Av_of e2])⟩
  · rename_i r' v i off hx
    obtain ⟨e1, e2⟩ := ev_eq hx
    obtain ⟨t, xs, hl⟩ := sl_pe (lv_live1 rfl e2)
    exact ⟨_, _, h, .val rfl (by simp only [aop, e1, av_pe hl, Av_of e2])⟩
  · rename_i t y off hx
    obtain ⟨e1, e2⟩ := ev_eq hx
    exact ⟨_, _, h, .val rfl (by simp only [aop, e1, av_ep, Av_of e2])⟩
  · rename_i f caps hx
    obtain ⟨e1, e2⟩ := ev_eq hx
    exact ⟨_, _, h, .val rfl (by rw [Av_of e2]; simp only [aop, e1]; rfl)⟩
  · cases h

theorem binT_ok {kd : Sc} {op : BinOp} {x y : TV} (h : binT kd op x y (fun v => k v []) = some r) (hp : THp) : ∃ v a b c, k v [] = some r ∧ av hp x = .v a ∧ av hp y = .v b ∧ binV kd op a b = some c ∧ Av hp v = .v c := by
  unfold binT at h
  split at h
  · split at h
    · exact ⟨_, _, _, _, h, rfl, rfl, rfl, rfl⟩
    · exact ⟨_, _, _, _, h, rfl, rfl, rfl, rfl⟩
    · exact ⟨_, _, _, _, h, rfl, rfl, rfl, rfl⟩
    · obtain ⟨h1, h⟩ := ck_some h
      exact ⟨_, _, _, _, h, rfl, rfl, by simp only [binV, if_true]; rw [if_neg (of_decide_eq_true h1)]; (try rfl), rfl⟩
    · obtain ⟨h1, h⟩ := ck_some h
      exact ⟨_, _, _, _, h, rfl, rfl, by simp only [binV, if_true]; rw [if_neg (of_decide_eq_true h1)]; (try rfl), rfl⟩
    all_goals first | exact ⟨_, _, _, _, h, rfl, rfl, rfl, rfl⟩ | cases h
  · split at h
    all_goals first | exact ⟨_, _, _, _, h, rfl, rfl, rfl, rfl⟩ | cases h
  · split at h
    · obtain ⟨h1, h⟩ := ck_some h
      exact ⟨_, _, _, _, h, rfl, rfl, by simp only [binV]; rw [if_pos (of_decide_eq_true h1)], rfl⟩
    all_goals first | exact ⟨_, _, _, _, h, rfl, rfl, rfl, rfl⟩ | cases h
  · split at h
    all_goals first | exact ⟨_, _, _, _, h, rfl, rfl, rfl, rfl⟩ | cases h
  · cases h
theorem top_bin {kd : Sc} {op : BinOp} {x y : AOpd} (h : top C q ty (.bin kd op x y) d s k = some r) : ∃ v hs, k v hs = some r ∧ StepT S q (.bin kd op x y) d s v hs := by
  simp only [top] at h
  obtain ⟨v, a, b, c, h1, h2, h3, h4, h5⟩ := binT_ok h s.hp
  exact ⟨_, _, h1, .val rfl (by simp only [aop, ev_av, h2, h3, h4, h5])⟩

theorem eqT_ok {h : THp} {cs ds : List TV} : ∀ {sh : List (Nat × Sc)} {b : Bool}, eqT cs ds sh = some b → eqAll (cs.map (av1 h)) (ds.map (av1 h)) sh = some b
  | [], b, he => he
  | (off, sc) :: l, b, he => by
    simp only [eqT] at he
    split at he
    · rename_i x y hx hy
      split at he
      · rename_i a b' ha hb
        cases he
        have h1 := eqT_ok (h := h) hb
        simp only [eqAll, List.getElem?_map, hx, hy, Option.map_some, h1]
        have : scEq sc (av1 h x) (av1 h y) = some a := by
          unfold eq1 at ha
          split at ha
          · cases ha; simp [av1, scEq, aI]
          · cases ha; simp [av1, scEq, aB]
          · cases ha; simp [av1, scEq, aS]
          · cases ha
        rw [this]
      · cases he
    · cases he
theorem top_eqa {neg : Bool} {sh : List (Nat × Sc)} {x y : AOpd} (h : top C q ty (.eqa neg sh x y) d s k = some r) : ∃ v hs, k v hs = some r ∧ StepT S q (.eqa neg sh x y) d s v hs := by
  simp only [top] at h
  split at h
  · rename_i cs ds hx hy
    split at h
    · rename_i b hb
      have h1 := eqT_ok (h := s.hp) hb
      refine ⟨_, _, h, .val rfl ?_⟩
      simp only [aop, ev_av, hx, hy, av, av2, h1]
      cases neg <;> rfl
    · cases h
  · cases h

theorem top_eqn {sl neg : Bool} {x : AOpd} (h : top C q ty (.eqn sl neg x) d s k = some r) : ∃ v hs, k v hs = some r ∧ StepT S q (.eqn sl neg x) d s v hs := by
  simp only [top] at h
  split at h
  · rename_i hx
    exact ⟨_, _, h, .val rfl (by simp only [aop, ev_av, hx, if_true, av_nl]; rfl)⟩
  · rename_i t xs hx
    obtain ⟨h1, h⟩ := ck_some h
    refine ⟨_, _, h, .val rfl ?_⟩
    simp only [aop, ev_av, hx, if_true, av_sl]
    cases xs with
    | nil => simp at h1
    | cons y ys => simp only [List.map_cons]; rfl
  · rename_i t y hx
    obtain ⟨h1, h⟩ := ck_some h
    refine ⟨_, _, h, .val rfl ?_⟩
    simp only [aop, ev_av, hx, if_true]
    cases y with
    | none => cases neg <;> rfl
    | some ys =>
      cases ys with
      | nil => simp at h1
      | cons z zs => cases neg <;> rfl
  · rename_i y hx
    refine ⟨_, _, h, .val rfl ?_⟩
    simp only [aop, ev_av, hx, Bool.false_eq_true, if_false]
    cases y <;> cases neg <;> rfl
  · cases h

theorem top_un {op : UnOp} {x : AOpd} (h : top C q ty (.un op x) d s k = some r) : ∃ v hs, k v hs = some r ∧ StepT S q (.un op x) d s v hs := by
  simp only [top] at h
  split at h
  · rename_i n hx
    exact ⟨_, _, h, .val rfl (by simp only [aop, ev_av, hx, av_i]; rfl)⟩
  · rename_i b hx
    exact ⟨_, _, h, .val rfl (by simp only [aop, ev_av, hx, av_b]; rfl)⟩
  · cases h
theorem top_cvi {kd : IntKind} {x : AOpd} (h : top C q ty (.cvi kd x) d s k = some r) : ∃ v hs, k v hs = some r ∧ StepT S q (.cvi kd x) d s v hs := by
  simp only [top] at h
  split at h
  · rename_i n hx; exact ⟨_, _, h, .val rfl (by simp only [aop, ev_av, hx, av_i]; rfl)⟩
  · rename_i n hx; exact ⟨_, _, h, .val rfl (by simp only [aop, ev_av, hx, av_u]; rfl)⟩
  · rename_i n hx; exact ⟨_, _, h, .val rfl (by simp only [aop, ev_av, hx, av_i]; rfl)⟩
  · rename_i n hx; exact ⟨_, _, h, .val rfl (by simp only [aop, ev_av, hx, av_u]; rfl)⟩
  · cases h
theorem top_cvs {x : AOpd} (h : top C q ty (.cvs x) d s k = some r) : ∃ v hs, k v hs = some r ∧ StepT S q (.cvs x) d s v hs := by
  simp only [top] at h
  split at h
  · rename_i b hx
    exact ⟨_, _, h, .val rfl (by simp only [aop, ev_av, hx, av_s]; rfl)⟩
  · cases h
theorem top_ifc {t : Nat} {x : AOpd} (h : top C q ty (.ifc t x) d s k = some r) : ∃ v hs, k v hs = some r ∧ StepT S q (.ifc t x) d s v hs := by
  simp only [top] at h
  split at h
  · rename_i n hb hx
    rw [beq_iff] at hb; subst hb
    exact ⟨_, _, h, .val rfl (by simp only [aop, ev_av, hx, av_i]; rfl)⟩
  · cases h
  · split at h
    · cases h
    · exact ⟨_, _, h, .wk (a := .ifc t (s.toA.ev x)) rfl rfl (by simp only [aop]) (.ifc t _)⟩
  · cases h

theorem lv2_of_lv {h : THp} {x : TV} (hl : lv h x = x) (hx : nofn x = true) : lv2 h x = x ∧ live2 h x = true := by
  have : lv2 h x = x := by cases x <;> first | exact hl | simp [nofn] at hx
  exact ⟨this, by rw [← this]; exact live_lv2 h x⟩
theorem top_mkfn {f : Nat} {caps : List AOpd} (h : top C q ty (.mkfn f caps) d s k = some r) : ∃ v hs, k v hs = some r ∧ StepT S q (.mkfn f caps) d s v hs := by
  simp only [top] at h
  split at h
  · rename_i hb
    have hb := List.all_eq_true.1 hb
    refine ⟨_, _, h, .val rfl ?_⟩
    have h1 : ∀ x ∈ caps.map s.ev, lv2 s.hp x = x ∧ live2 s.hp x = true := fun x hx => by
      obtain ⟨y, hy, rfl⟩ := List.mem_map.1 hx
      exact lv2_of_lv (ev_lv s y) (hb _ hx)
    rw [Av_fn, if_pos (List.all_eq_true.2 fun x hx => (h1 x hx).2)]
    simp only [aop, List.map_map]
    congr 3
    refine List.map_congr_left fun y hy => ?_
    have := h1 (s.ev y) (List.mem_map.2 ⟨y, hy, rfl⟩)
    have hb' := hb _ (List.mem_map.2 ⟨y, hy, rfl⟩)
    simp only [Function.comp, ev_av, A2, this.1]
    cases hx : s.ev y <;> first | rfl | (rw [hx] at hb'; simp [nofn] at hb')
  · cases h

theorem bndT_ok {α : Type} {r : α} {n : Nat} {lo hi : Option AOpd} {f : Int → Int → Option α} (h : bndT s n lo hi f = some r) : ∃ l u, bounds s.toA n lo hi = some (l.toNat, u.toNat) ∧ f l u = some r := by
  unfold bndT at h
  split at h
  · rename_i u l hu hl
    obtain ⟨h1, h⟩ := ck_some h
    refine ⟨l, u, ?_, h⟩
    have e1 : (match (generalizing := false) hi with | none => some (n : Int) | some x => optInt (s.toA.ev x)) = some u := by
      cases hi with
      | none => exact hu
      | some x => have := dI_some hu; simp only [ev_av, this]; rfl
    have e2 : (match (generalizing := false) lo with | none => some (0 : Int) | some x => optInt (s.toA.ev x)) = some l := by
      cases lo with
      | none => exact hl
      | some x => have := dI_some hl; simp only [ev_av, this]; rfl
    have key : ∀ (a b : Option Int), a = some u → b = some l → (match a, b with | some h, some l => if 0 ≤ l ∧ l ≤ h ∧ h ≤ n then some (l.toNat, h.toNat) else none | _, _ => none) = some (l.toNat, u.toNat) := by
      intro a b ha hb
      subst ha; subst hb
      simp only
      rw [if_pos (of_decide_eq_true h1)]
    exact key _ _ e1 e2
  · cases h
theorem z_ne (z : Nat) : ¬ (z + 1 = 0) := by omega
theorem top_slc {z : Nat} {x : AOpd} {lo hi : Option AOpd} (h : top C q ty (.slc z x lo hi) d s k = some r) : ∃ v hs, k v hs = some r ∧ StepT S q (.slc z x lo hi) d s v hs := by
  simp only [top] at h
  split at h
  · rename_i b hx
    obtain ⟨l, u, hb, h⟩ := bndT_ok h
    exact ⟨_, _, h, .val rfl (by simp only [aop, ev_av, hx, if_true, av_s, hb]; rfl)⟩
  · rename_i z hx
    obtain ⟨l, u, hb, h⟩ := bndT_ok h
    exact ⟨_, _, h, .val rfl (by simp only [aop, ev_av, hx, if_neg (z_ne _), av_nl, hb]; rfl)⟩
  · rename_i z t xs hx
    split at h
    · rename_i hz
      rw [beq_iff] at hz
      obtain ⟨l, u, hb, h⟩ := bndT_ok h
      refine ⟨_, _, h, .val rfl ?_⟩
      simp only [aop, ev_av, hx, if_neg (z_ne _), av_sl, List.length_map]
      rw [if_pos hz]
      simp only [hb, Nat.succ_eq_add_one, hz, Av_sl, List.map_take, List.map_drop]
    · cases h
  · rename_i z r' v hx
    obtain ⟨e1, e2⟩ := ev_eq hx
    split at h
    · rename_i v' t xs hl
      split at h
      · rename_i hz
        rw [beq_iff] at hz
        obtain ⟨l, u, hb, h⟩ := bndT_ok h
        obtain ⟨t', xs', hl'⟩ := sl_row (lv_live1 rfl e2)
        have hv : v' = v := by rw [hl] at hl'; injection hl'
        subst hv
        refine ⟨_, _, h, .val rfl ?_⟩
        have e3 : lv s.hp (.ls r' v' l.toNat (u.toNat - l.toNat)) = .ls r' v' l.toNat (u.toNat - l.toNat) := by simp only [lv, lv2, lv1, hl, Nat.beq_refl]
        rw [Av_of e3, av_ls hl]
        simp only [aop, e1, av_lw hl, if_neg (z_ne _)]
        rw [if_pos hz]
        simp only [hb, Nat.succ_eq_add_one, hz, Nat.zero_add]
      · cases h
    · cases h
  · rename_i z r' v off len hx
    obtain ⟨e1, e2⟩ := ev_eq hx
    split at h
    · rename_i v' t xs hl
      split at h
      · rename_i hz
        rw [beq_iff] at hz
        obtain ⟨l, u, hb, h⟩ := bndT_ok h
        obtain ⟨t', xs', hl'⟩ := sl_ls (lv_live1 rfl e2)
        have hv : v' = v := by rw [hl] at hl'; injection hl'
        subst hv
        refine ⟨_, _, h, .val rfl ?_⟩
        have e3 : lv s.hp (.ls r' v' (off + l.toNat) (u.toNat - l.toNat)) = .ls r' v' (off + l.toNat) (u.toNat - l.toNat) := by simp only [lv, lv2, lv1, hl, Nat.beq_refl]
        rw [Av_of e3, av_ls hl]
        simp only [aop, e1, av_ls hl, if_neg (z_ne _)]
        rw [if_pos hz]
        simp only [hb, Nat.succ_eq_add_one, hz]
      · cases h
    · cases h
  · cases h

theorem top_fa {off : Nat} {x : AOpd} (h : top C q ty (.fa off x) d s k = some r) : ∃ v hs, k v hs = some r ∧ StepT S q (.fa off x) d s v hs := by
  simp only [top] at h
  split at h
  · rename_i r' o hx
    obtain ⟨e1, e2⟩ := ev_eq hx
    obtain ⟨cs, hl⟩ := sl_var (lv_live1 rfl e2)
    have e3 : lv s.hp (.pv r' (o + off)) = .pv r' (o + off) := by simp only [lv, lv2, lv1, hl]
    exact ⟨_, _, h, .val rfl (by simp only [aop, e1, av_pv, Av_of e3])⟩
  · rename_i r' v i o hx
    obtain ⟨e1, e2⟩ := ev_eq hx
    obtain ⟨t, xs, hl⟩ := sl_pe (lv_live1 rfl e2)
    have e3 : lv s.hp (.pe r' v i (o + off)) = .pe r' v i (o + off) := by simp only [lv, lv2, lv1, hl, Nat.beq_refl]
    exact ⟨_, _, h, .val rfl (by simp only [aop, e1, av_pe hl, Av_of e3])⟩
  · rename_i t y o hx
    exact ⟨_, _, h, .val rfl (by simp only [aop, ev_av, hx, av_ep, Av_ep])⟩
  · cases h
theorem top_fld {off : Nat} {n : Option Nat} {x : AOpd} (h : top C q ty (.fld off n x) d s k = some r) : ∃ v hs, k v hs = some r ∧ StepT S q (.fld off n x) d s v hs := by
  simp only [top] at h
  split at h
  · rename_i cs hx
    obtain ⟨e1, e2⟩ := ev_eq hx
    split at h
    · rename_i v hv
      obtain ⟨p1, p2⟩ := partT_ok (lv_ag e2) hv
      refine ⟨_, _, h, .val rfl ?_⟩
      simp only [aop, e1]
      rw [show av s.hp (.ag cs) = .agg (cs.map (av1 s.hp)) from rfl]
      simp only [p1, Av_of p2]
    · cases h
  · cases h
theorem idx_ok {i : AOpd} {n : Int} (h : (match s.ev i with | .i n => some n | .u n => some n | _ => none) = some n) : ∃ kd, s.toA.ev i = .v (.int kd n) := by
  split at h
  · rename_i m hx; cases h; exact ⟨_, by rw [ev_av, hx]; rfl⟩
  · rename_i m hx; cases h; exact ⟨_, by rw [ev_av, hx]; rfl⟩
  · cases h
theorem top_ia {z : Nat} {x i : AOpd} (h : top C q ty (.ia z x i) d s k = some r) : ∃ v hs, k v hs = some r ∧ StepT S q (.ia z x i) d s v hs := by
  simp only [top] at h
  split at h
  · rename_i t xs n hx hi
    obtain ⟨kd, ei⟩ := idx_ok hi
    split at h
    · rename_i hz
      rw [beq_iff] at hz
      obtain ⟨y, hy, h⟩ := bno_some h
      obtain ⟨h1, h2⟩ := lookI_some hy
      refine ⟨_, _, h, .val rfl ?_⟩
      simp only [aop, ev_av s x, hx, av_sl, ei]
      rw [if_pos ⟨hz, h1⟩]
      simp only [List.getElem?_map, h2, Option.map_some, Av_ep]
    · cases h
  · rename_i r' v n hx hi
    obtain ⟨kd, ei⟩ := idx_ok hi
    obtain ⟨e1, e2⟩ := ev_eq hx
    split at h
    · rename_i v' t xs hl
      split at h
      · rename_i hz
        rw [beq_iff] at hz
        obtain ⟨h1, h⟩ := ck_some h
        have h1 := of_decide_eq_true h1
        obtain ⟨t', xs', hl'⟩ := sl_row (lv_live1 rfl e2)
        have hv : v' = v := by rw [hl] at hl'; injection hl'
        subst hv
        refine ⟨_, _, h, .val rfl ?_⟩
        have e3 : lv s.hp (.pe r' v' n.toNat 0) = .pe r' v' n.toNat 0 := by simp only [lv, lv2, lv1, hl, Nat.beq_refl]
        rw [Av_of e3, av_pe hl]
        simp only [aop, e1, av_lw hl, ei]
        rw [if_pos ⟨hz, h1.1, h1.2⟩]
        simp only [hz, Nat.zero_add]
      · cases h
    · cases h
  · rename_i r' v off len n hx hi
    obtain ⟨kd, ei⟩ := idx_ok hi
    obtain ⟨e1, e2⟩ := ev_eq hx
    split at h
    · rename_i v' t xs hl
      split at h
      · rename_i hz
        rw [beq_iff] at hz
        obtain ⟨h1, h⟩ := ck_some h
        have h1 := of_decide_eq_true h1
        obtain ⟨t', xs', hl'⟩ := sl_ls (lv_live1 rfl e2)
        have hv : v' = v := by rw [hl] at hl'; injection hl'
        subst hv
        refine ⟨_, _, h, .val rfl ?_⟩
        have e3 : lv s.hp (.pe r' v' (off + n.toNat) 0) = .pe r' v' (off + n.toNat) 0 := by simp only [lv, lv2, lv1, hl, Nat.beq_refl]
        rw [Av_of e3, av_pe hl]
        simp only [aop, e1, av_ls hl, ei]
        rw [if_pos ⟨hz, h1.1, h1.2⟩]
        simp only [hz]
      · cases h
    · cases h
  · cases h
theorem top_ix {x i : AOpd} (h : top C q ty (.ix x i) d s k = some r) : ∃ v hs, k v hs = some r ∧ StepT S q (.ix x i) d s v hs := by
  simp only [top] at h
  split at h
  · rename_i b n hx hi
    obtain ⟨kd, ei⟩ := idx_ok hi
    obtain ⟨y, hy, h⟩ := bno_some h
    obtain ⟨h1, h2⟩ := lookI_some hy
    refine ⟨_, _, h, .val rfl ?_⟩
    simp only [aop, ev_av s x, hx, av_s, ei]
    rw [if_pos h1]
    rw [Array.getElem?_toList] at h2
    simp only [h2, Av_u]
  · cases h
theorem top_ext {i : Nat} {x : AOpd} (h : top C q ty (.ext x i) d s k = some r) : ∃ v hs, k v hs = some r ∧ StepT S q (.ext x i) d s v hs := by
  simp only [top] at h
  split at h
  · rename_i vs hx
    obtain ⟨e1, e2⟩ := ev_eq hx
    split at h
    · rename_i v hv
      have h1 := lv_tp e2 v (List.mem_of_getElem? hv)
      refine ⟨_, _, h, .val rfl ?_⟩
      simp only [aop, e1]
      rw [show av s.hp (.tp vs) = .tup (vs.map (av2 s.hp)) from rfl]
      simp only [List.getElem?_map, hv, Option.map_some, Av_of (lv_lv2 h1)]
      congr 2
      cases v <;> first | rfl | simp [lv2, lv1] at h1
    · cases h
  · cases h
theorem top_len {str : Bool} {x : AOpd} (h : top C q ty (.len str x) d s k = some r) : ∃ v hs, k v hs = some r ∧ StepT S q (.len str x) d s v hs := by
  simp only [top] at h
  split at h
  · rename_i b hx
    exact ⟨_, _, h, .val rfl (by simp only [aop, ev_av, hx, if_true, av_s, Av_i])⟩
  · rename_i hx
    exact ⟨_, _, h, .val rfl (by simp only [aop, ev_av, hx, Bool.false_eq_true, if_false, av_nl, Av_i])⟩
  · rename_i t xs hx
    exact ⟨_, _, h, .val rfl (by simp only [aop, ev_av, hx, Bool.false_eq_true, if_false, av_sl, Av_i, List.length_map])⟩
  · rename_i r' v hx
    split at h
    · rename_i v' t xs hl
      exact ⟨_, _, h, .val rfl (by simp only [aop, ev_av, hx, Bool.false_eq_true, if_false, av_lw hl, Av_i])⟩
    · cases h
  · rename_i r' v off n hx
    split at h
    · rename_i v' t xs hl
      exact ⟨_, _, h, .val rfl (by simp only [aop, ev_av, hx, Bool.false_eq_true, if_false, av_ls hl, Av_i])⟩
    · cases h
  · cases h
theorem top_pick {c a b : AOpd} (h : top C q ty (.pick c a b) d s k = some r) : ∃ v hs, k v hs = some r ∧ StepT S q (.pick c a b) d s v hs := by
  simp only [top] at h
  split at h
  · rename_i x hx
    cases x with
    | true => exact ⟨_, _, h, .val rfl (by simp only [aop, ev_av s c, hx, av_b, if_true, ev_Av])⟩
    | false => exact ⟨_, _, h, .val rfl (by simp only [aop, ev_av s c, hx, av_b, Bool.false_eq_true, if_false, ev_Av])⟩
  · cases h
theorem top_max2 {x y : AOpd} (h : top C q ty (.max2 x y) d s k = some r) : ∃ v hs, k v hs = some r ∧ StepT S q (.max2 x y) d s v hs := by
  simp only [top] at h
  split at h
  · rename_i a b hx hy
    exact ⟨_, _, h, .val rfl (by simp only [aop, ev_av, hx, hy, av_i, Av_i]; rfl)⟩
  · cases h

/-! ### rows -/

theorem zero_ok {zero : List Value} {z0 : ty.den} (hu : unTv ty (zero.map cst) = some z0) (he : exq q (zero.map cst) = true) : (zero.map AV.v = ty.cells z0 ∨ q = false) ∧ PN (zero.map AV.v) (ty.cells z0) := by
  have h1 := unTv_ok hu []
  have e : (zero.map cst).map (av1 []) = zero.map AV.v := by rw [List.map_map]; exact List.map_congr_left fun x _ => cst_av1 _ x
  exact ⟨(all_ex he).symm.imp (fun h => by rw [← h1.ex h, e]) id, by have := h1.pn; rwa [e] at this⟩
theorem EWk.of_pn {es : List (List AV)} {fs : List (List AV)} (hl : es.length = fs.length) (h : ∀ (i : Nat) (e f : List AV), es[i]? = some e → fs[i]? = some f → PN e f) : EWk es fs :=
  ⟨hl, fun i e f he hf => ⟨(h i e f he hf).1, fun c x y hx hy => ((h i e f he hf).2 c x y hx hy).wk⟩⟩
theorem Av_new {n d' : Nat} {t : Ty} {xs : List t.den} : Av ((d', .row n t xs) :: s.hp) (.lw d' n) = .lsl d' t.z 0 xs.length := by
  have e : look d' .gone ((d', TB.row n t xs) :: s.hp) = .row n t xs := by rw [look_cons, if_pos rfl]
  have e3 : lv ((d', TB.row n t xs) :: s.hp) (.lw d' n) = .lw d' n := by simp only [lv, lv2, lv1, e, Nat.beq_refl]
  rw [Av_of e3, av_lw e]

theorem top_mksl {z : Nat} {zero : List Value} {len cap : AOpd} (h : top C q ty (.mksl z zero len cap) d s k = some r) : ∃ v hs, k v hs = some r ∧ StepT S q (.mksl z zero len cap) d s v hs := by
  simp only [top] at h
  split at h
  · rename_i z0 n c hf hz hu hn hc
    obtain ⟨hz, he⟩ := Bool.and_eq_true_iff.1 hz
    rw [beq_iff] at hz
    obtain ⟨h1, h⟩ := ck_some h
    have h1 := of_decide_eq_true h1
    obtain ⟨f0, f1⟩ := freeR_ok hf
    obtain ⟨z1, z2⟩ := zero_ok hu he
    refine ⟨_, _, h, .row (a := .lsl d ty.z 0 n.toNat) (es := List.replicate n.toNat (zero.map AV.v)) rfl (.newR f0) (fun _ => by rw [freeB_congr (cl1_row d s.ctr ty .int _ [])]; exact f1) ?_ (by rw [Av_new, List.length_replicate]) ?_⟩
    · simp only [aop, toA_hp, f0, blk, ev_av, hn, hc, av_i]
      rw [if_pos h1, hz]
    · rw [List.map_replicate]
      rcases z1 with z1 | z1
      · left; rw [z1]
      · right
        refine ⟨z1, .of_pn (by simp) fun i e f hi hf => ?_⟩
        obtain rfl := List.eq_of_mem_replicate (List.mem_of_getElem? hi)
        obtain rfl := List.eq_of_mem_replicate (List.mem_of_getElem? hf)
        exact z2
  · cases h

theorem foldl_set (ps : List (Nat × List TV × ty.den)) : ∀ {es : List (List AV)} {xs : List ty.den}, (∀ p ∈ ps, UnOk s.hp ty p.2.1 p.2.2) → EWk es (xs.map ty.cells) →
    EWk ((ps.map fun p => (p.1, p.2.1.map (av1 s.hp))).foldl (fun es p => es.set p.1 p.2) es) (((ps.map fun p => (p.1, p.2.2)).foldl (fun es p => es.set p.1 p.2) xs).map ty.cells) := by
  induction ps with
  | nil => intro es xs _ h; exact h
  | cons p ps ih =>
    intro es xs hp h
    simp only [List.map_cons, List.foldl_cons]
    refine ih (fun p hp' => hp p (List.mem_cons_of_mem _ hp')) ?_
    have hu := hp p List.mem_cons_self
    refine ⟨by simpa using h.1, fun j e f he hf => ?_⟩
    rw [List.map_set] at hf
    by_cases hj : p.1 = j
    · subst hj
      simp only [List.getElem?_set, if_true] at he hf
      split at he
      · split at hf
        · cases he; cases hf
          exact ⟨hu.pn.1, fun c x y hx hy => (hu.pn.2 c x y hx hy).wk⟩
        · cases hf
      · cases he
    · simp only [List.getElem?_set, if_neg hj] at he hf
      exact h.2 j e f he hf
theorem foldl_set_ex (ps : List (Nat × List TV × ty.den)) : ∀ {xs : List ty.den}, (∀ p ∈ ps, p.2.1.map (av1 s.hp) = ty.cells p.2.2) →
    (ps.map fun p => (p.1, p.2.1.map (av1 s.hp))).foldl (fun es p => es.set p.1 p.2) (xs.map ty.cells) = ((ps.map fun p => (p.1, p.2.2)).foldl (fun es p => es.set p.1 p.2) xs).map ty.cells := by
  induction ps with
  | nil => intro xs _; rfl
  | cons p ps ih =>
    intro xs hp
    simp only [List.map_cons, List.foldl_cons]
    rw [hp p List.mem_cons_self, ← List.map_set]
    exact ih fun p hp' => hp p (List.mem_cons_of_mem _ hp')
theorem foldl_len {β : Type} (ps : List (Nat × β)) : ∀ (es : List β), (ps.foldl (fun es p => es.set p.1 p.2) es).length = es.length := by
  induction ps with
  | nil => intro es; rfl
  | cons p ps ih => intro es; simp only [List.foldl_cons]; rw [ih]; simp

theorem rf_refs {h : THp} {x : TV} (hl : lv h x = x) (hr : rf x = []) : (av h x).refs = [] := by
  have one : ∀ y, rf1 y = [] → (av1 h y).refs = [] := by
    intro y hy
    cases y with
    | e x => cases x <;> simp [av1, Err.av, AV.refs, aI]
    | ns t x => cases x <;> simp [av1, AV.refs, aN]
    | lw => simp [rf1] at hy
    | ls => simp [rf1] at hy
    | pe => simp [rf1] at hy
    | pv => simp [rf1] at hy
    | _ => simp [av1, AV.refs, aI, aU, aB, aS, aN, ud]
  have two : ∀ y, rf2 y = [] → (av2 h y).refs = [] := by
    intro y hy
    cases y with
    | ag cs =>
      simp only [av2, AV.refs]
      refine List.eq_nil_iff_forall_not_mem.2 fun r0 hr0 => ?_
      obtain ⟨_, h1, h2⟩ := mem_refsL.1 hr0
      obtain ⟨z, hz, rfl⟩ := List.mem_map.1 h1
      rw [one z (List.flatMap_eq_nil_iff.1 hy z hz)] at h2; cases h2
    | _ => exact one _ (by simpa only [rf2] using hy)
  cases x with
  | tp cs =>
    simp only [av, AV.refs]
    refine List.eq_nil_iff_forall_not_mem.2 fun r0 hr0 => ?_
    obtain ⟨_, h1, h2⟩ := mem_refsL.1 hr0
    obtain ⟨z, hz, rfl⟩ := List.mem_map.1 h1
    rw [two z (List.flatMap_eq_nil_iff.1 hr z hz)] at h2; cases h2
  | fn f cs =>
    simp only [av, AV.refs]
    refine List.eq_nil_iff_forall_not_mem.2 fun r0 hr0 => ?_
    obtain ⟨_, h1, h2⟩ := mem_refsL.1 hr0
    obtain ⟨z, hz, rfl⟩ := List.mem_map.1 h1
    rw [two z (List.flatMap_eq_nil_iff.1 hr z hz)] at h2; cases h2
  | ag cs => exact two (.ag cs) hr
  | _ => exact two _ (by simpa only [rf] using hr)

theorem optAll_fst {α β γ : Type} {f : α → Option (γ × β)} {g : α → γ} (hf : ∀ a y, f a = some y → y.1 = g a) : ∀ {l : List α} {ys : List (γ × β)}, optAll f l = some ys → l.map g = ys.map (·.1)
  | [], ys, h => by simp only [optAll, Option.some.injEq] at h; subst h; rfl
  | a :: l, ys, h => by
    simp only [optAll] at h
    split at h
    · rename_i y zs h1 h2
      cases h
      simp only [List.map_cons]
      rw [hf _ _ h1, optAll_fst hf h2]
    · cases h
theorem foldl_cov {α : Type} : ∀ (qs : List (Nat × α)) (l1 l2 : List α), l1.length = l2.length → (∀ i, i < l1.length → i ∈ qs.map (·.1) ∨ l1[i]? = l2[i]?) → qs.foldl (fun es p => es.set p.1 p.2) l1 = qs.foldl (fun es p => es.set p.1 p.2) l2
  | [], l1, l2, hl, h => by
    show l1 = l2
    apply List.ext_getElem?
    intro i
    by_cases hi : i < l1.length
    · rcases h i hi with h | h
      · simp at h
      · exact h
    · rw [List.getElem?_eq_none (by omega), List.getElem?_eq_none (by omega)]
  | p :: qs, l1, l2, hl, h => by
    simp only [List.foldl_cons]
    refine foldl_cov qs _ _ (by simp [hl]) fun i hi => ?_
    simp only [List.length_set] at hi
    by_cases e : p.1 = i
    · right
      subst e
      rw [List.getElem?_set_self hi, List.getElem?_set_self (by omega)]
    · rcases h i hi with h | h
      · rw [List.map_cons, List.mem_cons] at h
        exact .inl (h.resolve_left (Ne.symm e))
      · right
        rw [List.getElem?_set_ne e, List.getElem?_set_ne e, h]
/-- A new row of elements that lead nowhere. -/
theorem bslT_ok {frz : Bool} {z : Nat} {zero : List Value} {len : Nat} {parts : List (Nat × AOpd)} (hr : (parts.flatMap fun p => rf (s.ev p.2)) = []) (h : bslT q ty z zero len parts d s k = some r) :
    ∃ v b, k v [(d, b)] = some r ∧ StepT S q (.bslice frz z zero len parts) d s v [(d, b)] := by
  unfold bslT at h
  split at h
  · rename_i z0 ps hf hz hu hps
    obtain ⟨hz, he⟩ := Bool.and_eq_true_iff.1 hz
    rw [beq_iff] at hz
    obtain ⟨f0, f1⟩ := freeR_ok hf
    -- the parts, with their cells
    have hex : ∀ (l : List (Nat × AOpd)) (ps : List (Nat × ty.den)), optAll (fun (p : Nat × AOpd) => match cellsT (s.ev p.2) with | some cs => (match exq q cs, unTv ty cs with | true, some x => some (p.1, x) | _, _ => none) | none => none) l = some ps →
        ∃ qs : List (Nat × List TV × ty.den), ps = qs.map (fun p => (p.1, p.2.2)) ∧ (∀ p ∈ qs, UnOk s.hp ty p.2.1 p.2.2 ∧ exq q p.2.1 = true) ∧
          optAll (fun (p : Nat × AOpd) => match (s.toA.ev p.2).cells with | some cs => (match optAll (snap1 s.toA.hp) cs with | some cs => if cs.length = z then some (p.1, cs) else none | none => none) | none => none) l = some (qs.map fun p => (p.1, p.2.1.map (av1 s.hp))) := by
      intro l
      induction l with
      | nil => intro ps h; simp only [optAll, Option.some.injEq] at h; subst h; exact ⟨[], rfl, by simp, rfl⟩
      | cons p l ih =>
        intro ps h
        simp only [optAll] at h
        split at h
        · rename_i y ys h1 h2
          cases h
          obtain ⟨qs, k1, k2, k3⟩ := ih ys h2
          split at h1
          · rename_i cs hc
            split at h1
            · rename_i x hx hun
              cases h1
              obtain ⟨c1, c2⟩ := cellsT_ok (ev_lv s p.2) hc
              have hun' := unTv_ok hun s.hp
              refine ⟨(p.1, cs, x) :: qs, by simp [k1], by simpa using ⟨⟨hun', hx⟩, fun a b c hm => k2 (a, b, c) hm⟩, ?_⟩
              have hs : ∀ y ∈ cs, snapT s.hp y = y := fun y hy => by
                have := (hun'.flat y hy)
                cases y <;> first | rfl | simp [Flat1, rf1] at this
              have h3 : optAll (snap1 s.toA.hp) (cs.map (av1 s.hp)) = some (cs.map (av1 s.hp)) := by
                have := (map_flat (h := s.hp) (cs := cs) (fun y hy => (c2 y hy).1) (by rw [List.map_congr_left hs, List.map_id']; exact hun'.flat)).1
                rw [List.map_congr_left hs, List.map_id'] at this
                exact this
              have hlen : (cs.map (av1 s.hp)).length = z := by rw [hun'.pn.1, cells_len, hz]
              have e1 := ev_av s p.2
              simp only [optAll, e1, c1, h3, if_pos hlen]
              erw [k3]
              rfl
            · cases h1
          · cases h1
        · cases h
    obtain ⟨qs, rfl, k2, k3⟩ := hex parts ps hps
    have hrefs : partRefs s.toA parts = [] := by
      unfold partRefs
      refine List.eq_nil_iff_forall_not_mem.2 fun r0 hr0 => ?_
      obtain ⟨_, h1, h2⟩ := mem_refsL.1 hr0
      obtain ⟨p, hp, rfl⟩ := List.mem_map.1 h1
      rw [ev_av, rf_refs (ev_lv s p.2) (List.flatMap_eq_nil_iff.1 hr p hp)] at h2
      cases h2
    refine ⟨_, _, h, .row (a := .lsl d ty.z 0 len) (es := (qs.map fun p => (p.1, p.2.1.map (av1 s.hp))).foldl (fun es p => es.set p.1 p.2) (List.replicate len (zero.map AV.v))) rfl (.newR f0) (fun _ => by rw [freeB_congr (cl1_row d s.ctr ty .int _ [])]; exact f1) ?_ ?_ ?_⟩
    · have e0 : s.toA.hp d = none := by rw [toA_hp, f0]; rfl
      simp only [aop, e0]
      erw [k3]
      simp only [hrefs, ASt.freezeL, or_true, if_true, hz]
    · rw [Av_new, foldl_len, List.length_replicate]
    · by_cases hex0 : exq q (zero.map cst) = true
      · obtain ⟨z1, z2⟩ := zero_ok hu hex0
        rcases z1 with z1 | z1
        · cases hq : q with
          | true =>
            left
            have hx : ∀ p ∈ qs, p.2.1.map (av1 s.hp) = ty.cells p.2.2 := fun p hp => by
              obtain ⟨a, b⟩ := k2 p hp
              rw [hq] at b
              exact a.ex (by simpa [exq] using b)
            rw [z1, ← List.map_replicate]
            exact foldl_set_ex qs hx
          | false =>
            right
            refine ⟨rfl, foldl_set qs (fun p hp => (k2 p hp).1) ?_⟩
            rw [z1, ← List.map_replicate]
            exact .rfl _
        · right
          refine ⟨z1, foldl_set qs (fun p hp => (k2 p hp).1) (.of_pn (by simp) fun i e f hi hf => ?_)⟩
          rw [List.map_replicate] at hf
          obtain rfl := List.eq_of_mem_replicate (List.mem_of_getElem? hi)
          obtain rfl := List.eq_of_mem_replicate (List.mem_of_getElem? hf)
          exact z2
      · have hq : q = true := by
          cases q with
          | true => rfl
          | false => exact absurd rfl hex0
        left
        have hx : ∀ p ∈ qs, p.2.1.map (av1 s.hp) = ty.cells p.2.2 := fun p hp => by
          obtain ⟨a, b⟩ := k2 p hp
          rw [hq] at b
          exact a.ex (by simpa [exq] using b)
        have hcov : covB len (parts.map (·.1)) = true := by simpa [hex0] using he
        have hpos : parts.map (·.1) = (qs.map fun p => (p.1, p.2.1.map (av1 s.hp))).map (·.1) := optAll_fst (fun p y hy => by
          split at hy
          · split at hy
            · split at hy
              · cases hy; rfl
              · cases hy
            · cases hy
          · cases hy) k3
        rw [foldl_cov (qs.map fun p => (p.1, p.2.1.map (av1 s.hp))) (List.replicate len (zero.map AV.v)) (List.replicate len (ty.cells z0)) (by simp) fun i hi => ?_]
        · rw [← List.map_replicate]
          exact foldl_set_ex qs hx
        · left
          rw [← hpos]
          have := List.all_eq_true.1 hcov i (by simpa using hi)
          obtain ⟨j, hj, e⟩ := List.any_eq_true.1 this
          rw [beq_iff] at e
          subst e
          exact hj
  · cases h

/-- A state that says no more ahead of a step. -/
theorem StepT.pre {o : AOp} {v : TV} {hs h1 : THp} (hq : q = false) (hc : (realRets S).cv s.toA (s.push h1).toA) (h : StepT S q o d (s.push h1) v hs) : StepT S q o d s v (hs ++ h1) := by
  obtain ⟨h0, a, st1, k1, k2, k3⟩ := h
  rw [push_push] at k1 k2
  refine ⟨h0 ++ h1, a, st1, .inr ⟨hq, ?_⟩, k2, fun dst => ?_⟩
  · rcases k1 with k1 | ⟨_, k1⟩
    · rw [← k1]; exact hc
    · exact cv_trans hc k1
  · have := k3 dst
    rw [toA_put] at this ⊢
    rw [← push_push]
    simpa only [TSt.push, List.append_assoc] using this

theorem frzs_rf : ∀ (l : List Nat) {h : THp} {hs : THp}, frzs h l = some hs → True := fun _ _ _ _ => trivial
theorem top_bslice {frz : Bool} {z : Nat} {zero : List Value} {len : Nat} {parts : List (Nat × AOpd)} (h : top C q ty (.bslice frz z zero len parts) d s k = some r) : ∃ v hs, k v hs = some r ∧ StepT S q (.bslice frz z zero len parts) d s v hs := by
  simp only [top] at h
  split at h
  · rename_i hr
    obtain ⟨v, b, h1, h2⟩ := bslT_ok (S := S) (frz := frz) hr h
    exact ⟨_, _, h1, h2⟩
  · split at h
    · cases h
    · split at h
      · cases h
      · rename_i h1 hfz
        split at h
        · rename_i hr
          obtain ⟨v, b, h2, h3⟩ := bslT_ok (S := S) (frz := frz) hr h
          exact ⟨_, _, h2, h3.pre rfl (cv_frzs _ _ _ hfz)⟩
        · cases h

theorem elemsT_ok {t : Ty} {v : TV} {ys : List t.den} (hl : lv s.hp v = v) (h : elemsT t s.hp v = some ys) : elemsOf s.toA.hp t.z (av s.hp v) = some (ys.map t.cells) := by
  unfold elemsT at h
  cases v with
  | nl => simp only [snapT, dSl, Option.some.injEq] at h; subst h; rfl
  | sl t' xs => obtain ⟨rfl, rfl⟩ := castT_some h; simp only [av_sl, elemsOf, if_true]
  | ns t' x =>
    cases x with
    | none => simp only [snapT, dSl, Option.some.injEq] at h; subst h; rfl
    | some xs => obtain ⟨rfl, rfl⟩ := castT_some h; simp only [av, av2, av1, elemsOf, if_true]
  | lw r' v =>
    obtain ⟨t', xs, hl'⟩ := sl_row (lv_live1 rfl hl)
    simp only [snapT, hl', dSl] at h
    obtain ⟨rfl, rfl⟩ := castT_some h
    rw [av_lw hl']
    simp [elemsOf, toA_hp, hl', blk, List.take_of_length_le]
  | _ => simp [snapT, dSl] at h
theorem top_app {z : Nat} {x y : AOpd} (h : top C q ty (.app z x y) d s k = some r) : ∃ v hs, k v hs = some r ∧ StepT S q (.app z x y) d s v hs := by
  simp only [top] at h
  split at h
  · rename_i ys hz hy
    rw [beq_iff] at hz
    have hel := elemsT_ok (ev_lv s y) hy
    rw [← hz] at hel
    split at h
    · rename_i hx
      split at h
      · rename_i hf
        obtain ⟨h1, h⟩ := ck_some h
        have h1 := of_decide_eq_true h1
        obtain ⟨f0, f1⟩ := freeR_ok hf
        refine ⟨_, _, h, .heap (a := .lsl d z 0 ys.length) rfl (.newR f0) (fun _ => by rw [freeB_congr (cl1_row d s.ctr ty .int _ [])]; exact f1) ?_ (by rw [Av_new, hz])⟩
        simp only [aop, ev_av, hel, hx, av_nl, List.length_map]
        rw [if_pos h1, toA_hp, f0]
        simp only [blk, hz]
      · cases h
    · rename_i r' v hx
      obtain ⟨e1, e2⟩ := ev_eq hx
      split at h
      · rename_i v' t xs hl hb
        obtain ⟨hb1, hb2⟩ := Bool.and_eq_true_iff.1 hb
        have hb1 : r' < 1000 := by rw [Nat.blt_eq] at hb1; exact hb1
        split at h
        · rename_i xs' hc
          obtain ⟨rfl, rfl⟩ := castT_some hc
          obtain ⟨h1, h⟩ := ck_some h
          have h1 := of_decide_eq_true h1
          refine ⟨_, _, h, ⟨[], .lsl r' z 0 (xs'.length + ys.length), (s.toA.scrub r').setH r' (some (.arr t.z ((xs' ++ ys).map t.cells))), .inl rfl, stepR_aop rfl ?_, fun dst => .inl ?_⟩⟩
          · rw [toA_push0]
            simp only [aop, ev_av s y, hel, e1, av_lw hl, toA_hp, hl, blk, List.length_map]
            rw [if_pos ⟨hb1, hz, hz, True.intro, h1⟩]
            simp only [List.map_append, hz]
          · have e3 := Av_new (s := s) (n := s.ctr) (d' := r') (t := t) (xs := xs' ++ ys)
            rw [List.length_append, ← hz] at e3
            rw [toA_put, toA_app hl hb2]
            show _ = ASt.putO _ dst (Av ((r', TB.row s.ctr t (xs' ++ ys)) :: s.hp) (TV.lw r' s.ctr))
            rw [e3]
        · cases h
      · cases h
    · cases h
  · cases h
end
end Ab
