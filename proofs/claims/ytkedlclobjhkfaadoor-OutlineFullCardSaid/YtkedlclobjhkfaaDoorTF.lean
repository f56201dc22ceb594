/-
  Typed values over the abstract machine: each operation of the typed machine that is no call is one of the abstract machine.
-/
import Derived.Test.YtkedlclobjhkfaaDoorTE
namespace Ab
open Go Go.RowKit
set_option linter.unusedVariables false
set_option linter.unusedSimpArgs false
set_option linter.unnecessarySimpa false

section
variable {S : Seat} {q : Bool} {α : Type} {C : List CSpec} {ty : Ty} {d : Nat} {s : TSt} {k : TV → THp → Option α} {r : α}

def Cv (S : Seat) (q : Bool) (a b : ASt) : Prop := a = b ∨ (q = false ∧ (realRets S).cv a b)
def StepT (S : Seat) (q : Bool) (o : AOp) (d : Nat) (s : TSt) (v : TV) (hs : THp) : Prop :=
  ∃ h0 a st1, Cv S q s.toA (s.push h0).toA ∧ StepR (realRets S) q o d (s.push h0).toA a st1 ∧ ∀ dst : Option Nat, Cv S q (st1.putO dst a) ((s.push hs).putO dst v).toA

theorem stepR_aop {M : Rets} {o : AOp} {st st1 : ASt} {a : AV} (hn : isCall o = false) (h : aop o d st = some (a, st1)) : StepR M q o d st a st1 := by
  cases o <;> first | exact h | simp [isCall] at hn
theorem StepT.val {o : AOp} {v : TV} (hn : isCall o = false) (h : aop o d s.toA = some (Av s.hp v, s.toA)) : StepT S q o d s v [] :=
  ⟨[], _, _, .inl rfl, stepR_aop hn h, fun dst => .inl (by rw [toA_put]; rfl)⟩
theorem wk_putO {st : ASt} {s1 : TSt} {a : AV} {v : TV} (h : ∀ k, Wk (fun _ => False) (st.fr k) (s1.toA.fr k)) (hw : Wk (fun _ => False) a (Av s1.hp v)) (dst : Option Nat) (k : Nat) : Wk (fun _ => False) ((st.putO dst a).fr k) ((s1.putO dst v).toA.fr k) := by
  rw [toA_put]
  cases dst with
  | none => exact h k
  | some d =>
    simp only [ASt.putO, ASt.put, upd]
    split
    · exact hw
    · exact h k
theorem hp_putO' (st : ASt) (dst : Option Nat) (a : AV) : (st.putO dst a).hp = st.hp := by cases dst <;> rfl
theorem StepT.wk {o : AOp} {v : TV} {a : AV} (hq : q = false) (hn : isCall o = false) (h : aop o d s.toA = some (a, s.toA)) (hw : Wk (fun _ => False) a (Av s.hp v)) : StepT S q o d s v [] :=
  ⟨[], _, _, .inl rfl, stepR_aop hn h, fun dst => .inr ⟨hq, cv_weaken (SWk.mk' (N := fun _ => False) (fun k => wk_putO (s1 := s.push []) (fun k => .rfl _) hw dst k) (fun r => by
    rw [toA_put, hp_putO', hp_putO']
    cases hb : s.toA.hp r with
    | none => exact .inl (by rw [toA_push0]; exact hb)
    | some b => exact .inr (.inl ⟨b, b, rfl, by rw [toA_push0]; exact hb, .rfl b⟩)) fun r hr => hr.elim)⟩⟩
theorem StepT.heap {o : AOp} {v : TV} {a : AV} {d' : Nat} {b : TB} (hn : isCall o = false) (hc : Chg s.hp d' b) (hf : look d' .gone s.hp = .gone → freeB d' b s = true)
    (h : aop o d s.toA = some (a, s.toA.setH d' (blk ((d', b) :: s.hp) b))) (ha : Av ((d', b) :: s.hp) v = a) : StepT S q o d s v [(d', b)] :=
  ⟨[], _, _, .inl rfl, stepR_aop hn h, fun dst => .inl (by rw [toA_put, toA_push hc hf, ← ha]; rfl)⟩
/-- The same, where the row's elements are said less exactly. -/
theorem StepT.row {o : AOp} {v : TV} {a : AV} {d' n : Nat} {t : Ty} {xs : List t.den} {es : List (List AV)} (hn : isCall o = false) (hc : Chg s.hp d' (.row n t xs)) (hf : look d' .gone s.hp = .gone → freeB d' (.row n t xs) s = true)
    (h : aop o d s.toA = some (a, s.toA.setH d' (some (.arr t.z es)))) (ha : Av ((d', .row n t xs) :: s.hp) v = a) (he : es = xs.map t.cells ∨ (q = false ∧ EWk es (xs.map t.cells))) : StepT S q o d s v [(d', .row n t xs)] := by
  rcases he with rfl | ⟨hq, he⟩
  · exact .heap hn hc hf h ha
  · refine ⟨[], _, _, .inl rfl, stepR_aop hn h, fun dst => .inr ⟨hq, ?_⟩⟩
    have e := toA_push hc hf
    refine cv_weaken (SWk.mk' (N := fun _ => False) (fun k => wk_putO (fun k => ?_) (by rw [← ha]; exact .rfl _) dst k) (fun r => ?_) fun r hr => hr.elim)
    · rw [e]; exact .rfl _
    · rw [toA_put, hp_putO', hp_putO', e]
      simp only [ASt.setH, upd]
      split
      · exact .inr (.inl ⟨_, _, rfl, rfl, .arr he⟩)
      · cases hb : s.toA.hp r with
        | none => exact .inl rfl
        | some b => exact .inr (.inl ⟨b, b, rfl, rfl, .rfl b⟩)

theorem ck_some {b : Bool} {x : Option α} (h : ck b x = some r) : b = true ∧ x = some r := by
  cases b with
  | true => exact ⟨rfl, h⟩
  | false => cases h
theorem bno_some {β : Type} {x : Option β} {f : β → Option α} (h : bno x f = some r) : ∃ y, x = some y ∧ f y = some r := by
  cases x with
  | none => cases h
  | some y => exact ⟨y, rfl, h⟩
theorem lookI_some {β : Type} {xs : List β} {n : Int} {y : β} (h : lookI xs n = some y) : 0 ≤ n ∧ xs[n.toNat]? = some y := by
  unfold lookI at h
  split at h
  · rename_i hn; exact ⟨hn, h⟩
  · cases h
theorem ev_eq {x : AOpd} {v : TV} (h : s.ev x = v) : s.toA.ev x = av s.hp v ∧ lv s.hp v = v := ⟨by rw [ev_av, h], by rw [← h]; exact ev_lv s x⟩
theorem ev_Av' {x : AOpd} {v : TV} (h : s.ev x = v) : s.toA.ev x = Av s.hp v := by rw [ev_Av, h]
theorem Av_of {h : THp} {v : TV} (hl : lv h v = v) : Av h v = av h v := by rw [Av, hl]
theorem sl_var {h : THp} {s off : Nat} (hl : lv1 h (.pv s off) = .pv s off) : ∃ cs, look s .gone h = .var cs := by
  cases hq : look s .gone h with
  | var cs => exact ⟨cs, rfl⟩
  | _ => simp [lv1, hq] at hl
theorem sl_pe {h : THp} {s v i off : Nat} (hl : lv1 h (.pe s v i off) = .pe s v i off) : ∃ t xs, look s .gone h = .row v t xs := by
  cases hq : look s .gone h with
  | row v' t xs =>
    cases hb : v.beq v' with
    | true => rw [beq_iff] at hb; subst hb; exact ⟨t, xs, rfl⟩
    | false => simp [lv1, hq, hb] at hl
  | _ => simp [lv1, hq] at hl
theorem sl_ls {h : THp} {s v off len : Nat} (hl : lv1 h (.ls s v off len) = .ls s v off len) : ∃ t xs, look s .gone h = .row v t xs := by
  cases hq : look s .gone h with
  | row v' t xs =>
    cases hb : v.beq v' with
    | true => rw [beq_iff] at hb; subst hb; exact ⟨t, xs, rfl⟩
    | false => simp [lv1, hq, hb] at hl
  | _ => simp [lv1, hq] at hl

theorem av_pv (h : THp) (s off : Nat) : av h (.pv s off) = .pv s off := rfl
theorem av_ep (h : THp) (t : Ty) (x : t.den) (off : Nat) : av h (.ep t x off) = .ep (t.cells x) off := rfl
theorem av_sl (h : THp) (t : Ty) (xs : List t.den) : av h (.sl t xs) = .sl t.z (xs.map t.cells) := rfl
theorem av_i (h : THp) (n : Int) : av h (.i n) = .v (.int .i64 n) := rfl
theorem av_u (h : THp) (n : Int) : av h (.u n) = .v (.int .u8 n) := rfl
theorem av_b (h : THp) (n : Bool) : av h (.b n) = .v (.bool n) := rfl
theorem av_s (h : THp) (n : ByteArray) : av h (.s n) = .v (.string n) := rfl
theorem av_nl (h : THp) : av h .nl = .v (.slice none 0 0) := rfl
theorem av_pe {h : THp} {s v v' i off : Nat} {t : Ty} {xs : List t.den} (hl : look s .gone h = .row v' t xs) : av h (.pe s v i off) = .pe s t.z i off := by simp only [av, av2, av1, hl]
theorem av_lw {h : THp} {s v v' : Nat} {t : Ty} {xs : List t.den} (hl : look s .gone h = .row v' t xs) : av h (.lw s v) = .lsl s t.z 0 xs.length := by simp only [av, av2, av1, hl]
theorem av_ls {h : THp} {s v v' off len : Nat} {t : Ty} {xs : List t.den} (hl : look s .gone h = .row v' t xs) : av h (.ls s v off len) = .lsl s t.z off len := by simp only [av, av2, av1, hl]
theorem top_mov {x : AOpd} (h : top C q ty (.mov x) d s k = some r) : ∃ v hs, k v hs = some r ∧ StepT S q (.mov x) d s v hs :=
  ⟨_, _, h, .val rfl (by simp only [aop, ev_Av])⟩

theorem freeV_ok (h : freeV d s = true) : look d .gone s.hp = .gone ∧ freeB d (.var []) s = true := by
  simp only [freeV, Bool.and_eq_true] at h
  refine ⟨?_, h.2⟩
  have := h.1
  cases hb : look d .gone s.hp <;> simp_all [isGone]
theorem freeR_ok {n : Nat} (h : freeR d n s = true) : look d .gone s.hp = .gone ∧ freeB d (.row n .int []) s = true := by
  simp only [freeR, Bool.and_eq_true] at h
  refine ⟨?_, h.2⟩
  have := h.1
  cases hb : look d .gone s.hp <;> simp_all [isGone]
theorem cl1_var (d : Nat) (cs cs' : List TV) (x : TV) : cl1 d (.var cs) x = cl1 d (.var cs') x := by cases x <;> rfl
theorem cl1_row (d n : Nat) (t t' : Ty) (xs : List t.den) (xs' : List t'.den) (x : TV) : cl1 d (.row n t xs) x = cl1 d (.row n t' xs') x := by cases x <;> rfl
theorem freeB_congr {d : Nat} {b b' : TB} (h : ∀ x, cl1 d b x = cl1 d b' x) (s : TSt) : freeB d b s = freeB d b' s := by
  have e1 : cl1 d b = cl1 d b' := funext h
  have e2 : cl2 d b = cl2 d b' := by funext x; unfold cl2; rw [e1]
  have e3 : cl d b = cl d b' := by funext x; unfold cl; rw [e2]
  unfold freeB
  rw [e3, e1]

/-- Cells that live are what they were, behind a new variable. -/
theorem A1_new {d : Nat} {cs : List TV} {y : TV} (h0 : look d .gone s.hp = .gone) (hy : lv1 s.hp y = y) : A1 ((d, .var cs) :: s.hp) y = av1 s.hp y := by
  have hle : LE s.hp ((d, .var cs) :: s.hp) y := push1 (.newV h0) fun _ => by
    cases y with
    | pv r off =>
      by_cases hr : r = d
      · subst hr; simp [lv1, h0] at hy
      · simp only [cl1]
        cases hb : r.beq d with
        | true => exact absurd (beq_iff.1 hb) hr
        | false => rfl
    | _ => rfl
  rw [hle.av, A1, hy]

theorem top_box {x : AOpd} (h : top C q ty (.box x) d s k = some r) : ∃ v hs, k v hs = some r ∧ StepT S q (.box x) d s v hs := by
  simp only [top] at h
  split at h
  · rename_i cs hc hf
    obtain ⟨h0, h1⟩ := freeV_ok hf
    obtain ⟨c1, c2⟩ := cellsT_ok (ev_lv s x) hc
    refine ⟨_, _, h, .heap (a := .pv d 0) rfl (.newV h0) (fun _ => by rw [freeB_congr (cl1_var d cs [])]; exact h1) ?_ ?_⟩
    · simp only [aop, ev_av, c1, toA_hp, h0, blk]
      rw [show (cs.map fun x => av1 ((d, .var cs) :: s.hp) (lv1 ((d, .var cs) :: s.hp) x)) = cs.map (av1 s.hp) from List.map_congr_left fun y hy => A1_new h0 (c2 y hy).1]
    · simp only [Av, lv, lv2, lv1, look_cons, if_true, av, av2, av1]
  · cases h

theorem cst_sl (h : THp) (x : Value) : lv1 h (cst x) = cst x := by unfold cst; split <;> rfl
theorem cst_av1 (h : THp) (x : Value) : av1 h (cst x) = .v x := by unfold cst; split <;> rfl
theorem top_alloc {zero : List Value} (h : top C q ty (.alloc zero) d s k = some r) : ∃ v hs, k v hs = some r ∧ StepT S q (.alloc zero) d s v hs := by
  simp only [top] at h
  split at h
  · rename_i hf
    obtain ⟨h0, h1⟩ := freeV_ok hf
    refine ⟨_, _, h, .heap (a := .pv d 0) rfl (.newV h0) (fun _ => by rw [freeB_congr (cl1_var d (zero.map cst) [])]; exact h1) ?_ ?_⟩
    · simp only [aop, toA_hp, h0, blk, List.map_map]
      congr 5
      exact List.map_congr_left fun x _ => by simp only [Function.comp, cst_sl, cst_av1]
    · simp only [Av, lv, lv2, lv1, look_cons, if_true, av, av2, av1]
  · cases h

theorem ovw_map {β : Type} (f : TV → β) (cs new : List TV) (off : Nat) : (ovw cs off new).map f = (cs.map f).take off ++ new.map f ++ (cs.map f).drop (off + (new.map f).length) := by
  simp only [ovw, List.map_append, List.map_take, List.map_drop, List.length_map]
theorem fillT_ok {h : THp} : ∀ {ps : List (Nat × List TV)} {zero cs : List TV}, (∀ y ∈ zero, lv1 h y = y) → (∀ p ∈ ps, ∀ y ∈ p.2, lv1 h y = y) → fillT zero ps = some cs →
    fillZ (zero.map (av1 h)) (ps.map fun p => (p.1, p.2.map (av1 h))) = some (cs.map (av1 h)) ∧ ∀ y ∈ cs, lv1 h y = y
  | [], zero, cs, h1, _, hf => by
    simp only [fillT, Option.some.injEq] at hf
    subst hf
    exact ⟨rfl, h1⟩
  | (off, ds) :: ps, zero, cs, h1, h2, hf => by
    simp only [fillT] at hf
    split at hf
    · rename_i hb
      have hb' : off + ds.length ≤ zero.length := Nat.le_of_ble_eq_true hb
      have h3 : ∀ y ∈ ovw zero off ds, lv1 h y = y := by
        intro y hy
        simp only [ovw, List.mem_append] at hy
        rcases hy with (hy | hy) | hy
        · exact h1 y (List.mem_of_mem_take hy)
        · exact h2 _ List.mem_cons_self y hy
        · exact h1 y (List.mem_of_mem_drop hy)
      obtain ⟨k1, k2⟩ := fillT_ok h3 (fun p hp => h2 p (List.mem_cons_of_mem _ hp)) hf
      refine ⟨?_, k2⟩
      simp only [List.map_cons, fillZ, List.length_map]
      rw [if_pos hb', ← k1, ovw_map]
      rfl
    · cases hf

theorem optAll_rel {α β γ : Type} {f : α → Option β} {g : α → Option γ} {m : β → γ} {P : β → Prop} : ∀ {l : List α} {ys : List β}, (∀ a ∈ l, ∀ y, f a = some y → g a = some (m y) ∧ P y) → optAll f l = some ys → optAll g l = some (ys.map m) ∧ ∀ y ∈ ys, P y
  | [], ys, _, h => by simp only [optAll, Option.some.injEq] at h; subst h; exact ⟨rfl, by simp⟩
  | a :: l, ys, hm, h => by
    simp only [optAll] at h
    split at h
    · rename_i y ys' h1 h2
      cases h
      obtain ⟨k1, k2⟩ := hm a List.mem_cons_self y h1
      obtain ⟨k3, k4⟩ := optAll_rel (fun a ha => hm a (List.mem_cons_of_mem _ ha)) h2
      exact ⟨by simp only [optAll, k1, k3, List.map_cons], by simpa using ⟨k2, k4⟩⟩
    · cases h

theorem top_build {zero : List Value} {parts : List (Nat × Nat × AOpd)} (h : top C q ty (.build zero parts) d s k = some r) : ∃ v hs, k v hs = some r ∧ StepT S q (.build zero parts) d s v hs := by
  simp only [top] at h
  split at h
  · rename_i ps hps
    split at h
    · rename_i cs hcs
      have h1 := optAll_rel (g := fun (p : Nat × Nat × AOpd) => match (s.toA.ev p.2.2).cells with | some cs => if cs.length = p.2.1 then some (p.1, cs) else none | none => none)
        (m := fun p => (p.1, p.2.map (av1 s.hp))) (P := fun p => ∀ y ∈ p.2, lv1 s.hp y = y) (fun p _ y hy => by
          split at hy
          · rename_i cs hc
            split at hy
            · rename_i hb
              cases hy
              obtain ⟨c1, c2⟩ := cellsT_ok (ev_lv s p.2.2) hc
              simp only [ev_av, c1, List.length_map]
              rw [if_pos (beq_iff.1 hb)]
              exact ⟨rfl, fun y hy => (c2 y hy).1⟩
            · cases hy
          · cases hy) hps
      obtain ⟨f1, f2⟩ := fillT_ok (h := s.hp) (zero := zero.map cst) (by simp [cst_sl]) h1.2 hcs
      refine ⟨_, _, h, .val rfl ?_⟩
      simp only [aop]
      erw [h1.1]
      have e : (zero.map cst).map (av1 s.hp) = zero.map AV.v := by rw [List.map_map]; exact List.map_congr_left fun x _ => cst_av1 _ x
      rw [e] at f1
      simp only [f1]
      rw [Av_of (lv_lv2 (mk_ag f2))]
      rfl
    · cases h
  · cases h

theorem top_load {n : Option Nat} {x : AOpd} (h : top C q ty (.load n x) d s k = some r) : ∃ v hs, k v hs = some r ∧ StepT S q (.load n x) d s v hs := by
  simp only [top] at h
  split at h
  · rename_i t y off hx
    obtain ⟨e1, e2⟩ := ev_eq hx
    split at h
    · rename_i v hv
      obtain ⟨t1, t2⟩ := tvs_av t y s.hp
      obtain ⟨p1, p2⟩ := partT_ok (h := s.hp) (fun y hy => flat_live (t2 y hy).1) hv
      refine ⟨_, _, h, .val rfl ?_⟩
      rw [t1] at p1
      simp only [aop, e1, av_ep, cellsAt, p1, Av_of p2]
    · cases h
  · rename_i r' off hx
    obtain ⟨e1, e2⟩ := ev_eq hx
    split at h
    · rename_i cs hl
      split at h
      · rename_i v hv
        obtain ⟨p1, p2⟩ := partT_ok (h := s.hp) (fun y hy => by obtain ⟨z, hz, rfl⟩ := List.mem_map.1 hy; exact lv1_idem _ z) hv
        refine ⟨_, _, h, .val rfl ?_⟩
        rw [List.map_map] at p1
        simp only [aop, e1, av_pv, cellsAt, toA_hp, hl, blk]
        rw [show (cs.map fun x => av1 s.hp (lv1 s.hp x)) = cs.map (av1 s.hp ∘ lv1 s.hp) from rfl, p1, Av_of p2]
      · cases h
    · cases h
  · rename_i r' v' i off hx
    obtain ⟨e1, e2⟩ := ev_eq hx
    split at h
    · rename_i v'' t xs hl
      obtain ⟨y, hy, h⟩ := bno_some h
      split at h
      · rename_i v hv
        obtain ⟨t1, t2⟩ := tvs_av t y s.hp
        obtain ⟨p1, p2⟩ := partT_ok (h := s.hp) (fun y hy => flat_live (t2 y hy).1) hv
        refine ⟨_, _, h, .val rfl ?_⟩
        rw [t1] at p1
        simp only [aop, e1, av_pe hl, cellsAt, toA_hp, hl, blk, if_true, List.getElem?_map, hy, Option.map_some, p1, Av_of p2]
      · cases h
    · cases h
  · cases h

theorem cells_len (t : Ty) (x : t.den) : (t.cells x).length = t.z := by
  cases t <;> first | rfl | (cases x <;> rfl)

theorem all_ex {q : Bool} {cs : List TV} (h : exq q cs = true) : q = false ∨ cs.all exact1 = true := by
  cases q with
  | false => exact .inl rfl
  | true => right; simpa [exq] using h

theorem top_store {z : Nat} {a x : AOpd} (h : top C q ty (.store z a x) d s k = some r) : ∃ v hs, k v hs = some r ∧ StepT S q (.store z a x) d s v hs := by
  simp only [top] at h
  split at h
  · rename_i new hc
    obtain ⟨c1, c2⟩ := cellsT_ok (ev_lv s x) hc
    have c2' : ∀ y ∈ new, lv1 s.hp y = y := fun y hy => (c2 y hy).1
    split at h
    · rename_i hz
      rw [beq_iff] at hz
      split at h
      · rename_i r' off ha
        obtain ⟨e1, e2⟩ := ev_eq ha
        split at h
        · rename_i cs hl
          split at h
          · rename_i hb
            have hb' : off + z ≤ cs.length := Nat.le_of_ble_eq_true hb
            refine ⟨_, _, h, .heap (a := .bot) rfl (.var hl) (fun hg => by rw [hl] at hg; cases hg) ?_ rfl⟩
            have e3 : ∀ y, A1 ((r', .var (ovw cs off new)) :: s.hp) y = A1 s.hp y := fun y => (push1 (.var hl) fun hg => by rw [hl] at hg; cases hg).av
            simp only [aop, ev_av, c1, ha, List.length_map, hz, if_true, av_pv, toA_hp, hl, blk]
            rw [if_pos (by simpa using hb')]
            rw [show ((ovw cs off new).map fun x => av1 ((r', .var (ovw cs off new)) :: s.hp) (lv1 ((r', .var (ovw cs off new)) :: s.hp) x)) = (ovw cs off new).map (A1 s.hp) from List.map_congr_left fun y _ => e3 y]
            rw [ovw_map, show new.map (A1 s.hp) = new.map (av1 s.hp) from List.map_congr_left fun y hy => by rw [A1, c2' y hy]]
            rfl
          · cases h
        · cases h
      · rename_i r' v' i off ha
        obtain ⟨e1, e2⟩ := ev_eq ha
        split at h
        · rename_i v'' t xs hl
          split at h
          · rename_i hrf
            obtain ⟨y, hy, h⟩ := bno_some h
            split at h
            · rename_i y' hb hu
              obtain ⟨hb, hex⟩ := Bool.and_eq_true_iff.1 hb
              have hb' := Nat.le_of_ble_eq_true hb
              have hlv : lv1 s.hp (.pe r' v' i off) = .pe r' v' i off := lv_live1 rfl e2
              obtain ⟨t', xs', hl'⟩ := sl_pe hlv
              rw [hl] at hl'
              have hvv : v'' = v' := by injection hl'
              subst hvv
              clear hl'
              have hu' := unTv_ok hu s.hp
              obtain ⟨t1, t2⟩ := tvs_av t y s.hp
              have hnew : (ovw (tvs t y) off new).map (av1 s.hp) = overwrite (t.cells y) off (new.map (av1 s.hp)) := by
                rw [ovw_map, t1]; rfl
              have hrefs : AV.refsL (new.map (av1 s.hp)) = [] := by
                refine List.eq_nil_iff_forall_not_mem.2 fun r0 hr0 => ?_
                obtain ⟨_, h1, h2⟩ := mem_refsL.1 hr0
                obtain ⟨y0, hy0, rfl⟩ := List.mem_map.1 h1
                have : rf1 y0 = [] := List.flatMap_eq_nil_iff.1 hrf y0 hy0
                cases y0 with
                | e x => cases x <;> simp [av1, Err.av, AV.refs, aI] at h2
                | ns t x => cases x <;> simp [av1, AV.refs, aN] at h2
                | lw => simp [rf1] at this
                | ls => simp [rf1] at this
                | pe => simp [rf1] at this
                | pv => simp [rf1] at this
                | _ => simp [av1, AV.refs, aI, aU, aB, aS, aN, ud] at h2
              refine ⟨_, _, h, .row (a := .bot) (es := (xs.map t.cells).set i (overwrite (t.cells y) off (new.map (av1 s.hp)))) rfl (.row hl (by simp)) (fun hg => by rw [hl] at hg; cases hg) ?_ rfl ?_⟩
              · simp only [aop, ev_av, c1, ha, List.length_map, hz, if_true, av_pe hl, toA_hp, hl, blk, List.getElem?_map, hy, Option.map_some]
                rw [if_pos ⟨True.intro, by rw [tvs_len] at hb'; exact hb', hrefs⟩]
              · rw [List.map_set, ← hnew]
                have hi : i < xs.length := (List.getElem?_eq_some_iff.1 hy).1
                rcases all_ex hex with hq | hex
                · right
                  refine ⟨hq, by simp, fun j e e1 h1 h2 => ?_⟩
                  by_cases hj : i = j
                  · subst hj
                    simp only [List.getElem?_set, List.length_map, hi, if_true, Option.some.injEq] at h1 h2
                    subst h1; subst h2
                    exact ⟨hu'.pn.1, fun c x y hx hy => (hu'.pn.2 c x y hx hy).wk⟩
                  · simp only [List.getElem?_set, if_neg hj] at h1 h2
                    rw [h1] at h2; cases h2
                    exact ⟨rfl, fun c x y hx hy => by rw [hx] at hy; cases hy; exact .rfl _⟩
                · left
                  rw [hu'.ex hex]
            · cases h
          · cases h
        · cases h
      · cases h
    · cases h
  · cases h
end
end Ab
