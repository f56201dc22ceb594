/-
  Typed values over the abstract machine: what changes in a loop or on two ways is told; code; functions.
-/
import Derived.Test.YtkedlclobjhkfaaDoorTH
namespace Ab
open Go Go.RowKit
set_option linter.unusedVariables false
set_option linter.unusedSimpArgs false
set_option linter.unnecessarySimpa false

section
variable {S : Seat} {α : Type} {C : List CSpec}

/-! ### values that are handed on -/

theorem snap_nil {x : TV} (h : ok1 (snapT [] x) = true) : snapT [] x = x ∧ rf1 x = [] := by
  cases x <;> first | exact ⟨rfl, rfl⟩ | (simp [snapT, ok1, look] at h; done)
theorem decW2 {N : Nat → Prop} {h : THp} {sh : Sh} {v : TV} {x : sh.den} (hl : lv2 h v = v) (hd : dec [] sh v = some x) (h' : THp) : lv2 h' (enc sh x) = enc sh x ∧ Wk N (av2 h v) (av2 h' (enc sh x)) := by
  cases sh with
  | int => obtain rfl := dI_some hd; exact ⟨rfl, .rfl _⟩
  | u8 => obtain rfl := dU_some hd; exact ⟨rfl, .rfl _⟩
  | bool => obtain rfl := dB_some hd; exact ⟨rfl, .rfl _⟩
  | str => obtain rfl := dS_some hd; exact ⟨rfl, .rfl _⟩
  | err => obtain rfl := dE_some hd; exact ⟨rfl, .rfl _⟩
  | unit =>
    simp only [dec] at hd
    split at hd
    · simp [lv2, lv1] at hl
    · cases hd
  | sl t =>
    simp only [dec] at hd
    obtain ⟨k1, k2, k3, k4, k5, k6⟩ := dSl_ok hd h
    obtain ⟨s1, s2⟩ := snap_nil k6
    rw [s1] at k1 k4
    rw [av2_leaf k4]
    exact ⟨rfl, k1.wk⟩
  | ns t =>
    simp only [dec] at hd
    obtain ⟨k1, k3, k4, k5, k6⟩ := dNs_ok hd h
    obtain ⟨s1, s2⟩ := snap_nil k6
    rw [s1] at k1 k4
    rw [av2_leaf k4, k1]
    exact ⟨by cases x <;> rfl, by cases x <;> exact .rfl _⟩
  | st t =>
    simp only [dec] at hd
    split at hd
    · rename_i cs
      have hu := unTv_ok hd h
      have e : cs.map (snapT []) = cs := by
        have : ∀ y ∈ cs, snapT [] y = y := fun y hy => (snap_nil (hu.flat _ (List.mem_map.2 ⟨y, hy, rfl⟩)).2.2.2).1
        rw [List.map_congr_left this, List.map_id']
      have hpn := hu.pn
      rw [e] at hpn
      obtain ⟨t1, t2⟩ := tvs_av t x h'
      refine ⟨mk_ag fun y hy => flat_live (t2 y hy).1, ?_⟩
      simp only [enc, av2, t1]
      exact .agg hpn.1 fun i x y hx hy => (hpn.2 i x y hx hy).wk
    · cases hd
  | bx t =>
    simp only [dec] at hd
    split at hd
    · obtain ⟨rfl, rfl⟩ := castE_some hd
      exact ⟨rfl, .rfl _⟩
    · simp [look] at hd
    · cases hd
  | own t => simp [dec] at hd
  | fnc id caps =>
    simp only [dec] at hd
    split at hd
    · simp [lv2, lv1] at hl
    · cases hd
  | tp l =>
    simp only [dec] at hd
    split at hd
    · simp [lv2, lv1] at hl
    · cases hd
theorem decWL {N : Nat → Prop} {h : THp} (h' : THp) : ∀ {l : List Sh} {vs : List TV} {x : Sh.denL l}, (∀ v ∈ vs, lv2 h v = v) → decL [] l vs = some x →
    (∀ y ∈ encL l x, lv2 h' y = y) ∧ vs.length = (encL l x).length ∧ ∀ (i : Nat) (a b : AV), (vs.map (av2 h))[i]? = some a → ((encL l x).map (av2 h'))[i]? = some b → Wk N a b
  | [], [], x, _, _ => ⟨by simp [encL], rfl, by simp [encL]⟩
  | [], _ :: _, x, _, hd => by simp [decL] at hd
  | [sh], [], x, _, hd => by simp [decL] at hd
  | [sh], [v], x, hl, hd => by
    simp only [decL] at hd
    obtain ⟨h1, h2⟩ := decW2 (N := N) (hl v (by simp)) hd h'
    refine ⟨by simpa [encL] using h1, rfl, fun i a b ha hb => ?_⟩
    cases i with
    | zero => simp [encL] at ha hb; subst ha; subst hb; exact h2
    | succ i => simp at ha
  | [sh], _ :: _ :: _, x, _, hd => by simp [decL] at hd
  | sh :: sh' :: r, [], x, _, hd => by simp [decL] at hd
  | sh :: sh' :: r, v :: vs, x, hl, hd => by
    simp only [decL] at hd
    split at hd
    · rename_i a b ha hb
      cases hd
      obtain ⟨h1, h2⟩ := decW2 (N := N) (hl v (by simp)) ha h'
      obtain ⟨h3, h4, h5⟩ := decWL (N := N) h' (fun v hv => hl v (List.mem_cons_of_mem _ hv)) hb
      refine ⟨fun y hy => ?_, by simp only [encL, List.length_cons, h4], fun i a b ha hb => ?_⟩
      · simp only [encL] at hy
        rcases List.mem_cons.1 hy with rfl | hy
        · exact h1
        · exact h3 y hy
      · simp only [encL] at hb
        cases i with
        | zero => simp at ha hb; subst ha; subst hb; exact h2
        | succ i => simp only [List.map_cons, List.getElem?_cons_succ] at ha hb; exact h5 i a b ha hb
    · cases hd
theorem decW {N : Nat → Prop} {h : THp} {sh : Sh} {v : TV} {x : sh.den} (hl : lv h v = v) (hd : dec [] sh v = some x) (h' : THp) : Wk N (av h v) (Av h' (enc sh x)) := by
  by_cases h2 : lv2 h v = v
  · obtain ⟨k1, k2⟩ := decW2 (N := N) h2 hd h'
    have e1 : av h v = av2 h v := by cases v <;> first | rfl | simp [lv2, lv1] at h2
    have e2 : Av h' (enc sh x) = av2 h' (enc sh x) := by
      rw [Av_of (lv_lv2 k1)]
      cases he : enc sh x with
      | tp => rw [he] at k1; simp [lv2, lv1] at k1
      | fn => rw [he] at k1; simp [lv2, lv1] at k1
      | _ => rfl
    rw [e1, e2]; exact k2
  · cases v with
    | tp vs =>
      cases sh with
      | tp l =>
        simp only [dec] at hd
        obtain ⟨k1, k2, k3⟩ := decWL (N := N) h' (lv_tp hl) hd
        have : lv h' (.tp (encL l x)) = .tp (encL l x) := by
          simp only [lv, List.all_eq_true.2 fun y hy => (by rw [← k1 y hy]; exact live_lv2 _ _ : live2 h' y = true)]
          rw [List.map_congr_left k1, List.map_id']
        simp only [enc]
        rw [Av_of this]
        exact .tup (by simp [k2]) k3
      | unit =>
        simp only [dec] at hd
        split at hd
        · rename_i he; cases he; exact .rfl _
        · cases hd
      | _ => simp [dec, dI, dU, dB, dS, dE, snapT, dSl, dNs] at hd
    | fn f vs =>
      cases sh with
      | fnc id caps =>
        simp only [dec] at hd
        split at hd
        · rename_i hb
          rw [beq_iff] at hb; subst hb
          obtain ⟨k1, k2, k3⟩ := decWL (N := N) h' (lv_fn hl) hd
          have : lv h' (.fn id (encL caps x)) = .fn id (encL caps x) := by
            simp only [lv, List.all_eq_true.2 fun y hy => (by rw [← k1 y hy]; exact live_lv2 _ _ : live2 h' y = true)]
            rw [List.map_congr_left k1, List.map_id']
          simp only [enc]
          rw [Av_of this]
          exact .fn (by simp [k2]) k3
        · cases hd
      | _ => simp [dec, dI, dU, dB, dS, dE, snapT, dSl, dNs] at hd
    | ag cs => exact absurd hl h2
    | _ => exact absurd hl h2

/-! ### lists by their keys -/

theorem memN_iff {k : Nat} : ∀ {l : List Nat}, memN k l = true ↔ k ∈ l
  | [] => by simp [memN]
  | a :: r => by
    simp only [memN]
    cases hb : Nat.beq a k with
    | true => rw [beq_iff] at hb; subst hb; simp
    | false =>
      have : a ≠ k := fun e => by subst e; simp [Nat.beq_refl] at hb
      simp only [memN_iff (l := r), List.mem_cons]
      exact ⟨.inr, fun h => h.resolve_left (Ne.symm this)⟩
theorem look_app {β : Type} {k : Nat} {d : β} : ∀ {l m : List (Nat × β)}, k ∉ l.map (·.1) → look k d (l ++ m) = look k d m
  | [], _, _ => rfl
  | (a, x) :: r, m, h => by
    simp only [List.map_cons, List.mem_cons, not_or] at h
    rw [List.cons_append, look_cons, if_neg (Ne.symm h.1)]
    exact look_app h.2
theorem look_in {β : Type} {k : Nat} {d v : β} : ∀ {l m : List (Nat × β)}, dis1 (l.map (·.1)) = true → (k, v) ∈ l → look k d (l ++ m) = v
  | (a, x) :: r, m, hd, h => by
    simp only [List.map_cons, dis1, Bool.and_eq_true, Bool.not_eq_true'] at hd
    rw [List.cons_append, look_cons]
    rcases List.mem_cons.1 h with h | h
    · cases h; rw [if_pos rfl]
    · rw [if_neg]
      · exact look_in hd.2 h
      · intro e; subst e
        have : memN a (r.map (·.1)) = true := memN_iff.2 (List.mem_map.2 ⟨_, h, rfl⟩)
        rw [hd.1] at this; cases this
theorem dis1_app {l m : List Nat} (h : dis1 (l ++ m) = true) : dis1 l = true ∧ ∀ k ∈ l, k ∉ m := by
  induction l with
  | nil => exact ⟨rfl, by simp⟩
  | cons a l ih =>
    simp only [List.cons_append, dis1, Bool.and_eq_true, Bool.not_eq_true'] at h
    obtain ⟨h1, h2⟩ := ih h.2
    have hm : a ∉ l ++ m := fun hm => by rw [memN_iff.2 hm] at h; cases h.1
    refine ⟨?_, fun k hk => ?_⟩
    · simp only [dis1, Bool.and_eq_true, Bool.not_eq_true']
      refine ⟨?_, h1⟩
      cases hb : memN a l with
      | true => exact absurd (List.mem_append.2 (.inl (memN_iff.1 hb))) hm
      | false => rfl
    · rcases List.mem_cons.1 hk with rfl | hk
      · exact fun hh => hm (List.mem_append.2 (.inr hh))
      · exact h2 k hk

/-! ### what is told of a change -/

/-- One part of a change, in the state s, behind s0: what stands in slots and in the heap. -/
def OkRow (h H : THp) (n r : Nat) (v w : TV) : Prop := ∃ (t : Ty) (y : List t.den), w = .lw r n ∧ (r, TB.row n t y) ∈ H ∧ pRow h r t v = some y
def OkF (h H : THp) (n : Nat) (v w : TV) : Prop := (∃ (sh : Sh) (y : sh.den), w = enc sh y ∧ dec [] sh v = some y) ∨ ∃ r, OkRow h H n r v w
def OkB (s0 : TSt) (h H : THp) (n r : Nat) (b : TB) : Prop :=
  (∃ (t : Ty) (y : List t.den) (v : TV), b = .row n t y ∧ pRow h r t v = some y ∧ lv h v = v ∧ freeB r (.row n .int []) s0 = true) ∨ (∃ (v : Nat) (t : Ty) (y : List t.den), b = .row v t y ∧ look r .gone h = .row v t y) ∨
  (∃ cs vs, b = .var cs ∧ look r .gone h = .var vs ∧ cs.length = vs.length ∧ ∀ (i : Nat) (c v : TV), cs[i]? = some c → vs[i]? = some v → OkF h H n (lv1 h v) c)
theorem OkF.mono {h H H' : THp} {n : Nat} {v w : TV} (hs : ∀ p ∈ H, p ∈ H') (ho : OkF h H n v w) : OkF h H' n v w := by
  rcases ho with ho | ⟨r, t, y, h1, h2, h3⟩
  · exact .inl ho
  · exact .inr ⟨r, t, y, h1, hs _ h2, h3⟩
theorem OkB.mono {s0 : TSt} {h H H' : THp} {n r : Nat} {b : TB} (hs : ∀ p ∈ H, p ∈ H') (ho : OkB s0 h H n r b) : OkB s0 h H' n r b := by
  rcases ho with ho | ho | ⟨cs, vs, h1, h2, h3, h4⟩
  · exact .inl ho
  · exact .inr (.inl ho)
  · exact .inr (.inr ⟨cs, vs, h1, h2, h3, fun i c v hc hv => (h4 i c v hc hv).mono hs⟩)
structure OkM (s0 s : TSt) (n : Nat) (F : List (Nat × TV)) (H : THp) : Prop where
  fr : ∀ k w, (k, w) ∈ F → OkF s.hp H n (s.ev (.t k)) w
  hp : ∀ r b, (r, b) ∈ H → OkB s0 s.hp H n r b

theorem iCKs_ok {s0 : TSt} {h : THp} {n : Nat} : ∀ {cs : List CK} {vs : List TV} {x : CK.denL cs}, (ckH cs).all (fun s => freeB s (.row n .int []) s0) = true → (∀ v ∈ vs, lv h v = v) → pCKs h cs vs = some x →
    (iCKs n cs x).1.length = vs.length ∧ (iCKs n cs x).2.map (·.1) = ckH cs ∧ (∀ (i : Nat) (c v : TV), (iCKs n cs x).1[i]? = some c → vs[i]? = some v → OkF h (iCKs n cs x).2 n v c) ∧ ∀ r b, (r, b) ∈ (iCKs n cs x).2 → OkB s0 h [] n r b := by
  have one : ∀ (c : CK) (v : TV) (x : c.den), (ckH [c]).all (fun s => freeB s (.row n .int []) s0) = true → lv h v = v → pCK h c v = some x → OkF h (iCK n c x).2 n v (iCK n c x).1 ∧ (∀ r b, (r, b) ∈ (iCK n c x).2 → OkB s0 h [] n r b) ∧ (iCK n c x).2.map (·.1) = ckH [c] := by
    intro c v x hf hl hp
    cases c with
    | sh sh => exact ⟨.inl ⟨sh, x, rfl, hp⟩, by simp [iCK], rfl⟩
    | row r t =>
      refine ⟨.inr ⟨r, t, x, rfl, by simp [iCK], hp⟩, fun r' b hm => ?_, rfl⟩
      simp only [iCK, List.mem_singleton, Prod.mk.injEq] at hm
      obtain ⟨rfl, rfl⟩ := hm
      exact .inl ⟨t, x, v, rfl, hp, hl, by simpa [ckH] using hf⟩
  intro cs
  induction cs with
  | nil =>
    intro vs x _ _ hp
    cases vs with
    | nil => exact ⟨rfl, rfl, by simp [iCKs], by simp [iCKs]⟩
    | cons => simp [pCKs] at hp
  | cons c cs ih =>
    intro vs x hf hl hp
    have hsplit : (ckH [c]).all (fun s => freeB s (.row n .int []) s0) = true ∧ (ckH cs).all (fun s => freeB s (.row n .int []) s0) = true := by
      cases c <;> simp_all [ckH]
    cases cs with
    | nil =>
      match vs with
      | [] => simp [pCKs] at hp
      | [v] =>
        simp only [pCKs] at hp
        obtain ⟨h1, h2, h3⟩ := one c v x hsplit.1 (hl v (by simp)) hp
        refine ⟨rfl, h3, fun i c' v' hc hv => ?_, h2⟩
        cases i with
        | zero => simp [iCKs] at hc hv; subst hc; subst hv; exact h1
        | succ i => simp at hv
      | _ :: _ :: _ => simp [pCKs] at hp
    | cons c' cs =>
      cases vs with
      | nil => simp [pCKs] at hp
      | cons v vs =>
        simp only [pCKs] at hp
        split at hp
        · rename_i a b ha hb
          cases hp
          obtain ⟨h1, h2, h3⟩ := one c v a hsplit.1 (hl v (by simp)) ha
          obtain ⟨k1, k2, k3, k4⟩ := ih hsplit.2 (fun v hv => hl v (List.mem_cons_of_mem _ hv)) hb
          refine ⟨by simp only [iCKs, List.length_cons, k1], ?_, fun i e w he hw => ?_, fun r b' hm => ?_⟩
          · simp only [iCKs, List.map_append, h3, k2]
            cases c <;> rfl
          · simp only [iCKs] at he ⊢
            cases i with
            | zero => simp at he hw; subst he; subst hw; exact h1.mono fun p hp => List.mem_append.2 (.inl hp)
            | succ i => simp only [List.getElem?_cons_succ] at he hw; exact (k3 i e w he hw).mono fun p hp => List.mem_append.2 (.inr hp)
          · simp only [iCKs] at hm
            rcases List.mem_append.1 hm with hm | hm
            · exact h2 r b' hm
            · exact k4 r b' hm
        · cases hp

theorem eqVer_ok {a b : Option Nat} (h : eqVer a b = true) : ∃ v, a = some v ∧ b = some v := by
  cases a <;> cases b <;> simp [eqVer] at h
  exact ⟨_, rfl, by rw [h]⟩
theorem lv1_lv (h : THp) (y : TV) : lv h (lv1 h y) = lv1 h y := by rw [lv_leaf (lv1_leaf h y), lv1_idem]
theorem iMK_ok {s0 s : TSt} {n : Nat} (m : MK) (x : m.den) (hf : okK s0 n m = true) (hp : pMK s0 s m = some x) : OkM s0 s n (iMK n s0.hp m x).1 (iMK n s0.hp m x).2 ∧ (iMK n s0.hp m x).1.map (·.1) = ksF [m] ∧ (iMK n s0.hp m x).2.map (·.1) = ksH [m] := by
  cases m with
  | slot k sh => exact ⟨⟨fun k' w hm => by simp [iMK] at hm; obtain ⟨rfl, rfl⟩ := hm; exact .inl ⟨sh, x, rfl, hp⟩, fun r b hm => by simp [iMK] at hm⟩, rfl, rfl⟩
  | row k r t =>
    refine ⟨⟨fun k' w hm => ?_, fun r' b hm => ?_⟩, rfl, rfl⟩
    · simp only [iMK, List.mem_singleton, Prod.mk.injEq] at hm
      obtain ⟨rfl, rfl⟩ := hm
      exact .inr ⟨r, t, x, rfl, by simp [iMK], hp⟩
    · simp only [iMK, List.mem_singleton, Prod.mk.injEq] at hm
      obtain ⟨rfl, rfl⟩ := hm
      exact .inl ⟨t, x, _, rfl, hp, ev_lv s _, hf⟩
  | rowH r t =>
    refine ⟨⟨fun k' w hm => by simp [iMK] at hm, fun r' b hm => ?_⟩, rfl, rfl⟩
    simp only [iMK, List.mem_singleton, Prod.mk.injEq] at hm
    obtain ⟨rfl, rfl⟩ := hm
    simp only [pMK] at hp
    split at hp
    · rename_i v t' xs hl he
      obtain ⟨rfl, rfl⟩ := castT_some hp
      obtain ⟨v', h1, h2⟩ := eqVer_ok he
      simp only [verOf, hl, Option.some.injEq] at h2
      subst h2
      exact .inr (.inl ⟨v, t', x, by rw [h1]; rfl, hl⟩)
    · cases hp
  | var r cs =>
    simp only [pMK] at hp
    split at hp
    · rename_i vs hl
      obtain ⟨k1, k2, k3, k4⟩ := iCKs_ok (n := n) hf (fun v hv => by obtain ⟨z, hz, rfl⟩ := List.mem_map.1 hv; exact lv1_lv _ z) hp
      refine ⟨⟨fun k' w hm => by simp [iMK] at hm, fun r' b hm => ?_⟩, rfl, ?_⟩
      · simp only [iMK] at hm ⊢
        rcases List.mem_cons.1 hm with hm | hm
        · simp only [Prod.mk.injEq] at hm
          obtain ⟨rfl, rfl⟩ := hm
          refine .inr (.inr ⟨_, vs, rfl, hl, by simpa using k1, fun i c v hc hv => ?_⟩)
          exact (k3 i c (lv1 s.hp v) hc (by simp [hv])).mono fun p hp => List.mem_cons_of_mem _ hp
        · exact (k4 r' b hm).mono (by simp)
      · simp only [iMK, List.map_cons, k2, ksH, List.append_nil]
    · cases hp
theorem iMKs_ok {s0 s : TSt} {n : Nat} : ∀ (ks : List MK) (x : MK.denL ks), ks.all (okK s0 n) = true → pMKs s0 s ks = some x → OkM s0 s n (iMKs n s0.hp ks x).1 (iMKs n s0.hp ks x).2 ∧ (iMKs n s0.hp ks x).1.map (·.1) = ksF ks ∧ (iMKs n s0.hp ks x).2.map (·.1) = ksH ks := by
  intro ks
  induction ks with
  | nil => intro x _ _; exact ⟨⟨by simp [iMKs], by simp [iMKs]⟩, rfl, rfl⟩
  | cons m ks ih =>
    intro x hf hp
    simp only [List.all_cons, Bool.and_eq_true] at hf
    cases ks with
    | nil => exact iMK_ok m x hf.1 hp
    | cons m' ks =>
      simp only [pMKs] at hp
      split at hp
      · rename_i a b ha hb
        cases hp
        obtain ⟨h1, h2, h3⟩ := iMK_ok (n := n) m a hf.1 ha
        obtain ⟨k1, k2, k3⟩ := ih b hf.2 hb
        refine ⟨⟨fun k w hm => ?_, fun r b' hm => ?_⟩, ?_, ?_⟩
        · simp only [iMKs] at hm ⊢
          rcases List.mem_append.1 hm with hm | hm
          · exact (h1.fr k w hm).mono fun p hp => List.mem_append.2 (.inl hp)
          · exact (k1.fr k w hm).mono fun p hp => List.mem_append.2 (.inr hp)
        · simp only [iMKs] at hm ⊢
          rcases List.mem_append.1 hm with hm | hm
          · exact (h1.hp r b' hm).mono fun p hp => List.mem_append.2 (.inl hp)
          · exact (k1.hp r b' hm).mono fun p hp => List.mem_append.2 (.inr hp)
        · simp only [iMKs, List.map_append, h2, k2]
          cases m <;> rfl
        · simp only [iMKs, List.map_append, h3, k3]
          cases m <;> simp [ksH]
      · cases hp
end
end Ab
