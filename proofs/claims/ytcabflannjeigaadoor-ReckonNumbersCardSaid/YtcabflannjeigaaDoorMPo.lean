/-
  The reader of package formula, walked at this seat's program: one.
-/
import Derived.Test.YtcabflannjeigaaDoorMPx
import Derived.WalkSmall
set_option linter.unusedSimpArgs false
namespace Go.Proofs.TrydRead
open Go Go.RowKit Ab
set_option linter.unusedVariables false

/-- What a call that reads comes to. -/
def PostR (rb n1 : Nat) (s : ByteArray) (W : World) (v : Value) (r : PR) (e : Ending) (W' : World) : Prop :=
  match r with
  | .ok i a l => ∃ v', e = .returned (.int .i64 i) ∧ RD rb n1 s W' a v' l ∧ a ≤ s.size ∧ Stp (some rb) v W W' v'
  | .bad a => ∃ v', e = .panicked [{ v := .iface 71 (.agg #[.int .i64 a]), recovered := false }] ∧ Stp (some rb) v W W' v'
def ReadC (rb n1 : Nat) (s : ByteArray) (id : FuncId) (f : Nat) (m : Md) : Prop := ∀ (W : World) (a : Nat) (v : Value) (l : List Ab.Node) (r : PR), rd s f m a l = some r → RD rb n1 s W a v l → a ≤ s.size →
  Calls Tryd.prog id #[.pointer (some ⟨rb, 0, none⟩)] W (PostR rb n1 s W v r)

set_option maxRecDepth 100000 in
set_option maxHeartbeats 8000000 in
theorem one_name {rb n1 : Nat} {s : ByteArray} {W : World} {a : Nat} {v : Value} {l : List Ab.Node} (h : RD rb n1 s W a v l) (hs : s.size ≤ 1000) (hd : dgB (pk s a) = false) (hlt : ltB (pk s a) = true) (hl : l.length < 1000) :
    Calls Tryd.prog 65 #[.pointer (some ⟨rb, 0, none⟩)] W fun e W' => ∃ v', e = .returned (.int .i64 l.length) ∧ RD rb n1 s W' (namE s (s.size + 1) a) v' (l ++ [⟨2, 0, s.extract a (namE s (s.size + 1) a), 0, 0⟩]) ∧ Stp (some rb) v W W' v' := by
  have c1 := h.c1
  have ha := lt_lt hlt
  have ha' : a ≤ s.size := by omega
  go_enter Tryd.func65, Tryd.ntmps65
  go_wp2_with (first
    | (go_at_call 62; go_must (refine (peek_calls h hs ha').mono ?_); rintro e X ⟨rfl, q, rfl⟩)
    | (go_at_call 84; go_must (refine (digit_calls _ _).mono ?_); rintro e X ⟨rfl, rfl⟩)
    | (go_at_call 86; go_must (refine (letter_calls _ _).mono ?_); rintro e X ⟨rfl, rfl⟩))
  go_loopw [20] (fun _ wr => ∃ (i f : Nat), a ≤ i ∧ i + f = a + (s.size + 1) ∧ i ≤ s.size ∧ RD rb n1 s wr i v l ∧ namE s f i = namE s (s.size + 1) a ∧ Stp (some rb) v W wr v) (fun _ wr => a + (s.size + 1) - atOf wr rb)
  case atStart => exact ⟨a, s.size + 1, Nat.le_refl _, rfl, ha', h.drewN _, rfl, stp_drewN (stp_refl _ _ _) _⟩
  case round =>
    obtain ⟨i, f, hai, hif, his, hR, hE, hS⟩ := hrel
    have q0 := hR.c0
    have q1 := hR.c1
    have qf := hR.fr 1
    obtain ⟨f, rfl⟩ : ∃ f', f = f' + 1 := ⟨f - 1, by omega⟩
    by_cases hdi : ltB (pk s i) = true
    · have hE2 : namE s (f + 1) i = namE s f (i + 1) := by simp only [namE]; rw [if_pos hdi]
      go_wp2_with (first
        | (go_at_call 62; go_must (refine (peek_calls hR hs his).mono ?_); rintro e X ⟨rfl, q, rfl⟩)
        | (go_at_call 86; go_must (refine (letter_calls _ _).mono ?_); rintro e X ⟨rfl, rfl⟩))
      go_roundw
      case rel =>
        refine ⟨i + 1, f, by omega, by omega, lt_lt hdi, ?_, hE2.symm.trans hE, stp_set (stp_drewN hS _) (.inr rfl) _⟩
        rw [show ((i : Int) + 1) = ((i + 1 : Nat) : Int) by omega]
        exact (hR.drewN _).go _
      case measure =>
        have m1 := atOf_rd hR
        have m2 := atOf_rd ((hR.drewN q).go (i + 1))
        rw [show ((i + 1 : Nat) : Int) = (i : Int) + 1 by omega] at m2
        rw [m1, m2]
        omega
    · rw [Bool.not_eq_true] at hdi
      have hE2 : namE s (f + 1) i = i := by simp only [namE]; rw [if_neg (by rw [hdi]; simp)]
      have b0 : (0 : Int) ≤ (a : Int) := Int.natCast_nonneg _
      have b1 : (a : Int) ≤ (i : Int) := by omega
      have b2 : (i : Int) ≤ (s.size : Int) := by omega
      go_wp2_with (first
        | (go_at_call 62; go_must (refine (peek_calls hR hs his).mono ?_); rintro e X ⟨rfl, q, rfl⟩)
        | (go_at_call 86; go_must (refine (letter_calls _ _).mono ?_); rintro e X ⟨rfl, rfl⟩))
      go_region_held3 (fun w' => w'.cell? ⟨rb, 0, none⟩ = some (.string s) ∧ w'.cell? ⟨rb, 1, none⟩ = some (.int .i64 i)) (first | go_keep | exact ⟨hY.c0, hY.c1⟩) ((go_at_call 64; go_loud (refine (add_calls (hR.drewN _) ⟨2, 0, s.extract a i, 0, 0⟩ hl).mono ?_); rintro e Y ⟨v', rfl, hY, sY⟩))
      go_wp2
      go_ret
      exact ⟨v', rfl, by rw [← hE, hE2]; exact hY, (stp_drewN hS _).trans sY⟩

set_option maxRecDepth 100000 in
set_option maxHeartbeats 8000000 in
theorem one_bad {rb n1 : Nat} {s : ByteArray} {W : World} {a : Nat} {v : Value} {l : List Ab.Node} (h : RD rb n1 s W a v l) (hs : s.size ≤ 1000) (ha : a ≤ s.size) (hd : dgB (pk s a) = false) (hlt : ltB (pk s a) = false) (h40 : pk s a ≠ 40) :
    Calls Tryd.prog 65 #[.pointer (some ⟨rb, 0, none⟩)] W (PostR rb n1 s W v (.bad a)) := by
  have c1 := h.c1
  have g1 : ¬ ((pk s a : Nat) : Int) = 40 := by omega
  have g2 : (((pk s a : Nat) : Int) != 40) = true := by simpa using g1
  go_enter Tryd.func65, Tryd.ntmps65
  go_wp2_with (first
    | (go_at_call 62; go_must (refine (peek_calls h hs ha).mono ?_); rintro e X ⟨rfl, q, rfl⟩)
    | (go_at_call 84; go_must (refine (digit_calls _ _).mono ?_); rintro e X ⟨rfl, rfl⟩)
    | (go_at_call 86; go_must (refine (letter_calls _ _).mono ?_); rintro e X ⟨rfl, rfl⟩))
  exact ⟨rfl, v, rfl, stp_drewN (stp_refl _ _ _) _⟩

set_option maxRecDepth 100000 in
set_option maxHeartbeats 8000000 in
theorem one_calls {rb n1 : Nat} {s : ByteArray} (hs : s.size ≤ 1000) {f : Nat} (hsum : ReadC rb n1 s 39 f (.row true)) : ReadC rb n1 s 65 (f + 1) .one := by
  intro W a v l r hr h ha
  simp only [rd] at hr
  split at hr
  · cases hr
  rename_i hl
  have hl : l.length < 1000 := by omega
  by_cases hd : dgB (pk s a) = true
  · rw [if_pos hd] at hr
    cases hr
    have c1 := h.c1
    go_enter Tryd.func65, Tryd.ntmps65
    go_wp2_with (first
      | (go_at_call 62; go_must (refine (peek_calls h hs ha).mono ?_); rintro e X ⟨rfl, q, rfl⟩)
      | (go_at_call 84; go_must (refine (digit_calls _ _).mono ?_); rintro e X ⟨rfl, rfl⟩)
      | (go_at_call 85; go_must (refine (number_calls (h.drewN _) hs hd hl).mono ?_); rintro e Y ⟨v', rfl, hY, sY⟩))
    go_ret
    exact ⟨v', rfl, hY, (numE_ok s a 8 a).2.2.2 ha, (stp_drewN (stp_refl _ _ _) _).trans sY⟩
  rw [if_neg hd] at hr
  rw [Bool.not_eq_true] at hd
  by_cases hlt : ltB (pk s a) = true
  · rw [if_pos hlt] at hr
    cases hr
    refine (one_name h hs hd hlt hl).mono ?_
    rintro e Y ⟨v', rfl, hY, sY⟩
    exact ⟨v', rfl, hY, (namE_ok s (s.size + 1) a).2.2 ha, sY⟩
  rw [if_neg hlt] at hr
  rw [Bool.not_eq_true] at hlt
  by_cases h40 : pk s a ≠ 40
  · rw [if_pos h40] at hr
    cases hr
    exact one_bad h hs ha hd hlt h40
  rw [if_neg h40] at hr
  have h40 : pk s a = 40 := Decidable.byContradiction h40
  have c1 := h.c1
  have cf := h.fr 1
  have ha2 : a + 1 ≤ s.size := pk_lt (by omega)
  have hE : (match rd s f (.row true) (a + 1) l with | some (.ok i a l') => if pk s a ≠ 41 then some (PR.bad a) else some (.ok i (a + 1) l') | r => r) = some r := hr
  cases hsub : rd s f (.row true) (a + 1) l with
  | none => rw [hsub] at hE; cases hE
  | some r0 =>
    rw [hsub] at hE
    cases r0 with
    | bad b =>
      cases hE
      go_enter Tryd.func65, Tryd.ntmps65
      go_wp2_with (first
        | (go_at_call 62; go_must (refine (peek_calls h hs ha).mono ?_); rintro e X ⟨rfl, q, rfl⟩)
        | (go_at_call 84; go_must (refine (digit_calls _ _).mono ?_); rintro e X ⟨rfl, rfl⟩)
        | (go_at_call 86; go_must (refine (letter_calls _ _).mono ?_); rintro e X ⟨rfl, rfl⟩)
        | (go_at_call 39; go_must (refine (hsum _ _ _ _ _ hsub ((h.drewN _).go (a + 1)) ha2).mono ?_); rintro e Y ⟨v', rfl, sY⟩))
      exact ⟨rfl, v', rfl, (stp_set (p := ⟨rb, 1, none⟩) (stp_drewN (stp_refl _ _ _) _) (.inr rfl) _).trans sY⟩
    | ok i b l' =>
      simp only at hE
      by_cases h41 : pk s b ≠ 41
      · rw [if_pos h41] at hE
        cases hE
        have g1 : ¬ ((pk s b : Nat) : Int) = 41 := by omega
        have g2 : (((pk s b : Nat) : Int) != 41) = true := by simpa using g1
        go_enter Tryd.func65, Tryd.ntmps65
        go_wp2_with (first
          | (go_at_call 62; refine (peek_calls hY hs hb).mono ?_; rintro e Z ⟨rfl, q2, rfl⟩)
          | (go_at_call 62; go_must (refine (peek_calls h hs ha).mono ?_); rintro e X ⟨rfl, q, rfl⟩)
          | (go_at_call 84; go_must (refine (digit_calls _ _).mono ?_); rintro e X ⟨rfl, rfl⟩)
          | (go_at_call 86; go_must (refine (letter_calls _ _).mono ?_); rintro e X ⟨rfl, rfl⟩)
          | (go_at_call 39; go_must (refine (hsum _ _ _ _ _ hsub ((h.drewN _).go (a + 1)) ha2).mono ?_); rintro e Y ⟨v', rfl, hY, hb, sY⟩; have y1 := hY.c1; have yf := hY.fr 1))
        exact ⟨rfl, v', rfl, stp_drewN ((stp_set (p := ⟨rb, 1, none⟩) (stp_drewN (stp_refl _ _ _) _) (.inr rfl) _).trans sY) _⟩
      · rw [if_neg h41] at hE
        cases hE
        have g1 : pk s b = 41 := Decidable.byContradiction h41
        go_enter Tryd.func65, Tryd.ntmps65
        go_wp2_with (first
          | (go_at_call 62; refine (peek_calls hY hs hb).mono ?_; rintro e Z ⟨rfl, q2, rfl⟩)
          | (go_at_call 62; go_must (refine (peek_calls h hs ha).mono ?_); rintro e X ⟨rfl, q, rfl⟩)
          | (go_at_call 84; go_must (refine (digit_calls _ _).mono ?_); rintro e X ⟨rfl, rfl⟩)
          | (go_at_call 86; go_must (refine (letter_calls _ _).mono ?_); rintro e X ⟨rfl, rfl⟩)
          | (go_at_call 39; go_must (refine (hsum _ _ _ _ _ hsub ((h.drewN _).go (a + 1)) ha2).mono ?_); rintro e Y ⟨v', rfl, hY, hb, sY⟩; have y1 := hY.c1; have yf := hY.fr 1))
        go_ret
        refine ⟨v', rfl, ?_, pk_lt (by omega), stp_set (stp_drewN ((stp_set (p := ⟨rb, 1, none⟩) (stp_drewN (stp_refl _ _ _) _) (.inr rfl) _).trans sY) _) (.inr rfl) _⟩
        exact (hY.drewN _).go (b + 1)
end Go.Proofs.TrydRead
