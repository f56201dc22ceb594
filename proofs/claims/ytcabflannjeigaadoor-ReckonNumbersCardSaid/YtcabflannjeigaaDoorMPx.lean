/-
  The reader of package formula, walked at this seat's program: a number.
-/
import Derived.Test.YtcabflannjeigaaDoorMPw
import Derived.Test.YtcabflannjeigaaDoorMSj
import Derived.LoopTactic
import Derived.StillTailTactics
set_option linter.unusedSimpArgs false
namespace Go.Proofs.TrydRead
open Go Go.RowKit Ab
set_option linter.unusedVariables false

def atOf (w : World) (rb : Nat) : Nat := match w.cell? ⟨rb, 1, none⟩ with
  | some (.int _ n) => n.toNat
  | _ => 0
theorem atOf_rd {rb n1 : Nat} {s : ByteArray} {W : World} {a : Nat} {v : Value} {l : List Ab.Node} (h : RD rb n1 s W a v l) : atOf W rb = a := by
  unfold atOf
  rw [h.c1]
  rfl
theorem RD.keepO {rb n1 : Nat} {s : ByteArray} {W X : World} {a : Nat} {v : Value} {l : List Ab.Node} (h : RD rb n1 s W a v l) (k : KeepO (fun _ => False) W X) : RD rb n1 s X a v l :=
  ⟨(k.block rb h.rbs (fun e => e)).trans h.cell, h.row.kept (row := none) ⟨k.os, k.tape, k.output, k.size, fun i hi _ => k.block i hi (fun e => e)⟩ (Classical.em _), h.lt, Nat.le_trans h.size k.size⟩
theorem stp_keepO {B : Option Nat} {v0 v : Value} {W X Y : World} (h : Stp B v0 W X v) (k : KeepO (fun _ => False) X Y) : Stp B v0 W Y v :=
  ⟨k.os.trans h.os, k.tape.trans h.tape, k.output.trans h.output, Nat.le_trans h.size k.size, fun i hi h1 h2 => (k.block i (Nat.lt_of_lt_of_le hi h.size) (fun e => e)).trans (h.block i hi h1 h2), h.own⟩
theorem keep_cell {X Y : World} (k : KeepO (fun _ => False) X Y) {b j : Nat} {u : Value} (h : X.cell? ⟨b, j, none⟩ = some u) : Y.cell? ⟨b, j, none⟩ = some u :=
  (World.cell?_of_block (a := ⟨b, j, none⟩) (k.block b (World.block_lt_of_cell? X _ h) (fun e => e))).trans h
theorem atoi_keep (t : ByteArray) (ht : t.size ≤ 1000) (v : Int) (h : Lib.atoiAll t.data.toList = .ok v) (w : World) :
    Calls Tryd.prog 99 #[.string t] w fun e w' => e = .returned (.tuple #[.int .i64 v, .nilIface]) ∧ KeepO (fun _ => False) w w' :=
  (Tryd.strconv_Atoi_ok t (by omega) v h w).mono fun e w' ⟨he, hw⟩ => ⟨he, by
    rcases hw with rfl | ⟨t, rfl⟩
    · exact .refl _ _
    · have hb := Lib.bytesWorld_below w 5 t
      exact ⟨hb.os, hb.tape, hb.output, hb.size, fun k hk _ => hb.block k hk⟩⟩

set_option maxRecDepth 100000 in
set_option maxHeartbeats 8000000 in
theorem number_calls {rb n1 : Nat} {s : ByteArray} {W : World} {a : Nat} {v : Value} {l : List Ab.Node} (h : RD rb n1 s W a v l) (hs : s.size ≤ 1000) (hd : dgB (pk s a) = true) (hl : l.length < 1000) :
    Calls Tryd.prog 85 #[.pointer (some ⟨rb, 0, none⟩)] W fun e W' => ∃ v', e = .returned (.int .i64 l.length) ∧ RD rb n1 s W' (numE s a 8 a) v' (l ++ [⟨1, (atoiV (s.extract a (numE s a 8 a))).1, ⟨#[]⟩, 0, 0⟩]) ∧ Stp (some rb) v W W' v' := by
  have c1 := h.c1
  have ha := dg_lt hd
  go_enter Tryd.func85, Tryd.ntmps85
  go_wp2_with fail
  go_loopw [10] (fun _ wr => ∃ (i f : Nat), a ≤ i ∧ i + f = a + 8 ∧ i ≤ s.size ∧ RD rb n1 s wr i v l ∧ numE s a f i = numE s a 8 a ∧ Stp (some rb) v W wr v) (fun _ wr => a + 8 - atOf wr rb)
  case atStart => exact ⟨a, 8, Nat.le_refl _, rfl, by omega, h, rfl, stp_refl _ _ _⟩
  case round =>
    obtain ⟨i, f, hai, hif, his, hR, hE, hS⟩ := hrel
    have q0 := hR.c0
    have q1 := hR.c1
    have qf := hR.fr 1
    have b0 : (0 : Int) ≤ (a : Int) := Int.natCast_nonneg _
    have b1 : (a : Int) ≤ (i : Int) := by omega
    have b2 : (i : Int) ≤ (s.size : Int) := by omega
    have b4 : (a : Int) < (s.size : Int) := by omega
    have b3 : (s.extract a i).size ≤ 1000 := by rw [ByteArray.size_extract]; omega
    by_cases hdi : dgB (pk s i) = true
    · by_cases h7 : i - a < 7
      · have h7' : (i : Int) - (a : Int) < 7 := by omega
        obtain ⟨f, rfl⟩ : ∃ f', f = f' + 1 := ⟨f - 1, by omega⟩
        by_cases e : i = a
        · subst e
          have hE2 : numE s i (f + 1) i = numE s i f (i + 1) := by simp only [numE]; rw [if_pos ⟨hdi, h7, .inl trivial⟩]
          go_wp2_with (first
            | (go_at_call 62; go_must (refine (peek_calls hR hs his).mono ?_); rintro e X ⟨rfl, q, rfl⟩)
            | (go_at_call 84; go_must (refine (digit_calls _ _).mono ?_); rintro e X ⟨rfl, rfl⟩))
          go_roundw
          case rel =>
            refine ⟨i + 1, f, by omega, by omega, dg_lt hdi, ?_, hE2.symm.trans hE, stp_set (stp_drewN hS _) (.inr rfl) _⟩
            rw [show ((i : Int) + 1) = ((i + 1 : Nat) : Int) by omega]
            exact (hR.drewN _).go _
          case measure =>
            have m1 := atOf_rd hR
            have m2 := atOf_rd ((hR.drewN q).go (i + 1))
            rw [show ((i + 1 : Nat) : Int) = (i : Int) + 1 by omega] at m2
            rw [m1, m2]
            omega
        · have e' : ¬ (i : Int) = (a : Int) := by omega
          obtain ⟨p1, p2⟩ := pk_at ha
          by_cases e2 : pk s a = 48
          · have e2' : ((s[a]'ha).toNat : Int) = 48 := by have p3 : pk s a = (s[a]'ha).toNat := p2; omega
            have hE2 : numE s a (f + 1) i = i := by simp only [numE]; rw [if_neg (fun h => h.2.2.elim e (fun h => h e2))]
            have hnum : ∃ v, Lib.atoiAll (s.extract a i).data.toList = .ok v ∧ (atoiV (s.extract a (numE s a 8 a))).1 = v := by
              obtain ⟨v, hv⟩ := num_atoi hd
              refine ⟨v, ?_, by unfold atoiV; rw [hv]⟩
              rw [← hE, hE2] at hv
              exact hv
            obtain ⟨z, hz1, hz2⟩ := hnum
            go_wp2_with (first
              | (go_at_call 62; go_must (refine (peek_calls hR hs his).mono ?_); rintro e X ⟨rfl, q, rfl⟩)
              | (go_at_call 84; go_must (refine (digit_calls _ _).mono ?_); rintro e X ⟨rfl, rfl⟩))
            go_region_held3 (fun w' => w'.cell? ⟨rb, 0, none⟩ = some (.string s) ∧ w'.cell? ⟨rb, 1, none⟩ = some (.int .i64 i)) (first | go_keep | (go_split_ands; refine ⟨?_, ?_⟩ <;> exact keep_cell kX (by assumption))) ((go_at_call 99; go_loud (refine (atoi_keep _ b3 z hz1 _).mono ?_); rintro e X ⟨rfl, kX⟩))
            go_wp2_with (go_at_call 64; go_must (refine (add_calls (RD.keepO (hR.drewN _) kX) ⟨1, z, ⟨#[]⟩, 0, 0⟩ hl).mono ?_); rintro e Y ⟨v', rfl, hY, sY⟩)
            go_ret
            exact ⟨v', rfl, by rw [hz2, ← hE, hE2]; exact hY, (stp_keepO (stp_drewN hS _) kX).trans sY⟩
          · have e2' : ¬ ((s[a]'ha).toNat : Int) = 48 := by have p3 : pk s a = (s[a]'ha).toNat := p2; omega
            have g2 : (((s[a]'ha).toNat : Int) != 48) = true := by simpa using e2'
            have hE2 : numE s a (f + 1) i = numE s a f (i + 1) := by simp only [numE]; rw [if_pos ⟨hdi, h7, .inr e2⟩]
            go_wp2_with (first
              | (go_at_call 62; go_must (refine (peek_calls hR hs his).mono ?_); rintro e X ⟨rfl, q, rfl⟩)
              | (go_at_call 84; go_must (refine (digit_calls _ _).mono ?_); rintro e X ⟨rfl, rfl⟩))
            go_roundw
            case rel =>
              refine ⟨i + 1, f, by omega, by omega, dg_lt hdi, ?_, hE2.symm.trans hE, stp_set (stp_drewN hS _) (.inr rfl) _⟩
              rw [show ((i : Int) + 1) = ((i + 1 : Nat) : Int) by omega]
              exact (hR.drewN _).go _
            case measure =>
              have m1 := atOf_rd hR
              have m2 := atOf_rd ((hR.drewN q).go (i + 1))
              rw [show ((i + 1 : Nat) : Int) = (i : Int) + 1 by omega] at m2
              rw [m1, m2]
              omega
      · have h7' : ¬ (i : Int) - (a : Int) < 7 := by omega
        have hE2 : numE s a f i = i := by
          cases f with
          | zero => rfl
          | succ f => simp only [numE]; rw [if_neg (fun h => h7 h.2.1)]
        have hnum : ∃ v, Lib.atoiAll (s.extract a i).data.toList = .ok v ∧ (atoiV (s.extract a (numE s a 8 a))).1 = v := by
          obtain ⟨v, hv⟩ := num_atoi hd
          refine ⟨v, ?_, by unfold atoiV; rw [hv]⟩
          rw [← hE, hE2] at hv
          exact hv
        obtain ⟨z, hz1, hz2⟩ := hnum
        go_wp2_with (first
          | (go_at_call 62; go_must (refine (peek_calls hR hs his).mono ?_); rintro e X ⟨rfl, q, rfl⟩)
          | (go_at_call 84; go_must (refine (digit_calls _ _).mono ?_); rintro e X ⟨rfl, rfl⟩))
        go_region_held3 (fun w' => w'.cell? ⟨rb, 0, none⟩ = some (.string s) ∧ w'.cell? ⟨rb, 1, none⟩ = some (.int .i64 i)) (first | go_keep | (go_split_ands; refine ⟨?_, ?_⟩ <;> exact keep_cell kX (by assumption))) ((go_at_call 99; go_loud (refine (atoi_keep _ b3 z hz1 _).mono ?_); rintro e X ⟨rfl, kX⟩))
        go_wp2_with (go_at_call 64; go_must (refine (add_calls (RD.keepO (hR.drewN _) kX) ⟨1, z, ⟨#[]⟩, 0, 0⟩ hl).mono ?_); rintro e Y ⟨v', rfl, hY, sY⟩)
        go_ret
        exact ⟨v', rfl, by rw [hz2, ← hE, hE2]; exact hY, (stp_keepO (stp_drewN hS _) kX).trans sY⟩
    · rw [Bool.not_eq_true] at hdi
      have hE2 : numE s a f i = i := by
        cases f with
        | zero => rfl
        | succ f => simp only [numE]; rw [if_neg (by rw [hdi]; simp)]
      have hnum : ∃ v, Lib.atoiAll (s.extract a i).data.toList = .ok v ∧ (atoiV (s.extract a (numE s a 8 a))).1 = v := by
        obtain ⟨v, hv⟩ := num_atoi hd
        refine ⟨v, ?_, by unfold atoiV; rw [hv]⟩
        rw [← hE, hE2] at hv
        exact hv
      obtain ⟨z, hz1, hz2⟩ := hnum
      go_wp2_with (first
        | (go_at_call 62; go_must (refine (peek_calls hR hs his).mono ?_); rintro e X ⟨rfl, q, rfl⟩)
        | (go_at_call 84; go_must (refine (digit_calls _ _).mono ?_); rintro e X ⟨rfl, rfl⟩))
      go_region_held3 (fun w' => w'.cell? ⟨rb, 0, none⟩ = some (.string s) ∧ w'.cell? ⟨rb, 1, none⟩ = some (.int .i64 i)) (first | go_keep | (go_split_ands; refine ⟨?_, ?_⟩ <;> exact keep_cell kX (by assumption))) ((go_at_call 99; go_loud (refine (atoi_keep _ b3 z hz1 _).mono ?_); rintro e X ⟨rfl, kX⟩))
      go_wp2_with (go_at_call 64; go_must (refine (add_calls (RD.keepO (hR.drewN _) kX) ⟨1, z, ⟨#[]⟩, 0, 0⟩ hl).mono ?_); rintro e Y ⟨v', rfl, hY, sY⟩)
      go_ret
      exact ⟨v', rfl, by rw [hz2, ← hE, hE2]; exact hY, (stp_keepO (stp_drewN hS _) kX).trans sY⟩
end Go.Proofs.TrydRead
