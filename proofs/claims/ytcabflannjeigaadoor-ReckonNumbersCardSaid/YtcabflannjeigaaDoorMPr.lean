/-
  The reader of package formula, walked at this seat's program: rows of ones, of products.
-/
import Derived.Test.YtcabflannjeigaaDoorMPo
set_option linter.unusedSimpArgs false
namespace Go.Proofs.TrydRead
open Go Go.RowKit Ab
set_option linter.unusedVariables false

theorem idx_at (t : ByteArray) (c : Nat) (n : Int) (h : Lib.indexByte t.data.toList ((c : Nat) : Int).toNat.toUInt8 = n) (W : World) : Calls Tryd.prog 63 #[.string t, .int .u8 c] W fun e W' => e = .returned (.int .i64 n) ∧ W' = W := by
  have := Tryd.strings_IndexByte t (c : Int) W
  rw [h] at this
  exact this
theorem idx_a42 (W : World) : Calls Tryd.prog 63 #[.string ⟨#[42, 47]⟩, .int .u8 42] W fun e W' => e = .returned (.int .i64 0) ∧ W' = W := idx_at ⟨#[42, 47]⟩ 42 0 (by decide +kernel) W
theorem idx_b42 (W : World) : Calls Tryd.prog 63 #[.string ⟨#[43, 45, 42, 47]⟩, .int .u8 42] W fun e W' => e = .returned (.int .i64 2) ∧ W' = W := idx_at ⟨#[43, 45, 42, 47]⟩ 42 2 (by decide +kernel) W
theorem idx_a47 (W : World) : Calls Tryd.prog 63 #[.string ⟨#[42, 47]⟩, .int .u8 47] W fun e W' => e = .returned (.int .i64 1) ∧ W' = W := idx_at ⟨#[42, 47]⟩ 47 1 (by decide +kernel) W
theorem idx_b47 (W : World) : Calls Tryd.prog 63 #[.string ⟨#[43, 45, 42, 47]⟩, .int .u8 47] W fun e W' => e = .returned (.int .i64 3) ∧ W' = W := idx_at ⟨#[43, 45, 42, 47]⟩ 47 3 (by decide +kernel) W
theorem idx_a43 (W : World) : Calls Tryd.prog 63 #[.string ⟨#[43, 45]⟩, .int .u8 43] W fun e W' => e = .returned (.int .i64 0) ∧ W' = W := idx_at ⟨#[43, 45]⟩ 43 0 (by decide +kernel) W
theorem idx_b43 (W : World) : Calls Tryd.prog 63 #[.string ⟨#[43, 45, 42, 47]⟩, .int .u8 43] W fun e W' => e = .returned (.int .i64 0) ∧ W' = W := idx_at ⟨#[43, 45, 42, 47]⟩ 43 0 (by decide +kernel) W
theorem idx_a45 (W : World) : Calls Tryd.prog 63 #[.string ⟨#[43, 45]⟩, .int .u8 45] W fun e W' => e = .returned (.int .i64 1) ∧ W' = W := idx_at ⟨#[43, 45]⟩ 45 1 (by decide +kernel) W
theorem idx_b45 (W : World) : Calls Tryd.prog 63 #[.string ⟨#[43, 45, 42, 47]⟩, .int .u8 45] W fun e W' => e = .returned (.int .i64 1) ∧ W' = W := idx_at ⟨#[43, 45, 42, 47]⟩ 45 1 (by decide +kernel) W
theorem idx_false (c : Nat) (hc : c < 256) (h : inRow false c = false) (W : World) : Calls Tryd.prog 63 #[.string ⟨#[42, 47]⟩, .int .u8 c] W fun e W' => e = .returned (.int .i64 (-1)) ∧ W' = W := by
  have all : ∀ c : Fin 256, inRow false c.val = false → Lib.indexByte (⟨#[42, 47]⟩ : ByteArray).data.toList ((c.val : Nat) : Int).toNat.toUInt8 = -1 := by decide +kernel
  exact idx_at _ c _ (all ⟨c, hc⟩ h) W
theorem idx_true (c : Nat) (hc : c < 256) (h : inRow true c = false) (W : World) : Calls Tryd.prog 63 #[.string ⟨#[43, 45]⟩, .int .u8 c] W fun e W' => e = .returned (.int .i64 (-1)) ∧ W' = W := by
  have all : ∀ c : Fin 256, inRow true c.val = false → Lib.indexByte (⟨#[43, 45]⟩ : ByteArray).data.toList ((c.val : Nat) : Int).toNat.toUInt8 = -1 := by decide +kernel
  exact idx_at _ c _ (all ⟨c, hc⟩ h) W

set_option maxRecDepth 100000 in
set_option maxHeartbeats 16000000 in
theorem row_false {rb n1 : Nat} {s : ByteArray} (hs : s.size ≤ 1000) {f : Nat} (hsub : ∀ k, k ≤ f → ReadC rb n1 s 65 k (subM false)) (W : World) (a : Nat) (v : Value) (l : List Ab.Node) (r : PR) (hr : rd s (f + 1) (.row false) a l = some r) (h : RD rb n1 s W a v l) (ha : a ≤ s.size) :
    Calls Tryd.prog 51 #[.pointer (some ⟨rb, 0, none⟩), .string ⟨#[42, 47]⟩, .func (.func 65) #[.pointer (some ⟨rb, 0, none⟩)] #[]] W (PostR rb n1 s W v r) := by
  simp only [rd] at hr
  have hE : (match rd s f (subM false) a l with | some (.ok i a l') => rd s f (.more false i) a l' | r => r) = some r := hr
  cases hs0 : rd s f (subM false) a l with
  | none => rw [hs0] at hE; cases hE
  | some r0 =>
  rw [hs0] at hE
  cases r0 with
  | bad b =>
    cases hE
    go_enter Tryd.func51, Tryd.ntmps51
    go_wp2_with (go_at_call 65; go_must (refine (hsub f (Nat.le_refl _) _ _ _ _ _ hs0 h ha).mono ?_); rintro e Y ⟨v', rfl, sY⟩)
    exact ⟨rfl, v', rfl, sY⟩
  | ok i0 b0 l0 =>
  go_enter Tryd.func51, Tryd.ntmps51
  go_wp2_with (go_at_call 65; go_must (refine (hsub f (Nat.le_refl _) _ _ _ _ _ hs0 h ha).mono ?_); rintro e Y ⟨v', rfl, hY0, hb0, sY0⟩)
  go_loopw [7] (fun t wr => ∃ (k i at_ : Nat) (l1 : List Ab.Node) (v1 : Value), t = .int .i64 i ∧ k ≤ f ∧ rd s k (.more false i) at_ l1 = some r ∧ at_ ≤ s.size ∧ RD rb n1 s wr at_ v1 l1 ∧ Stp (some rb) v W wr v1) (fun _ wr => s.size - atOf wr rb)
  case atStart => exact ⟨f, i0, b0, l0, v', rfl, Nat.le_refl _, hE, hb0, hY0, sY0⟩
  case round =>
    obtain ⟨k, i, at_, l1, v1, rfl, hkf, hm, hat, hR, hS⟩ := hrel
    have q1 := hR.c1
    have qf := hR.fr 1
    have h256 := pk_256 s at_
    obtain ⟨k, rfl⟩ : ∃ k', k = k' + 1 := by
      cases k with
      | zero => cases hm
      | succ k => exact ⟨k, rfl⟩
    simp only [rd] at hm
    by_cases hc : pk s at_ = 42
    · have hin2 : inRow false (pk s at_) = true := by rw [hc]; rfl
      rw [if_neg (by rw [hin2]; simp), hc] at hm
      have hat2 : at_ + 1 ≤ s.size := pk_lt (by omega)
      cases hs1 : rd s k (subM false) (at_ + 1) l1 with
      | none => rw [hs1] at hm; cases hm
      | some r1 =>
        rw [hs1] at hm
        cases r1 with
        | bad b =>
          cases hm
          go_wp2_with (first
        | (go_at_call 62; go_must (refine (peek_calls hR hs hat).mono ?_); rintro e X ⟨rfl, q, rfl⟩)
        | (go_at_call 63; (first | refine (idx_a42 _).mono ?_ | refine (idx_b42 _).mono ?_); rintro e X ⟨rfl, rfl⟩)
        | (go_at_call 65; go_must (refine (hsub k (by omega) _ _ _ _ _ hs1 ((hR.drewN _).go (at_ + 1)) hat2).mono ?_); rintro e Y ⟨v2, rfl, sY⟩))
          exact ⟨rfl, v2, rfl, ((stp_set (p := ⟨rb, 1, none⟩) (stp_drewN hS _) (.inr rfl) _).trans sY)⟩
        | ok j b l2 =>
          simp only at hm
          split at hm
          · cases hm
          rename_i hl2
          have hl2 : l2.length < 1000 := by omega
          go_wp2_with (first
        | (go_at_call 62; go_must (refine (peek_calls hR hs hat).mono ?_); rintro e X ⟨rfl, q, rfl⟩)
        | (go_at_call 63; (first | refine (idx_a42 _).mono ?_ | refine (idx_b42 _).mono ?_); rintro e X ⟨rfl, rfl⟩)
        | (go_at_call 64; go_must (refine (add_calls hY ⟨5, 0, ⟨#[]⟩, (i : Int), (j : Int)⟩ hl2).mono ?_); rintro e Z ⟨v3, rfl, hZ, sZ⟩)
        | (go_at_call 65; go_must (refine (hsub k (by omega) _ _ _ _ _ hs1 ((hR.drewN _).go (at_ + 1)) hat2).mono ?_); rintro e Y ⟨v2, rfl, hY, hb, sY⟩))
          go_roundw
          case rel =>
            refine ⟨k, l2.length, b, l2 ++ [⟨5, 0, ⟨#[]⟩, (i : Int), (j : Int)⟩], v3, rfl, by omega, hm, hb, hZ, ((stp_set (p := ⟨rb, 1, none⟩) (stp_drewN hS _) (.inr rfl) _).trans sY).trans sZ⟩
          case measure =>
            have m1 := atOf_rd hR
            have m2 := atOf_rd hZ
            have := rd_le s k _ _ _ _ _ _ hs1
            rw [m1, m2]
            omega
    by_cases hc2 : pk s at_ = 47
    · have hc := hc2
      have hin2 : inRow false (pk s at_) = true := by rw [hc]; rfl
      rw [if_neg (by rw [hin2]; simp), hc] at hm
      have hat2 : at_ + 1 ≤ s.size := pk_lt (by omega)
      cases hs1 : rd s k (subM false) (at_ + 1) l1 with
      | none => rw [hs1] at hm; cases hm
      | some r1 =>
        rw [hs1] at hm
        cases r1 with
        | bad b =>
          cases hm
          go_wp2_with (first
        | (go_at_call 62; go_must (refine (peek_calls hR hs hat).mono ?_); rintro e X ⟨rfl, q, rfl⟩)
        | (go_at_call 63; (first | refine (idx_a47 _).mono ?_ | refine (idx_b47 _).mono ?_); rintro e X ⟨rfl, rfl⟩)
        | (go_at_call 65; go_must (refine (hsub k (by omega) _ _ _ _ _ hs1 ((hR.drewN _).go (at_ + 1)) hat2).mono ?_); rintro e Y ⟨v2, rfl, sY⟩))
          exact ⟨rfl, v2, rfl, ((stp_set (p := ⟨rb, 1, none⟩) (stp_drewN hS _) (.inr rfl) _).trans sY)⟩
        | ok j b l2 =>
          simp only at hm
          split at hm
          · cases hm
          rename_i hl2
          have hl2 : l2.length < 1000 := by omega
          go_wp2_with (first
        | (go_at_call 62; go_must (refine (peek_calls hR hs hat).mono ?_); rintro e X ⟨rfl, q, rfl⟩)
        | (go_at_call 63; (first | refine (idx_a47 _).mono ?_ | refine (idx_b47 _).mono ?_); rintro e X ⟨rfl, rfl⟩)
        | (go_at_call 64; go_must (refine (add_calls hY ⟨6, 0, ⟨#[]⟩, (i : Int), (j : Int)⟩ hl2).mono ?_); rintro e Z ⟨v3, rfl, hZ, sZ⟩)
        | (go_at_call 65; go_must (refine (hsub k (by omega) _ _ _ _ _ hs1 ((hR.drewN _).go (at_ + 1)) hat2).mono ?_); rintro e Y ⟨v2, rfl, hY, hb, sY⟩))
          go_roundw
          case rel =>
            refine ⟨k, l2.length, b, l2 ++ [⟨6, 0, ⟨#[]⟩, (i : Int), (j : Int)⟩], v3, rfl, by omega, hm, hb, hZ, ((stp_set (p := ⟨rb, 1, none⟩) (stp_drewN hS _) (.inr rfl) _).trans sY).trans sZ⟩
          case measure =>
            have m1 := atOf_rd hR
            have m2 := atOf_rd hZ
            have := rd_le s k _ _ _ _ _ _ hs1
            rw [m1, m2]
            omega
    have hin : inRow false (pk s at_) = false := by simp [inRow, hc, hc2]
    rw [if_pos hin] at hm
    cases hm
    by_cases h0 : pk s at_ = 0
    · go_wp2_with (first
        | (go_at_call 62; go_must (refine (peek_calls hR hs hat).mono ?_); rintro e X ⟨rfl, q, rfl⟩))
      go_ret
      exact ⟨v1, rfl, hR.drewN _, hat, stp_drewN hS _⟩
    · have g1 : ¬ ((pk s at_ : Nat) : Int) = 0 := by omega
      have g2 : (((pk s at_ : Nat) : Int) == 0) = false := by simpa using h0
      go_wp2_with (first
        | (go_at_call 62; go_must (refine (peek_calls hR hs hat).mono ?_); rintro e X ⟨rfl, q, rfl⟩)
        | (go_at_call 63; go_must (refine (idx_false _ h256 hin _).mono ?_); rintro e X ⟨rfl, rfl⟩))
      go_ret
      exact ⟨v1, rfl, hR.drewN _, hat, stp_drewN hS _⟩

set_option maxRecDepth 100000 in
set_option maxHeartbeats 16000000 in
theorem row_true {rb n1 : Nat} {s : ByteArray} (hs : s.size ≤ 1000) {f : Nat} (hsub : ∀ k, k ≤ f → ReadC rb n1 s 52 k (subM true)) (W : World) (a : Nat) (v : Value) (l : List Ab.Node) (r : PR) (hr : rd s (f + 1) (.row true) a l = some r) (h : RD rb n1 s W a v l) (ha : a ≤ s.size) :
    Calls Tryd.prog 51 #[.pointer (some ⟨rb, 0, none⟩), .string ⟨#[43, 45]⟩, .func (.func 52) #[.pointer (some ⟨rb, 0, none⟩)] #[]] W (PostR rb n1 s W v r) := by
  simp only [rd] at hr
  have hE : (match rd s f (subM true) a l with | some (.ok i a l') => rd s f (.more true i) a l' | r => r) = some r := hr
  cases hs0 : rd s f (subM true) a l with
  | none => rw [hs0] at hE; cases hE
  | some r0 =>
  rw [hs0] at hE
  cases r0 with
  | bad b =>
    cases hE
    go_enter Tryd.func51, Tryd.ntmps51
    go_wp2_with (go_at_call 52; go_must (refine (hsub f (Nat.le_refl _) _ _ _ _ _ hs0 h ha).mono ?_); rintro e Y ⟨v', rfl, sY⟩)
    exact ⟨rfl, v', rfl, sY⟩
  | ok i0 b0 l0 =>
  go_enter Tryd.func51, Tryd.ntmps51
  go_wp2_with (go_at_call 52; go_must (refine (hsub f (Nat.le_refl _) _ _ _ _ _ hs0 h ha).mono ?_); rintro e Y ⟨v', rfl, hY0, hb0, sY0⟩)
  go_loopw [7] (fun t wr => ∃ (k i at_ : Nat) (l1 : List Ab.Node) (v1 : Value), t = .int .i64 i ∧ k ≤ f ∧ rd s k (.more true i) at_ l1 = some r ∧ at_ ≤ s.size ∧ RD rb n1 s wr at_ v1 l1 ∧ Stp (some rb) v W wr v1) (fun _ wr => s.size - atOf wr rb)
  case atStart => exact ⟨f, i0, b0, l0, v', rfl, Nat.le_refl _, hE, hb0, hY0, sY0⟩
  case round =>
    obtain ⟨k, i, at_, l1, v1, rfl, hkf, hm, hat, hR, hS⟩ := hrel
    have q1 := hR.c1
    have qf := hR.fr 1
    have h256 := pk_256 s at_
    obtain ⟨k, rfl⟩ : ∃ k', k = k' + 1 := by
      cases k with
      | zero => cases hm
      | succ k => exact ⟨k, rfl⟩
    simp only [rd] at hm
    by_cases hc : pk s at_ = 43
    · have hin2 : inRow true (pk s at_) = true := by rw [hc]; rfl
      rw [if_neg (by rw [hin2]; simp), hc] at hm
      have hat2 : at_ + 1 ≤ s.size := pk_lt (by omega)
      cases hs1 : rd s k (subM true) (at_ + 1) l1 with
      | none => rw [hs1] at hm; cases hm
      | some r1 =>
        rw [hs1] at hm
        cases r1 with
        | bad b =>
          cases hm
          go_wp2_with (first
        | (go_at_call 62; go_must (refine (peek_calls hR hs hat).mono ?_); rintro e X ⟨rfl, q, rfl⟩)
        | (go_at_call 63; (first | refine (idx_a43 _).mono ?_ | refine (idx_b43 _).mono ?_); rintro e X ⟨rfl, rfl⟩)
        | (go_at_call 52; go_must (refine (hsub k (by omega) _ _ _ _ _ hs1 ((hR.drewN _).go (at_ + 1)) hat2).mono ?_); rintro e Y ⟨v2, rfl, sY⟩))
          exact ⟨rfl, v2, rfl, ((stp_set (p := ⟨rb, 1, none⟩) (stp_drewN hS _) (.inr rfl) _).trans sY)⟩
        | ok j b l2 =>
          simp only at hm
          split at hm
          · cases hm
          rename_i hl2
          have hl2 : l2.length < 1000 := by omega
          go_wp2_with (first
        | (go_at_call 62; go_must (refine (peek_calls hR hs hat).mono ?_); rintro e X ⟨rfl, q, rfl⟩)
        | (go_at_call 63; (first | refine (idx_a43 _).mono ?_ | refine (idx_b43 _).mono ?_); rintro e X ⟨rfl, rfl⟩)
        | (go_at_call 64; go_must (refine (add_calls hY ⟨3, 0, ⟨#[]⟩, (i : Int), (j : Int)⟩ hl2).mono ?_); rintro e Z ⟨v3, rfl, hZ, sZ⟩)
        | (go_at_call 52; go_must (refine (hsub k (by omega) _ _ _ _ _ hs1 ((hR.drewN _).go (at_ + 1)) hat2).mono ?_); rintro e Y ⟨v2, rfl, hY, hb, sY⟩))
          go_roundw
          case rel =>
            refine ⟨k, l2.length, b, l2 ++ [⟨3, 0, ⟨#[]⟩, (i : Int), (j : Int)⟩], v3, rfl, by omega, hm, hb, hZ, ((stp_set (p := ⟨rb, 1, none⟩) (stp_drewN hS _) (.inr rfl) _).trans sY).trans sZ⟩
          case measure =>
            have m1 := atOf_rd hR
            have m2 := atOf_rd hZ
            have := rd_le s k _ _ _ _ _ _ hs1
            rw [m1, m2]
            omega
    by_cases hc2 : pk s at_ = 45
    · have hc := hc2
      have hin2 : inRow true (pk s at_) = true := by rw [hc]; rfl
      rw [if_neg (by rw [hin2]; simp), hc] at hm
      have hat2 : at_ + 1 ≤ s.size := pk_lt (by omega)
      cases hs1 : rd s k (subM true) (at_ + 1) l1 with
      | none => rw [hs1] at hm; cases hm
      | some r1 =>
        rw [hs1] at hm
        cases r1 with
        | bad b =>
          cases hm
          go_wp2_with (first
        | (go_at_call 62; go_must (refine (peek_calls hR hs hat).mono ?_); rintro e X ⟨rfl, q, rfl⟩)
        | (go_at_call 63; (first | refine (idx_a45 _).mono ?_ | refine (idx_b45 _).mono ?_); rintro e X ⟨rfl, rfl⟩)
        | (go_at_call 52; go_must (refine (hsub k (by omega) _ _ _ _ _ hs1 ((hR.drewN _).go (at_ + 1)) hat2).mono ?_); rintro e Y ⟨v2, rfl, sY⟩))
          exact ⟨rfl, v2, rfl, ((stp_set (p := ⟨rb, 1, none⟩) (stp_drewN hS _) (.inr rfl) _).trans sY)⟩
        | ok j b l2 =>
          simp only at hm
          split at hm
          · cases hm
          rename_i hl2
          have hl2 : l2.length < 1000 := by omega
          go_wp2_with (first
        | (go_at_call 62; go_must (refine (peek_calls hR hs hat).mono ?_); rintro e X ⟨rfl, q, rfl⟩)
        | (go_at_call 63; (first | refine (idx_a45 _).mono ?_ | refine (idx_b45 _).mono ?_); rintro e X ⟨rfl, rfl⟩)
        | (go_at_call 64; go_must (refine (add_calls hY ⟨4, 0, ⟨#[]⟩, (i : Int), (j : Int)⟩ hl2).mono ?_); rintro e Z ⟨v3, rfl, hZ, sZ⟩)
        | (go_at_call 52; go_must (refine (hsub k (by omega) _ _ _ _ _ hs1 ((hR.drewN _).go (at_ + 1)) hat2).mono ?_); rintro e Y ⟨v2, rfl, hY, hb, sY⟩))
          go_roundw
          case rel =>
            refine ⟨k, l2.length, b, l2 ++ [⟨4, 0, ⟨#[]⟩, (i : Int), (j : Int)⟩], v3, rfl, by omega, hm, hb, hZ, ((stp_set (p := ⟨rb, 1, none⟩) (stp_drewN hS _) (.inr rfl) _).trans sY).trans sZ⟩
          case measure =>
            have m1 := atOf_rd hR
            have m2 := atOf_rd hZ
            have := rd_le s k _ _ _ _ _ _ hs1
            rw [m1, m2]
            omega
    have hin : inRow true (pk s at_) = false := by simp [inRow, hc, hc2]
    rw [if_pos hin] at hm
    cases hm
    by_cases h0 : pk s at_ = 0
    · go_wp2_with (first
        | (go_at_call 62; go_must (refine (peek_calls hR hs hat).mono ?_); rintro e X ⟨rfl, q, rfl⟩))
      go_ret
      exact ⟨v1, rfl, hR.drewN _, hat, stp_drewN hS _⟩
    · have g1 : ¬ ((pk s at_ : Nat) : Int) = 0 := by omega
      have g2 : (((pk s at_ : Nat) : Int) == 0) = false := by simpa using h0
      go_wp2_with (first
        | (go_at_call 62; go_must (refine (peek_calls hR hs hat).mono ?_); rintro e X ⟨rfl, q, rfl⟩)
        | (go_at_call 63; go_must (refine (idx_true _ h256 hin _).mono ?_); rintro e X ⟨rfl, rfl⟩))
      go_ret
      exact ⟨v1, rfl, hR.drewN _, hat, stp_drewN hS _⟩
end Go.Proofs.TrydRead
