/-
  Plain laws: the document's numerals (Digits, Int, Read) beside strconv's.
-/
import Derived.Test.YthjpciiacibnhaaDoorMRc
import Derived.Test.YthjpciiacibnhaaDoorQCe
import Derived.Lib.Atoi
namespace Ab
open Go
set_option linter.unusedVariables false
set_option linter.unusedSimpArgs false

theorem dec_lit : ∀ i : Fin 10, ByteArray.extract ⟨#[48, 49, 50, 51, 52, 53, 54, 55, 56, 57]⟩ i.val (i.val + 1) = ⟨#[UInt8.ofNat (48 + i.val)]⟩ := by decide +kernel
theorem dec_lit' {d : Nat} (h : d < 10) : ByteArray.extract ⟨#[48, 49, 50, 51, 52, 53, 54, 55, 56, 57]⟩ d (d + 1) = ⟨#[UInt8.ofNat (48 + d)]⟩ := dec_lit ⟨d, h⟩
def decB (u : Nat) : ByteArray := ⟨(Lib.decDigits u).toArray⟩
theorem decB_app (l r : List UInt8) : (⟨l.toArray⟩ : ByteArray) ++ (⟨r.toArray⟩ : ByteArray) = ⟨(l ++ r).toArray⟩ := by
  apply ByteArray.ext
  simp [ByteArray.data_append]
theorem decB_size (u : Nat) : (decB u).size = (Lib.decDigits u).length := by simp [decB, ByteArray.size]
theorem litsize : ByteArray.size ⟨#[48, 49, 50, 51, 52, 53, 54, 55, 56, 57]⟩ = 10 := by decide +kernel
theorem P159n_eq : ∀ (k u : Nat), u < 10 ^ (k + 1) → k ≤ 18 → P159n (k + 1) (u : Int) = some (decB u) := by
  intro k
  induction k with
  | zero =>
    intro u hu _
    have h10 : u < 10 := by simpa using hu
    have e1 : wi ((u : Int) + 1) = ((u + 1 : Nat) : Int) := by rw [wiid (by omega) (by omega)]; omega
    simp only [P159n, S159]
    rw [br_dec, if_neg (by omega), br_dec, if_pos (by omega), e1, ck_pos (by rw [litsize]; omega)]
    simp only [Int.toNat_natCast]
    rw [dec_lit' h10]
    simp [decB, Lib.decDigits_one h10]
  | succ k ih =>
    intro u hu hk
    by_cases h10 : u < 10
    · have e1 : wi ((u : Int) + 1) = ((u + 1 : Nat) : Int) := by rw [wiid (by omega) (by omega)]; omega
      simp only [P159n, S159]
      rw [br_dec, if_neg (by omega), br_dec, if_pos (by omega), e1, ck_pos (by rw [litsize]; omega)]
      simp only [Int.toNat_natCast]
      rw [dec_lit' h10]
      simp [decB, Lib.decDigits_one h10]
    · have hu' : u < 10 ^ 19 := Nat.lt_of_lt_of_le hu (Nat.pow_le_pow_right (by omega) (by omega))
      have e1 : Int.tdiv (u : Int) 10 = ((u / 10 : Nat) : Int) := by rw [Int.tdiv_eq_ediv_of_nonneg (by omega)]; omega
      have e2 : Int.tmod (u : Int) 10 = ((u % 10 : Nat) : Int) := by rw [Int.tmod_eq_emod_of_nonneg (by omega)]; omega
      have e3 : wi (((u / 10 : Nat) : Int)) = ((u / 10 : Nat) : Int) := wiid (by omega) (by omega)
      have e4 : wi (((u % 10 : Nat) : Int) + 1) = ((u % 10 + 1 : Nat) : Int) := by rw [wiid (by omega) (by omega)]; omega
      have hd : u / 10 < 10 ^ (k + 1) := by rw [Nat.pow_succ] at hu; omega
      have i1 := ih (u / 10) hd (by omega)
      have hlen := dec_len k (u / 10) hd
      have hm : u % 10 < 10 := by omega
      rw [P159n]
      simp only [S159]
      rw [br_dec, if_neg (by omega), br_dec, if_neg (by omega), ck_pos (by omega), ck_pos (by omega), e1, e2, e3, e4, i1, bno_s, ck_pos (by rw [litsize]; omega)]
      simp only [Int.toNat_natCast]
      rw [ck_pos (by rw [dec_lit' hm, decB_size]; simp [ByteArray.size]; omega), dec_lit' hm]
      have : Lib.decDigits u = Lib.decDigits (u / 10) ++ [UInt8.ofNat (48 + u % 10)] := by rw [Lib.decDigits, dif_neg h10]
      unfold decB
      rw [this, show (⟨#[UInt8.ofNat (48 + u % 10)]⟩ : ByteArray) = ⟨[UInt8.ofNat (48 + u % 10)].toArray⟩ from rfl, decB_app]
theorem P159_nat {u : Nat} (h : u < 10 ^ 18) : P159n 29 (u : Int) = some (decB u) := by
  -- a depth beyond what is needed changes nothing
  have mono : ∀ (k : Nat) (x : Int) (y : ByteArray), P159n k x = some y → P159n (k + 1) x = some y := by
    intro k
    induction k with
    | zero => intro x y hy; cases hy
    | succ k ih =>
      intro x y hy
      rw [P159n] at hy ⊢
      simp only [S159] at hy ⊢
      rw [br_dec] at hy ⊢
      split
      · rename_i c
        rw [if_pos c] at hy
        cases hq : P159n k (wi (0 - x)) with
        | none => rw [hq] at hy; cases hy
        | some z => rw [hq] at hy; rw [ih _ _ hq]; exact hy
      · rename_i c
        rw [if_neg c] at hy
        rw [br_dec] at hy ⊢
        split
        · rename_i c2
          rw [if_pos c2] at hy; exact hy
        · rename_i c2
          rw [if_neg c2, ck_pos (by omega), ck_pos (by omega)] at hy
          rw [ck_pos (by omega), ck_pos (by omega)]
          cases hq : P159n k (wi (Int.tdiv x 10)) with
          | none => rw [hq] at hy; cases hy
          | some z => rw [hq] at hy; rw [ih _ _ hq]; exact hy
  have mono2 : ∀ (j k : Nat) (x : Int) (y : ByteArray), P159n k x = some y → P159n (k + j) x = some y := by
    intro j
    induction j with
    | zero => intro k x y h; exact h
    | succ j ih => intro k x y h; exact mono _ _ _ (ih k x y h)
  exact mono2 11 18 _ _ (P159n_eq 17 u h (by omega))
theorem P159_eq {n : Int} (h : within n = true) : P159 n = some (itoaB n) := by
  simp only [within, Bool.and_eq_true, decide_eq_true_eq] at h
  unfold P159
  rw [show P159n 30 n = S159 (P159n 29) n from rfl]
  by_cases hn : n < 0
  · have e : wi (0 - n) = ((n.natAbs : Nat) : Int) := by rw [wiid (by omega) (by omega)]; omega
    have hb : n.natAbs < 10 ^ 18 := by omega
    have hl := dec_len 17 n.natAbs hb
    simp only [S159]
    rw [br_dec, if_pos hn, e, P159_nat hb, bno_s, ck_pos (by rw [decB_size]; simp [ByteArray.size]; omega)]
    unfold itoaB decB Lib.itoa
    rw [if_pos hn, show (⟨#[45]⟩ : ByteArray) = ⟨[45].toArray⟩ from rfl, decB_app]
    rfl
  · obtain ⟨u, rfl⟩ : ∃ u : Nat, n = (u : Int) := ⟨n.toNat, by omega⟩
    have hb : u < 10 ^ 18 := by omega
    have h30 : P159n 30 (u : Int) = some (decB u) := by
      have := P159_nat hb
      have e : P159n 30 (u : Int) = S159 (P159n 29) (u : Int) := rfl
      rw [e]
      simp only [S159]
      rw [br_dec, if_neg (by omega), br_dec]
      have e29 : P159n 29 (u : Int) = S159 (P159n 28) (u : Int) := rfl
      rw [e29] at this
      simp only [S159] at this
      rw [br_dec, if_neg (by omega), br_dec] at this
      split
      · rename_i c; rw [if_pos c] at this; exact this
      · rename_i c
        have e1 : Int.tdiv (u : Int) 10 = ((u / 10 : Nat) : Int) := by rw [Int.tdiv_eq_ediv_of_nonneg (by omega)]; omega
        have e3 : wi (((u / 10 : Nat) : Int)) = ((u / 10 : Nat) : Int) := wiid (by omega) (by omega)
        have e2 : Int.tmod (u : Int) 10 = ((u % 10 : Nat) : Int) := by rw [Int.tmod_eq_emod_of_nonneg (by omega)]; omega
        have e4 : wi (((u % 10 : Nat) : Int) + 1) = ((u % 10 + 1 : Nat) : Int) := by rw [wiid (by omega) (by omega)]; omega
        have hl := dec_len 17 (u / 10) (by omega)
        have h10 : ¬ u < 10 := by omega
        rw [ck_pos (by omega), ck_pos (by omega), e1, e2, e3, e4, P159_nat (by omega), bno_s, ck_pos (by rw [litsize]; omega)]
        simp only [Int.toNat_natCast]
        have hm : u % 10 < 10 := by omega
        rw [ck_pos (by rw [dec_lit' hm, decB_size]; simp [ByteArray.size]; omega), dec_lit' hm]
        have : Lib.decDigits u = Lib.decDigits (u / 10) ++ [UInt8.ofNat (48 + u % 10)] := by rw [Lib.decDigits, dif_neg h10]
        unfold decB
        rw [this, show (⟨#[UInt8.ofNat (48 + u % 10)]⟩ : ByteArray) = ⟨[UInt8.ofNat (48 + u % 10)].toArray⟩ from rfl, decB_app]
    rw [show S159 (P159n 29) (u : Int) = P159n 30 (u : Int) from rfl, h30]
    unfold itoaB decB Lib.itoa
    rw [if_neg hn]
    rfl

/-! ### Int: the value of a text -/
theorem digitVal_in {b : UInt8} (h : 48 ≤ b.toNat ∧ b.toNat ≤ 57) : Lib.digitVal b = some (b.toNat - 48) := by simp [Lib.digitVal, h]
theorem digitVal_out {b : UInt8} (h : ¬ (48 ≤ b.toNat ∧ b.toNat ≤ 57)) : Lib.digitVal b = none := by unfold Lib.digitVal; rw [if_neg h]
theorem ba_len (x : ByteArray) : x.data.toList.length = x.size := by rw [Array.length_toList]; rfl
theorem loop161 (x3 : ByteArray) (hl : x3.size ≤ 15) : ∀ (r : List UInt8) (k acc : Nat), x3.data.toList.drop k = r → k + r.length = x3.size → acc < 10 ^ k →
    lpO (S161_L1 x3) ((acc : Int), (k : Int)) = some (match Lib.decFrom acc r with | some m => .inl ((m : Int), ((x3.size : Nat) : Int)) | none => .inr ((0 : Int), false)) := by
  intro r
  induction r with
  | nil =>
    intro k acc hd hk ha
    have hk' : k = x3.size := by simpa using hk
    subst hk'
    refine (lpO_dn (y := ((acc : Int), ((x3.size : Nat) : Int))) ?_).trans rfl
    simp only [S161_L1]
    rw [br_dec, if_neg (by omega)]
    rfl
  | cons b r ih =>
    intro k acc hd hk ha
    simp only [List.length_cons] at hk
    have hb : x3.data.toList[k]? = some b := by rw [← List.head?_drop, hd]; rfl
    have ha15 : acc < 10 ^ 15 := Nat.lt_of_lt_of_le ha (Nat.pow_le_pow_right (by omega) (by omega))
    have b256 : b.toNat < 256 := b.toNat_lt
    by_cases hdig : 48 ≤ b.toNat ∧ b.toNat ≤ 57
    · have e1 : wi ((acc : Int) * 10) = ((acc * 10 : Nat) : Int) := by rw [wiid (by omega) (by omega)]; omega
      have e0 : wi ((b.toNat : Nat) : Int) = ((b.toNat : Nat) : Int) := wiid (by omega) (by omega)
      have e2 : wi (((acc * 10 : Nat) : Int) + ((b.toNat : Nat) : Int)) = ((acc * 10 + b.toNat : Nat) : Int) := by rw [wiid (by omega) (by omega)]; omega
      have e3 : wi (((acc * 10 + b.toNat : Nat) : Int) - 48) = ((acc * 10 + (b.toNat - 48) : Nat) : Int) := by rw [wiid (by omega) (by omega)]; omega
      have e4 : wi ((k : Int) + 1) = ((k + 1 : Nat) : Int) := by rw [wiid (by omega) (by omega)]; omega
      have step : S161_L1 x3 ((acc : Int), (k : Int)) = some (.nx (((acc * 10 + (b.toNat - 48) : Nat) : Int), ((k + 1 : Nat) : Int))) := by
        simp only [S161_L1]
        rw [br_dec, if_pos (by omega)]
        simp only [lookI_nat, hb, bno_s]
        rw [br_dec, if_neg (by omega)]
        simp only [inlO_s, jn_l]
        rw [br_dec, if_neg (by omega), e1, e0, e2, e3, e4]
        all_goals rfl
      rw [lpO_nx step, ih (k + 1) (acc * 10 + (b.toNat - 48)) (by rw [← List.drop_drop, hd]; rfl) (by omega) (by rw [Nat.pow_succ]; omega)]
      simp only [Lib.decFrom, digitVal_in hdig]
    · have step : S161_L1 x3 ((acc : Int), (k : Int)) = some (.fin ((0 : Int), false)) := by
        simp only [S161_L1]
        rw [br_dec, if_pos (by omega)]
        simp only [lookI_nat, hb, bno_s]
        by_cases h1 : b.toNat < 48
        · rw [br_dec, if_pos (by omega)]; rfl
        · rw [br_dec, if_neg (by omega)]
          simp only [inlO_s, jn_l]
          rw [br_dec, if_pos (by omega)]
          rfl
      rw [lpO_fin step]
      simp only [Lib.decFrom, digitVal_out hdig]

/-- What Int answers of the digits behind the sign. -/
def magL (less : Bool) (t : List UInt8) : Int × Bool :=
  if t = [] ∨ 15 < t.length ∨ (t.head? = some 48 ∧ (1 < t.length ∨ less = true)) then (0, false)
  else match Lib.decFrom 0 t with | some m => (if less = true then -(m : Int) else (m : Int), true) | none => (0, false)
def rintL (s : ByteArray) : Int × Bool :=
  if 1 < s.size ∧ s.data.toList.head? = some 45 then magL true s.data.toList.tail else magL false s.data.toList
theorem tail161 (x3 : ByteArray) (less : Bool) :
    (jn (σ := Bool) (α := (Int × Bool)) (br (decide (x3 = (⟨#[]⟩ : ByteArray))) (inlO (some true)) (br (decide ((15 : Int) < ((ByteArray.size x3 : Nat) : Int))) (inlO (some true))
      (bno (lookI (ByteArray.data x3).toList (0 : Int)) fun y4 => br (decide (((UInt8.toNat y4 : Nat) : Int) = (48 : Int))) (br (decide ((1 : Int) < ((ByteArray.size x3 : Nat) : Int))) (inlO (some true)) (inlO (some less))) (inlO (some false))))) fun x5 =>
      br x5 (some ((0 : Int), false)) (lp (S161_L1 x3) ((0 : Int), (0 : Int)) fun x11 => jn (σ := Int) (α := (Int × Bool)) (br less (inlO (some (wi (0 - x11.1)))) (inlO (some x11.1))) fun x12 => some (x12, true)))
    = some (magL less x3.data.toList) := by
  by_cases h0 : x3 = ⟨#[]⟩
  · subst h0; rfl
  have hne : x3.data.toList ≠ [] := by
    intro h
    apply h0
    apply ByteArray.ext
    apply Array.ext'
    simpa using h
  rw [br_dec, if_neg h0]
  unfold magL
  by_cases h1 : 15 < x3.size
  · rw [br_dec, if_pos (by omega), if_pos (.inr (.inl (by rw [ba_len]; exact h1)))]; rfl
  rw [br_dec, if_neg (by omega)]
  obtain ⟨b, r, hbr⟩ : ∃ b r, x3.data.toList = b :: r := List.exists_cons_of_ne_nil hne
  have hlen : (b :: r).length = x3.size := by rw [← hbr, ba_len]
  have hl2 : r.length + 1 = x3.size := by simpa using hlen
  have hl0 : lookI x3.data.toList 0 = some b := by rw [show (0 : Int) = ((0 : Nat) : Int) from rfl, lookI_nat, hbr]; rfl
  have b256 : b.toNat < 256 := b.toNat_lt
  have hb48 : ((b.toNat : Nat) : Int) = 48 ↔ b = 48 := by
    constructor
    · intro h; exact UInt8.toNat_inj.1 (by have : (48 : UInt8).toNat = 48 := rfl; omega)
    · rintro rfl; rfl
  have hloop := loop161 x3 (by omega) x3.data.toList 0 0 rfl (by rw [ba_len]; omega) (by simp)
  have hrun : (lp (S161_L1 x3) ((0 : Int), (0 : Int)) fun x11 => jn (σ := Int) (α := (Int × Bool)) (br less (inlO (some (wi (0 - x11.1)))) (inlO (some x11.1))) fun x12 => some (x12, true)) = some (match Lib.decFrom 0 (b :: r) with | some m => (if less = true then -(m : Int) else (m : Int), true) | none => (0, false)) := by
    unfold lp
    rw [show (((0 : Int), (0 : Int)) : Int × Int) = (((0 : Nat) : Int), ((0 : Nat) : Int)) from rfl, hloop, hbr]
    cases hq : Lib.decFrom 0 (b :: r) with
    | none => rfl
    | some m =>
      have hm := Lib.decFrom_lt _ _ _ hq
      have : (10 : Nat) ^ (b :: r).length ≤ 10 ^ 15 := Nat.pow_le_pow_right (by omega) (by omega)
      have hm' : m < 10 ^ 15 := by omega
      cases less with
      | false => rfl
      | true =>
        simp only [jn_l, br_true, inlO_s, if_true]
        rw [wiid (by omega) (by omega)]
        congr 2
        omega
  rw [hl0]
  simp only [bno_s]
  rw [hrun, hbr]
  by_cases h48 : b = 48
  · rw [br_dec, if_pos (hb48.2 h48)]
    by_cases h2 : 1 < x3.size
    · rw [br_dec, if_pos (by omega), if_pos (.inr (.inr ⟨by simp [h48], .inl (by omega)⟩))]; rfl
    · rw [br_dec, if_neg (by omega)]
      cases less with
      | true => rw [if_pos (.inr (.inr ⟨by simp [h48], .inr rfl⟩))]; rfl
      | false =>
        rw [if_neg (by
          rintro (h | h | ⟨_, h | h⟩)
          · cases h
          · rw [List.length_cons] at h; omega
          · rw [List.length_cons] at h; omega
          · cases h)]
        rfl
  · rw [br_dec, if_neg (fun h => h48 (hb48.1 h)), if_neg (by simp [h48]; simp at hlen; omega)]
    rfl
theorem P161_eq (s : ByteArray) : P161 s 15 = some (rintL s) := by
  unfold P161 rintL
  simp only [S161]
  by_cases h1 : 1 < s.size
  · have hne : s.data.toList ≠ [] := by intro h; have := ba_len s; rw [h] at this; simp at this; omega
    obtain ⟨b, r, hbr⟩ : ∃ b r, s.data.toList = b :: r := List.exists_cons_of_ne_nil hne
    have hl0 : lookI s.data.toList 0 = some b := by rw [show (0 : Int) = ((0 : Nat) : Int) from rfl, lookI_nat, hbr]; rfl
    have hb45 : ((b.toNat : Nat) : Int) = 45 ↔ b = 45 := by
      constructor
      · intro h; exact UInt8.toNat_inj.1 (by have : (45 : UInt8).toNat = 45 := rfl; omega)
      · rintro rfl; rfl
    rw [br_dec, if_pos (by omega), hl0]
    simp only [bno_s, inlO_s, jn_l]
    by_cases hb : b = 45
    · rw [decide_eq_true (hb45.2 hb)]
      simp only [br_true, Int.toNat_natCast]
      rw [ck_pos (by omega)]
      simp only [inlO_s, jn_l]
      have ht : (ByteArray.extract s (Int.toNat 1) s.size).data.toList = s.data.toList.tail := by
        rw [ByteArray.data_extract]
        show (s.data.extract 1 s.size).toList = _
        rw [Array.toList_extract, hbr]
        have : r.length + 1 = s.size := by rw [← ba_len s, hbr]; rfl
        simp [List.extract, ← this]
      rw [if_pos ⟨h1, by rw [hbr, hb]; rfl⟩, ← ht]
      exact tail161 _ true
    · rw [decide_eq_false (fun h => hb (hb45.1 h)), if_neg (by rintro ⟨_, h⟩; rw [hbr] at h; exact hb (Option.some.inj h))]
      simp only [br_false, inlO_s, jn_l]
      exact tail161 _ false
  · rw [br_dec, if_neg (by omega), if_neg (by omega)]
    simp only [br_false, inlO_s, jn_l]
    exact tail161 _ false

/-! ### Int beside strconv's -/
theorem dec_decFrom (u : Nat) : ∀ r : List UInt8, Lib.decFrom 0 (Lib.decDigits u ++ r) = Lib.decFrom u r := by
  induction u using Nat.strongRecOn with
  | _ u ih =>
    intro r
    by_cases h : u < 10
    · rw [Lib.decDigits_one h]
      simp only [List.cons_append, List.nil_append, Lib.decFrom]
      rw [digitVal_in (by rw [dig_nat h]; omega), dig_nat h]
      simp
    · rw [Lib.decDigits, dif_neg h, List.append_assoc, ih (u / 10) (by omega)]
      simp only [List.cons_append, List.nil_append, Lib.decFrom]
      rw [digitVal_in (by rw [dig_nat (by omega : u % 10 < 10)]; omega), dig_nat (by omega : u % 10 < 10)]
      simp only
      congr 1
      omega
theorem dec_decFrom' (u : Nat) : Lib.decFrom 0 (Lib.decDigits u) = some u := by
  have := dec_decFrom u []
  rwa [List.append_nil] at this
theorem dec_head (u : Nat) (h : 0 < u) : (Lib.decDigits u).head? ≠ some 48 := by
  induction u using Nat.strongRecOn with
  | _ u ih =>
    by_cases h10 : u < 10
    · rw [Lib.decDigits_one h10]
      intro e
      have e := congrArg UInt8.toNat (Option.some.inj e)
      rw [dig_nat h10] at e
      have : (48 : UInt8).toNat = 48 := rfl
      omega
    · rw [Lib.decDigits, dif_neg h10]
      have := ih (u / 10) (by omega) (by omega)
      have hne := dec_ne (u / 10)
      rw [List.head?_append]
      cases hq : (Lib.decDigits (u / 10)).head? with
      | none => exact absurd (List.head?_eq_none_iff.1 hq) hne
      | some c => rw [hq] at this; exact this
theorem decFrom_app : ∀ (l : List UInt8) (acc : Nat) (b : UInt8), Lib.decFrom acc (l ++ [b]) = (Lib.decFrom acc l).bind fun m => (Lib.digitVal b).map fun d => m * 10 + d
  | [], acc, b => by
    simp only [List.nil_append, Lib.decFrom, Option.bind_some]
    cases Lib.digitVal b <;> rfl
  | c :: l, acc, b => by
    simp only [List.cons_append, Lib.decFrom]
    cases Lib.digitVal c with
    | none => rfl
    | some d => exact decFrom_app l _ b
/-- A numeral without a needless 0 is the one that Itoa writes. -/
theorem dec_canon (t : List UInt8) : ∀ m, t ≠ [] → Lib.decFrom 0 t = some m → (t.head? ≠ some 48 ∨ t.length = 1) → Lib.decDigits m = t := by
  induction hn : t.length generalizing t with
  | zero => intro m h; exact absurd (List.length_eq_zero_iff.1 hn) h
  | succ n ih0 =>
    intro m hne hd hc
    obtain ⟨l, b, rfl⟩ : ∃ l b, t = l ++ [b] := ⟨t.dropLast, t.getLast hne, (List.dropLast_concat_getLast hne).symm⟩
    have ih := ih0 l (by simpa using hn)
    rw [decFrom_app] at hd
    cases hq : Lib.decFrom 0 l with
    | none => rw [hq] at hd; cases hd
    | some k =>
      rw [hq] at hd
      cases hv : Lib.digitVal b with
      | none => rw [hv] at hd; cases hd
      | some d =>
        rw [hv] at hd
        have hm : k * 10 + d = m := Option.some.inj hd
        obtain ⟨v1, v2, v3⟩ := Lib.digitVal_eq hv
        have hb : UInt8.ofNat (48 + d) = b := by
          apply UInt8.toNat_inj.1
          rw [dig_nat (by omega)]
          omega
        cases l with
        | nil =>
          have : k = 0 := (Option.some.inj hq).symm
          subst this
          rw [← hm, Lib.decDigits_one (by omega)]
          simp [hb]
        | cons c l =>
          have hc' : (c :: l).head? ≠ some 48 := by
            rcases hc with h | h
            · exact h
            · exfalso; simp at hn; omega
          have hk := ih k (by simp) hq (.inl hc')
          have k0 : k ≠ 0 := by
            rintro rfl
            rw [Lib.decDigits_one (by omega)] at hk
            apply hc'
            rw [← hk]
            rfl
          rw [Lib.decDigits, dif_neg (by omega), show m / 10 = k by omega, show m % 10 = d by omega, hk, hb]
theorem itoa_neg (u : Nat) (h : 0 < u) : Lib.itoa (-(u : Int)) = 45 :: Lib.decDigits u := by
  unfold Lib.itoa
  rw [if_pos (by omega), show (-(u : Int)).natAbs = u by omega]
theorem itoa_nat (u : Nat) : Lib.itoa (u : Int) = Lib.decDigits u := by
  unfold Lib.itoa
  rw [if_neg (by omega), Int.toNat_natCast]
theorem itoaB_of {s : ByteArray} {n : Int} (h : Lib.itoa n = s.data.toList) : itoaB n = s := by
  unfold itoaB
  apply ByteArray.ext
  rw [h]
theorem magL_some {less : Bool} {t : List UInt8} {n : Int} (h : magL less t = (n, true)) : ∃ m : Nat, n = (if less = true then -(m : Int) else (m : Int)) ∧ t.length ≤ 15 ∧ Lib.decDigits m = t ∧ m < 10 ^ 15 ∧ (less = true → 0 < m) := by
  unfold magL at h
  split at h
  · simp at h
  · rename_i c
    simp only [not_or] at c
    obtain ⟨c1, c2, c3⟩ := c
    cases hq : Lib.decFrom 0 t with
    | none => rw [hq] at h; simp at h
    | some m =>
      rw [hq] at h
      have hn := (Prod.mk.inj h).1
      have hcan : Lib.decDigits m = t := by
        apply dec_canon t m c1 hq
        by_cases h48 : t.head? = some 48
        · right
          have h1 : ¬ (1 < t.length) := fun x => c3 ⟨h48, .inl x⟩
          have : t.length ≠ 0 := fun x => c1 (List.length_eq_zero_iff.1 x)
          omega
        · exact .inl h48
      have hm := Lib.decFrom_lt _ _ _ hq
      have : (10 : Nat) ^ t.length ≤ 10 ^ 15 := Nat.pow_le_pow_right (by omega) (by omega)
      refine ⟨m, hn.symm, by omega, hcan, by omega, fun hl => ?_⟩
      by_cases m0 : m = 0
      · exfalso
        subst m0
        rw [Lib.decDigits_one (by omega)] at hcan
        exact c3 ⟨by rw [← hcan]; rfl, .inr hl⟩
      · omega
theorem rint_int {s : ByteArray} {n : Int} (h : rintL s = (n, true)) : intL s 15 = (n, true) := by
  have ok : ∀ n : Int, (-1000000000000000000 < n ∧ n < 1000000000000000000) → Lib.itoa n = s.data.toList → (if n < 0 then ((s.size : Nat) : Int) - 1 else ((s.size : Nat) : Int)) ≤ 15 → intL s 15 = (n, true) := by
    intro n hn he hs
    have ha : Lib.atoiAll s.data.toList = .ok n := by rw [← he]; exact atoi_itoa hn
    unfold intL atoiV
    rw [ha]
    simp [hs, itoaB_of he]
  unfold rintL at h
  split at h
  · rename_i c
    obtain ⟨m, rfl, hl, hcan, hm, h0⟩ := magL_some h
    have h0' := h0 rfl
    have hsl : s.data.toList = 45 :: s.data.toList.tail := by
      cases hq : s.data.toList with
      | nil => rw [hq] at c; exact absurd c.2 (by simp)
      | cons a l => rw [hq] at c; rw [Option.some.inj c.2]; rfl
    have hsz : s.size = s.data.toList.tail.length + 1 := by rw [← ba_len s]; rw [hsl]; simp
    simp only [if_true] at *
    exact ok _ (by omega) (by rw [itoa_neg m h0', hcan]; exact hsl.symm) (by rw [if_pos (by omega)]; omega)
  · obtain ⟨m, rfl, hl, hcan, hm, _⟩ := magL_some h
    simp only [Bool.false_eq_true, if_false] at *
    exact ok _ (by omega) (by rw [itoa_nat, hcan]) (by rw [if_neg (by omega), ← ba_len s]; omega)
theorem int_rint {s : ByteArray} {n : Int} (h : intL s 15 = (n, true)) : rintL s = (n, true) := by
  unfold intL at h
  obtain ⟨h1, h2⟩ := Prod.mk.inj h
  cases hv : Lib.atoiAll s.data.toList with
  | ok v =>
    rw [hv] at h2
    simp only [Bool.and_eq_true, decide_eq_true_eq] at h2
    obtain ⟨h2, h3⟩ := h2
    have e : atoiV s = (v, .nil) := by unfold atoiV; rw [hv]
    rw [e] at h1
    have h1 : v = n := h1
    subst h1
    have hl : s.data.toList = Lib.itoa v := by rw [← h3, itoaB_list]
    have hsz : s.size = (Lib.itoa v).length := by rw [← ba_len s, hl]
    unfold rintL magL
    by_cases hneg : v < 0
    · obtain ⟨u, rfl⟩ : ∃ u : Nat, v = -(u : Int) := ⟨v.natAbs, by omega⟩
      have u0 : 0 < u := by omega
      rw [itoa_neg u u0] at hl hsz
      have hne := dec_ne u
      have hlen : 0 < (Lib.decDigits u).length := List.length_pos_iff.2 hne
      simp only [List.length_cons] at hsz
      rw [if_pos hneg] at h2
      rw [if_pos ⟨by omega, by rw [hl]; rfl⟩, hl]
      simp only [List.tail_cons]
      rw [if_neg (by
        rintro (h | h | ⟨h, _⟩)
        · exact hne h
        · omega
        · exact dec_head u u0 h), dec_decFrom']
      simp
    · obtain ⟨u, rfl⟩ : ∃ u : Nat, v = (u : Int) := ⟨v.toNat, by omega⟩
      rw [itoa_nat] at hl hsz
      rw [if_neg hneg] at h2
      have hne := dec_ne u
      have h45 : s.data.toList.head? ≠ some 45 := by
        rw [hl]
        cases hq : Lib.decDigits u with
        | nil => exact absurd hq hne
        | cons a l =>
          have := dec_digit u a (by rw [hq]; simp)
          intro e
          have e := Option.some.inj e
          subst e
          have : (45 : UInt8).toNat = 45 := rfl
          omega
      rw [if_neg (fun h => h45 h.2), hl, if_neg (by
        rintro (h | h | ⟨h, h' | h'⟩)
        · exact hne h
        · omega
        · by_cases u0 : 0 < u
          · exact dec_head u u0 h
          · have : u = 0 := by omega
            subst this
            rw [Lib.decDigits_one (by omega)] at h'
            simp at h'
        · cases h'), dec_decFrom']
      simp
  | range => rw [hv] at h2; cases h2
  | _ => rw [hv] at h2; cases h2
theorem rint_or (s : ByteArray) : rintL s = (0, false) ∨ ∃ n, rintL s = (n, true) := by
  have mg : ∀ (b : Bool) (t : List UInt8), magL b t = (0, false) ∨ ∃ n, magL b t = (n, true) := by
    intro b t
    unfold magL
    split
    · exact .inl rfl
    · cases Lib.decFrom 0 t with
      | none => exact .inl rfl
      | some m => exact .inr ⟨_, rfl⟩
  unfold rintL
  split
  · exact mg _ _
  · exact mg _ _
end Ab
