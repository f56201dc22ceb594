import Derived.Test.YtcabflannjeigaaGreatDoorMSt
import Derived.Test.YtcabflannjeigaaGreatDoorQC
import Derived.Lib.AtoiAllCases
import Derived.Test.YtcabflannjeigaaGreatDoorC7
import Derived.Test.YtcabflannjeigaaGreatDoorMFp
section
namespace Ab
open Go
set_option linter.unusedVariables false
set_option linter.unusedSimpArgs false

theorem dec_ne (u : Nat) : Lib.decDigits u ≠ [] := by
  rw [Lib.decDigits]
  split <;> simp
theorem dec_len : ∀ (k u : Nat), u < 10 ^ (k + 1) → (Lib.decDigits u).length ≤ k + 1 := by
  intro k
  induction k with
  | zero =>
    intro u h
    rw [Lib.decDigits, dif_pos (by omega)]
    simp
  | succ k ih =>
    intro u h
    rw [Lib.decDigits]
    split
    · simp
    · have := ih (u / 10) (by rw [Nat.pow_succ] at h; omega)
      simp only [List.length_append, List.length_singleton]
      omega
def itoaB (n : Int) : ByteArray := ⟨(Lib.itoa n).toArray⟩
theorem itoaB_size (n : Int) : (itoaB n).size = (Lib.itoa n).length := by simp [itoaB, ByteArray.size]
theorem P157_eq {n : Int} (h : -9223372036854775808 ≤ n ∧ n ≤ 9223372036854775807) : P157 n = some (itoaB n) := by
  unfold P157; rw [ck_pos h]; rfl
end Ab
end

section
namespace Ab
open Go
set_option linter.unusedVariables false
set_option linter.unusedSimpArgs false

end Ab
end

section
namespace Ab
open Go
set_option linter.unusedVariables false
set_option linter.unusedSimpArgs false

inductive Fx where
  | num (n : Int)
  | ref (s : ByteArray)
  | bin (o : Int) (a b : Fx)
def Fx.op : Fx → Int
  | .num _ => 1
  | .ref _ => 2
  | .bin o _ _ => o
def Fx.sz : Fx → Nat
  | .num _ => 1
  | .ref _ => 1
  | .bin _ a b => a.sz + b.sz + 1
theorem Fx.sz_pos : ∀ e : Fx, 1 ≤ e.sz
  | .num _ => Nat.le_refl _
  | .ref _ => Nat.le_refl _
  | .bin _ a b => by simp [Fx.sz]
def Fx.Fine : Fx → Prop
  | .num n => 0 ≤ n ∧ n ≤ 1000000
  | .ref s => nameBad s = false
  | .bin o a b => 3 ≤ o ∧ o ≤ 6 ∧ a.Fine ∧ b.Fine
theorem Fx.Fine.op {e : Fx} (h : e.Fine) : 1 ≤ e.op ∧ e.op ≤ 6 := by
  cases e with
  | num n => exact ⟨by simp [Fx.op], by simp [Fx.op]⟩
  | ref s => exact ⟨by simp [Fx.op], by simp [Fx.op]⟩
  | bin o a b => obtain ⟨h1, h2, _⟩ := h; exact ⟨by show 1 ≤ o; omega, h2⟩
/-- The tree whose root stands at a place. -/
def Tr (l : List Node) : Fx → Nat → Prop
  | .num n, i => l[i]? = some ⟨1, n, ⟨#[]⟩, 0, 0⟩
  | .ref s, i => l[i]? = some ⟨2, 0, s, 0, 0⟩
  | .bin o a b, i => ∃ m k : Nat, l[i]? = some ⟨o, 0, ⟨#[]⟩, m, k⟩ ∧ m < i ∧ k < i ∧ Tr l a m ∧ Tr l b k
theorem Tr.lt {l : List Node} : ∀ {e : Fx} {i : Nat}, Tr l e i → i < l.length
  | .num n, i, h => (List.getElem?_eq_some_iff.1 h).1
  | .ref n, i, h => (List.getElem?_eq_some_iff.1 h).1
  | .bin o a b, i, h => by
    obtain ⟨m, k, h, _⟩ := h
    exact (List.getElem?_eq_some_iff.1 h).1
theorem Tr.at_ {l : List Node} : ∀ {e : Fx} {i : Nat}, Tr l e i → ∃ x, l[i]? = some x ∧ x.op = e.op
  | .num n, i, h => ⟨_, h, rfl⟩
  | .ref n, i, h => ⟨_, h, rfl⟩
  | .bin o a b, i, h => by
    obtain ⟨m, k, h, _⟩ := h
    exact ⟨_, h, rfl⟩
theorem Tr.app {l : List Node} (r : List Node) : ∀ {e : Fx} {i : Nat}, Tr l e i → Tr (l ++ r) e i
  | .num n, i, h => by
    have := h.lt
    exact (List.getElem?_append_left this).trans h
  | .ref n, i, h => by
    have := h.lt
    exact (List.getElem?_append_left this).trans h
  | .bin o a b, i, h => by
    have hl := h.lt
    obtain ⟨m, k, h, h1, h2, h3, h4⟩ := h
    exact ⟨m, k, (List.getElem?_append_left hl).trans h, h1, h2, h3.app r, h4.app r⟩
section
variable {l : List Node}
theorem tr_ex (ok : FormOk l) : ∀ n i, i < n → i < l.length → ∃ e, Tr l e i ∧ e.Fine
  | 0, _, h, _ => by omega
  | n + 1, i, hn, hi => by
    have hx := List.getElem?_eq_getElem hi
    have hnode := ok.node i _ hx
    have hop := nodeE_op hnode
    generalize l[i] = x at hx hnode hop
    by_cases h3 : 3 ≤ x.op
    · obtain ⟨a1, a2, a3, a4, a5, a6⟩ := nodeE_two hnode h3
      obtain ⟨m, hm⟩ := Int.eq_ofNat_of_zero_le a1
      obtain ⟨k, hk⟩ := Int.eq_ofNat_of_zero_le a3
      obtain ⟨e1, t1, f1⟩ := tr_ex ok n m (by omega) (by omega)
      obtain ⟨e2, t2, f2⟩ := tr_ex ok n k (by omega) (by omega)
      refine ⟨.bin x.op e1 e2, ⟨m, k, ?_, by omega, by omega, t1, t2⟩, h3, hop.2, f1, f2⟩
      rw [hx]
      obtain ⟨xo, xn, xm, xl, xr⟩ := x
      simp only at a5 a6 hm hk
      subst a5 a6 hm hk
      rfl
    · unfold nodeE at hnode
      obtain ⟨xo, xn, xm, xl, xr⟩ := x
      simp only at hnode hop h3 hx
      rw [if_neg (by omega)] at hnode
      by_cases h1 : xo = 1
      · rw [if_pos h1] at hnode
        split at hnode
        · cases hnode
        split at hnode
        · rename_i c1 c2
          obtain ⟨rfl, rfl, rfl⟩ := c2
          subst h1
          exact ⟨.num xn, hx, by constructor <;> omega⟩
        · cases hnode
      · obtain rfl : xo = 2 := by omega
        rw [if_neg (by omega), if_pos rfl] at hnode
        split at hnode
        · cases hnode
        split at hnode
        · rename_i c1 c2
          obtain ⟨rfl, rfl, rfl⟩ := c2
          exact ⟨.ref xm, hx, by simpa [Fx.Fine] using c1⟩
        · cases hnode
theorem tr_root (ok : FormOk l) : ∃ e, Tr l e (l.length - 1) ∧ e.Fine := tr_ex ok _ _ (Nat.lt_succ_self _) (by have := ok.pos; omega)
theorem ex_sz : ∀ (f : Nat) (e : Fx) (i : Nat), Tr l e i → e.Fine → i < f → (exN l f i).length = e.sz
  | 0, _, _, _, _, h => by omega
  | f + 1, .num n, i, h, _, _ => by
    simp only [exN, show l[i]? = _ from h]
    rw [if_neg (by decide)]
    rfl
  | f + 1, .ref n, i, h, _, _ => by
    simp only [exN, show l[i]? = _ from h]
    rw [if_neg (by decide)]
    rfl
  | f + 1, .bin o a b, i, h, hf, hi => by
    obtain ⟨m, k, h, h1, h2, h3, h4⟩ := h
    obtain ⟨g1, g2, g3, g4⟩ := hf
    simp only [exN, h]
    rw [if_pos g1, Int.toNat_natCast, Int.toNat_natCast, List.length_append, List.length_append, ex_sz f a m h3 g3 (by omega), ex_sz f b k h4 g4 (by omega)]
    rfl
theorem tr_sz (ok : FormOk l) {e : Fx} {i : Nat} (h : Tr l e i) (hf : e.Fine) : e.sz ≤ l.length := by
  rw [← ex_sz (i + 1) e i h hf (by omega)]
  exact ex_len ok _ _

-- as text
def tight (o : Int) : Bool := o == 5 || o == 6
def parB (c : Bool) (t : ByteArray) : ByteArray := if c = true then ⟨#[40]⟩ ++ t ++ ⟨#[41]⟩ else t
def sgB (o : Int) : ByteArray := if o = 3 then ⟨#[43]⟩ else if o = 4 then ⟨#[45]⟩ else if o = 5 then ⟨#[42]⟩ else ⟨#[47]⟩
def lpar (o c : Int) : Bool := decide (3 ≤ c) && (tight o && !tight c)
def rpar (o c : Int) : Bool := decide (3 ≤ c) && (tight o || !tight c)
def Fx.text : Fx → ByteArray
  | .num n => itoaB n
  | .ref s => s
  | .bin o a b => parB (lpar o a.op) a.text ++ sgB o ++ parB (rpar o b.op) b.text
theorem parB_size (c : Bool) (t : ByteArray) : (parB c t).size ≤ t.size + 2 := by
  unfold parB
  split
  · rw [ByteArray.size_append, ByteArray.size_append]
    show 1 + t.size + 1 ≤ _
    omega
  · omega
theorem sgB_size (o : Int) : (sgB o).size = 1 := by
  unfold sgB
  repeat' split
  all_goals rfl
theorem nameBad_size {s : ByteArray} (h : nameBad s = false) : 1 ≤ s.size ∧ s.size ≤ 8 := by
  unfold nameBad at h
  simp only [Bool.or_eq_false_iff, decide_eq_false_iff_not] at h
  obtain ⟨h1, h2, _⟩ := h
  refine ⟨?_, by omega⟩
  rcases Nat.eq_zero_or_pos s.size with h0 | h0
  · exfalso
    apply h1
    obtain ⟨⟨a⟩⟩ := s
    have : a.length = 0 := h0
    rw [List.length_eq_zero_iff] at this
    subst this
    rfl
  · exact h0
theorem num_size {n : Int} (h : 0 ≤ n ∧ n ≤ 1000000) : 1 ≤ (itoaB n).size ∧ (itoaB n).size ≤ 7 := by
  rw [itoaB_size]
  unfold Lib.itoa
  rw [if_neg (by omega)]
  have h2 := dec_ne n.toNat
  refine ⟨?_, dec_len 6 n.toNat (by omega)⟩
  cases hd : Lib.decDigits n.toNat with
  | nil => exact absurd hd h2
  | cons c r => simp
theorem text_size : ∀ {e : Fx}, e.Fine → 1 ≤ e.text.size ∧ e.text.size ≤ 8 * e.sz + 5 * (e.sz - 1)
  | .num n, h => by
    have := num_size h
    simp only [Fx.text, Fx.sz]
    omega
  | .ref s, h => by
    have := nameBad_size h
    simp only [Fx.text, Fx.sz]
    omega
  | .bin o a b, h => by
    obtain ⟨_, _, h1, h2⟩ := h
    have a1 := text_size h1
    have a2 := text_size h2
    have b1 := parB_size (lpar o a.op) a.text
    have b2 := parB_size (rpar o b.op) b.text
    have c1 := a.sz_pos
    have c2 := b.sz_pos
    have d := sgB_size o
    simp only [Fx.text, Fx.sz, ByteArray.size_append]
    omega
theorem P260_eq (o : Int) : P260 o = some (tight o) := by
  by_cases h : o = 5 <;> by_cases h2 : o = 6 <;> simp [P260, S260, tight, h, h2]
theorem par_ck {α : Type} (c : Bool) {t : ByteArray} (h : t.size ≤ 1000000) (k : ByteArray → Option α) :
    jn (σ := ByteArray) (α := α) (br c
      (ck (decide (ByteArray.size (⟨#[40]⟩ : ByteArray) + ByteArray.size t ≤ 9223372036854775807)) <|
      ck (decide (ByteArray.size ((⟨#[40]⟩ : ByteArray) ++ t) + ByteArray.size (⟨#[41]⟩ : ByteArray) ≤ 9223372036854775807)) <|
      inlO (some (((⟨#[40]⟩ : ByteArray) ++ t) ++ (⟨#[41]⟩ : ByteArray))))
      (inlO (some t))) k = k (parB c t) := by
  cases c with
  | false => rfl
  | true =>
    have e1 : ByteArray.size (⟨#[40]⟩ : ByteArray) = 1 := rfl
    have e2 : ByteArray.size (⟨#[41]⟩ : ByteArray) = 1 := rfl
    rw [br_true, ck_pos (by rw [e1]; omega), ck_pos (by rw [ByteArray.size_append, e1, e2]; omega)]
    rfl
theorem sgB_cut {o : Int} (h : 3 ≤ o ∧ o ≤ 6) : ByteArray.extract (⟨#[43, 45, 42, 47]⟩ : ByteArray) (o - 3).toNat (o - 2).toNat = sgB o := by
  have : o = 3 ∨ o = 4 ∨ o = 5 ∨ o = 6 := by omega
  rcases this with rfl | rfl | rfl | rfl <;> decide
theorem text_eq : ∀ (f : Nat) (e : Fx) (i : Nat), Tr l e i → e.Fine → i < f → e.sz ≤ 1000 → P254n f l (i : Int) = some e.text
  | 0, _, _, _, _, h, _ => by omega
  | f + 1, .num n, i, h, hf, _, _ => by
    have hf := hf
    show S254 P157 P252 (P254n f) P260 l (i : Int) = _
    simp only [S254, lookI_nat, show l[i]? = _ from h, bno_s, decide_true, br_true, P157_eq (n := n) (by obtain ⟨h1, h2⟩ := hf; constructor <;> omega)]
    rfl
  | f + 1, .ref s, i, h, hf, _, _ => by
    show S254 P157 P252 (P254n f) P260 l (i : Int) = _
    simp only [S254, lookI_nat, show l[i]? = _ from h, bno_s]
    rfl
  | f + 1, .bin o a b, i, h, hf, hi, hsz => by
    obtain ⟨m, k, h, h1, h2, h3, h4⟩ := h
    obtain ⟨g1, g2, g3, g4⟩ := hf
    simp only [Fx.sz] at hsz
    obtain ⟨x, hx, ex⟩ := h3.at_
    obtain ⟨y, hy, ey⟩ := h4.at_
    have z1 := text_size g3
    have z2 := text_size g4
    have o1 := g3.op
    have o2 := g4.op
    show S254 P157 P252 (P254n f) P260 l (i : Int) = _
    simp only [S254, lookI_nat, h, bno_s]
    rw [br_dec, if_neg (by omega), br_dec, if_neg (by omega), text_eq f a m h3 g3 (by omega) (by omega), text_eq f b k h4 g4 (by omega) (by omega)]
    simp only [bno_s, hx, hy, ex, ey, P252_eq, P260_eq]
    have q1 : ∀ k : Bool → Option ByteArray, jn (σ := Bool) (α := ByteArray) (br (decide (3 ≤ a.op) && decide (a.op ≤ 6)) (br (tight o) (inlO (some (!tight a.op))) (inlO (some false))) (inlO (some false))) k = k (lpar o a.op) := by
      intro k
      unfold lpar
      rw [decide_eq_true o1.2, Bool.and_true]
      cases decide (3 ≤ a.op) <;> cases tight o <;> rfl
    have q2 : ∀ k : Bool → Option ByteArray, jn (σ := Bool) (α := ByteArray) (br (decide (3 ≤ b.op) && decide (b.op ≤ 6)) (br (tight o) (inlO (some true)) (inlO (some (!tight b.op)))) (inlO (some false))) k = k (rpar o b.op) := by
      intro k
      unfold rpar
      rw [decide_eq_true o2.2, Bool.and_true]
      cases decide (3 ≤ b.op) <;> cases tight o <;> rfl
    rw [q1, par_ck _ (by omega), q2, par_ck _ (by omega)]
    have p1 := parB_size (lpar o a.op) a.text
    have p2 := parB_size (rpar o b.op) b.text
    have e1 : wi (o - 3) = o - 3 := wiid (by omega) (by omega)
    have e2 : wi (o - 3 + 1) = o - 2 := by rw [wiid (by omega) (by omega)]; omega
    rw [e1, e2, sgB_cut ⟨g1, g2⟩]
    rw [ck_pos ⟨by omega, by omega, by show o - 2 ≤ ((4 : Nat) : Int); omega⟩, ck_pos (by rw [sgB_size]; omega), ck_pos (by rw [ByteArray.size_append, sgB_size]; omega)]
    rfl

-- what it comes to
def Fx.val (names : List ByteArray) (cells : List Cell) : Fx → Cell
  | .num n => cellOf n
  | .ref s => cells.getD (nmI names s).toNat ⟨0, 0⟩
  | .bin o a b => if o = 3 then cplus (a.val names cells) (b.val names cells) 1 else if o = 4 then cplus (a.val names cells) (b.val names cells) (-1) else if o = 5 then ctimes (a.val names cells) (b.val names cells) else cover (a.val names cells) (b.val names cells)
-- its nodes in a row
end
end Ab
end

section
namespace Ab
open Go
set_option linter.unusedVariables false
set_option linter.unusedSimpArgs false

theorem P244_ok {l : List Node} (ok : FormOk l) {e : Fx} (h : Tr l e (l.length - 1)) (hf : e.Fine) : P244 l = some (e.text, .nil) := by
  have hp := ok.pos
  have hm := ok.most
  have hz := tr_sz ok h hf
  have e1 : wi ((l.length : Int) - 1) = ((l.length - 1 : Nat) : Int) := by rw [wiid (by omega) (by omega)]; omega
  simp only [P244, S244, P241_eq, form_ok.2 ok, bno_s]
  rw [show errOf 0 = Err.nil from rfl]
  simp only [show Err.isNil .nil = true from rfl, Bool.not_true, br_false, e1, P254, Int.toNat_natCast]
  rw [text_eq _ e (l.length - 1) h hf (by omega) (by omega)]
  rfl
theorem P244_bad {l : List Node} (h : formE l ≠ 0) : P244 l = some (⟨#[]⟩, errOf (formE l)) := by
  simp only [P244, S244, P241_eq, bno_s, errOf_nil, decide_eq_false h, Bool.not_false, br_true]

-- to whom it refers
def Fx.refs : Fx → List ByteArray
  | .num _ => []
  | .ref s => [s]
  | .bin _ a b => a.refs ++ b.refs
section
variable {l : List Node}
end
end Ab
end
