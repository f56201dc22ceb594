import Derived.Test.YtcabflannjeigaaDoorMSt
import Derived.Test.YtcabflannjeigaaDoorQC
import Derived.Lib.AtoiAllCases
import Derived.Test.YtcabflannjeigaaDoorC7
import Derived.Test.YtcabflannjeigaaDoorMFp
section
namespace Ab
open Go
set_option linter.unusedVariables false
set_option linter.unusedSimpArgs false

theorem dig_nat {d : Nat} (h : d < 10) : (UInt8.ofNat (48 + d)).toNat = 48 + d := by
  rw [UInt8.toNat_ofNat']
  omega
theorem dec_digit : ∀ (u : Nat), ∀ c ∈ Lib.decDigits u, 48 ≤ c.toNat ∧ c.toNat ≤ 57 := by
  intro u
  induction u using Nat.strongRecOn with
  | _ u ih =>
    intro c hc
    rw [Lib.decDigits] at hc
    split at hc
    · rename_i h
      rw [List.mem_singleton] at hc
      subst hc
      rw [dig_nat h]
      omega
    · rename_i h
      rcases List.mem_append.1 hc with hc | hc
      · exact ih (u / 10) (by omega) c hc
      · rw [List.mem_singleton] at hc
        subst hc
        rw [dig_nat (by omega)]
        omega
theorem dec_ne (u : Nat) : Lib.decDigits u ≠ [] := by
  rw [Lib.decDigits]
  split <;> simp
theorem dec_len : ∀ (k u : Nat), u < 10 ^ (k + 1) → (Lib.decDigits u).length ≤ k + 1 := by
  intro k
  induction k with
  | zero =>
    intro u h
    rw [Lib.decDigits, dif_pos (by omega)]
    simp
  | succ k ih =>
    intro u h
    rw [Lib.decDigits]
    split
    · simp
    · have := ih (u / 10) (by rw [Nat.pow_succ] at h; omega)
      simp only [List.length_append, List.length_singleton]
      omega
theorem parse_dec (u : Nat) : u < 1000000000000000000 → ∀ r : List UInt8, Lib.parseUint10 0 (Lib.decDigits u ++ r) = Lib.parseUint10 u r := by
  induction u using Nat.strongRecOn with
  | _ u ih =>
    intro hu r
    rw [Lib.decDigits]
    split
    · rename_i h
      simp only [List.singleton_append, Lib.parseUint10, dig_nat h]
      rw [if_pos (by omega), if_neg (by omega), if_neg (by omega)]
      congr 1
      omega
    · rename_i h
      rw [List.append_assoc, ih (u / 10) (by omega) (by omega)]
      have hd : u % 10 < 10 := by omega
      simp only [List.singleton_append, Lib.parseUint10, dig_nat hd]
      rw [if_pos (by omega), if_neg (by omega), if_neg (by omega)]
      congr 1
      omega
theorem mag_dec {u : Nat} (hu : u < 1000000000000000000) : Lib.parseMag (Lib.decDigits u) = .ok u := by
  unfold Lib.parseMag
  rw [if_neg (dec_ne u)]
  have := parse_dec u hu []
  rw [List.append_nil] at this
  rw [this]
  rfl
/-- What is written of a number is read as that. -/
theorem atoi_itoa {n : Int} (h : -1000000000000000000 < n ∧ n < 1000000000000000000) : Lib.atoiAll (Lib.itoa n) = .ok n := by
  unfold Lib.itoa
  split
  · rename_i hn
    have hm := mag_dec (u := n.natAbs) (by omega)
    simp only [Lib.atoiAll]
    have e : ((45 : UInt8).toNat = 43 ∨ (45 : UInt8).toNat = 45) := .inr rfl
    rw [if_pos e, hm]
    have e2 : (45 : UInt8).toNat = 45 := rfl
    simp only [e2, not_true, false_and, if_false, true_and, if_true]
    rw [if_neg (by omega)]
    congr 1
    omega
  · rename_i hn
    have hm := mag_dec (u := n.toNat) (by omega)
    cases hd : Lib.decDigits n.toNat with
    | nil => exact absurd hd (dec_ne _)
    | cons c r =>
      have hc := dec_digit n.toNat c (by rw [hd]; exact List.mem_cons_self)
      rw [hd] at hm
      have e1 : ¬ (c.toNat = 43 ∨ c.toNat = 45) := by omega
      have e2 : ¬ c.toNat = 45 := by omega
      simp only [Lib.atoiAll]
      rw [if_neg e1, hm]
      simp only [e2, not_false_eq_true, true_and, false_and, if_false]
      rw [if_neg (by omega)]
      congr 1
      omega
def itoaB (n : Int) : ByteArray := ⟨(Lib.itoa n).toArray⟩
theorem itoaB_list (n : Int) : (itoaB n).data.toList = Lib.itoa n := by simp [itoaB]
theorem itoaB_size (n : Int) : (itoaB n).size = (Lib.itoa n).length := by simp [itoaB, ByteArray.size]
end Ab
end

section
namespace Ab
open Go
set_option linter.unusedVariables false
set_option linter.unusedSimpArgs false

end Ab
end

section
namespace Ab
open Go
set_option linter.unusedVariables false
set_option linter.unusedSimpArgs false

inductive Fx where
  | num (n : Int)
  | ref (s : ByteArray)
  | bin (o : Int) (a b : Fx)
def Fx.op : Fx → Int
  | .num _ => 1
  | .ref _ => 2
  | .bin o _ _ => o
def Fx.sz : Fx → Nat
  | .num _ => 1
  | .ref _ => 1
  | .bin _ a b => a.sz + b.sz + 1
theorem Fx.sz_pos : ∀ e : Fx, 1 ≤ e.sz
  | .num _ => Nat.le_refl _
  | .ref _ => Nat.le_refl _
  | .bin _ a b => by simp [Fx.sz]
def Fx.Fine : Fx → Prop
  | .num n => 0 ≤ n ∧ n ≤ 1000000
  | .ref s => nameBad s = false
  | .bin o a b => 3 ≤ o ∧ o ≤ 6 ∧ a.Fine ∧ b.Fine
theorem Fx.Fine.op {e : Fx} (h : e.Fine) : 1 ≤ e.op ∧ e.op ≤ 6 := by
  cases e with
  | num n => exact ⟨by simp [Fx.op], by simp [Fx.op]⟩
  | ref s => exact ⟨by simp [Fx.op], by simp [Fx.op]⟩
  | bin o a b => obtain ⟨h1, h2, _⟩ := h; exact ⟨by show 1 ≤ o; omega, h2⟩
/-- The tree whose root stands at a place. -/
def Tr (l : List Node) : Fx → Nat → Prop
  | .num n, i => l[i]? = some ⟨1, n, ⟨#[]⟩, 0, 0⟩
  | .ref s, i => l[i]? = some ⟨2, 0, s, 0, 0⟩
  | .bin o a b, i => ∃ m k : Nat, l[i]? = some ⟨o, 0, ⟨#[]⟩, m, k⟩ ∧ m < i ∧ k < i ∧ Tr l a m ∧ Tr l b k
theorem Tr.lt {l : List Node} : ∀ {e : Fx} {i : Nat}, Tr l e i → i < l.length
  | .num n, i, h => (List.getElem?_eq_some_iff.1 h).1
  | .ref n, i, h => (List.getElem?_eq_some_iff.1 h).1
  | .bin o a b, i, h => by
    obtain ⟨m, k, h, _⟩ := h
    exact (List.getElem?_eq_some_iff.1 h).1
theorem Tr.at_ {l : List Node} : ∀ {e : Fx} {i : Nat}, Tr l e i → ∃ x, l[i]? = some x ∧ x.op = e.op
  | .num n, i, h => ⟨_, h, rfl⟩
  | .ref n, i, h => ⟨_, h, rfl⟩
  | .bin o a b, i, h => by
    obtain ⟨m, k, h, _⟩ := h
    exact ⟨_, h, rfl⟩
theorem Tr.app {l : List Node} (r : List Node) : ∀ {e : Fx} {i : Nat}, Tr l e i → Tr (l ++ r) e i
  | .num n, i, h => by
    have := h.lt
    exact (List.getElem?_append_left this).trans h
  | .ref n, i, h => by
    have := h.lt
    exact (List.getElem?_append_left this).trans h
  | .bin o a b, i, h => by
    have hl := h.lt
    obtain ⟨m, k, h, h1, h2, h3, h4⟩ := h
    exact ⟨m, k, (List.getElem?_append_left hl).trans h, h1, h2, h3.app r, h4.app r⟩
section
variable {l : List Node}
-- as text
def tight (o : Int) : Bool := o == 5 || o == 6
def parB (c : Bool) (t : ByteArray) : ByteArray := if c = true then ⟨#[40]⟩ ++ t ++ ⟨#[41]⟩ else t
def sgB (o : Int) : ByteArray := if o = 3 then ⟨#[43]⟩ else if o = 4 then ⟨#[45]⟩ else if o = 5 then ⟨#[42]⟩ else ⟨#[47]⟩
def lpar (o c : Int) : Bool := decide (3 ≤ c) && (tight o && !tight c)
def rpar (o c : Int) : Bool := decide (3 ≤ c) && (tight o || !tight c)
def Fx.text : Fx → ByteArray
  | .num n => itoaB n
  | .ref s => s
  | .bin o a b => parB (lpar o a.op) a.text ++ sgB o ++ parB (rpar o b.op) b.text
theorem sgB_size (o : Int) : (sgB o).size = 1 := by
  unfold sgB
  repeat' split
  all_goals rfl
theorem nameBad_size {s : ByteArray} (h : nameBad s = false) : 1 ≤ s.size ∧ s.size ≤ 8 := by
  unfold nameBad at h
  simp only [Bool.or_eq_false_iff, decide_eq_false_iff_not] at h
  obtain ⟨h1, h2, _⟩ := h
  refine ⟨?_, by omega⟩
  rcases Nat.eq_zero_or_pos s.size with h0 | h0
  · exfalso
    apply h1
    obtain ⟨⟨a⟩⟩ := s
    have : a.length = 0 := h0
    rw [List.length_eq_zero_iff] at this
    subst this
    rfl
  · exact h0
theorem num_size {n : Int} (h : 0 ≤ n ∧ n ≤ 1000000) : 1 ≤ (itoaB n).size ∧ (itoaB n).size ≤ 7 := by
  rw [itoaB_size]
  unfold Lib.itoa
  rw [if_neg (by omega)]
  have h2 := dec_ne n.toNat
  refine ⟨?_, dec_len 6 n.toNat (by omega)⟩
  cases hd : Lib.decDigits n.toNat with
  | nil => exact absurd hd h2
  | cons c r => simp
-- what it comes to
def Fx.val (names : List ByteArray) (cells : List Cell) : Fx → Cell
  | .num n => cellOf n
  | .ref s => cells.getD (nmI names s).toNat ⟨0, 0⟩
  | .bin o a b => if o = 3 then cplus (a.val names cells) (b.val names cells) 1 else if o = 4 then cplus (a.val names cells) (b.val names cells) (-1) else if o = 5 then ctimes (a.val names cells) (b.val names cells) else cover (a.val names cells) (b.val names cells)
theorem val_eq (names : List ByteArray) (cells : List Cell) : ∀ (e : Fx) (i k : Nat), Tr l e i → e.Fine → i < k → k ≤ l.length → (evL l names cells k).getD i ⟨0, 0⟩ = e.val names cells
  | .num n, i, k, h, _, hk, hl => by rw [evL_at (show l[i]? = _ from h) k hk hl]; rfl
  | .ref n, i, k, h, _, hk, hl => by rw [evL_at (show l[i]? = _ from h) k hk hl]; rfl
  | .bin o a b, i, k, h, hf, hk, hl => by
    obtain ⟨m, n, h, h1, h2, h3, h4⟩ := h
    obtain ⟨g1, g2, g3, g4⟩ := hf
    rw [evL_at h k hk hl]
    unfold cellN
    simp only
    rw [if_neg (by omega), if_neg (by omega), Int.toNat_natCast, Int.toNat_natCast, val_eq names cells a m i h3 g3 h1 (by omega), val_eq names cells b n i h4 g4 h2 (by omega)]
    rfl

-- its nodes in a row
def Fx.po (n : Nat) : Fx → List Node
  | .num v => [⟨1, v, ⟨#[]⟩, 0, 0⟩]
  | .ref s => [⟨2, 0, s, 0, 0⟩]
  | .bin o a b => a.po n ++ b.po (n + a.sz) ++ [⟨o, 0, ⟨#[]⟩, ((n + a.sz - 1 : Nat) : Int), ((n + a.sz + b.sz - 1 : Nat) : Int)⟩]
theorem po_len : ∀ (e : Fx) (n : Nat), (e.po n).length = e.sz
  | .num _, _ => rfl
  | .ref _, _ => rfl
  | .bin o a b, n => by simp [Fx.po, Fx.sz, po_len a, po_len b, Nat.add_assoc]
theorem tr_po : ∀ (e : Fx) (out : List Node), Tr (out ++ e.po out.length) e (out.length + e.sz - 1)
  | .num v, out => by simp [Tr, Fx.po, Fx.sz]
  | .ref v, out => by simp [Tr, Fx.po, Fx.sz]
  | .bin o a b, out => by
    have h1 := tr_po a out
    have h2 := tr_po b (out ++ a.po out.length)
    have c1 := a.sz_pos
    have c2 := b.sz_pos
    rw [List.length_append, po_len] at h2
    refine ⟨out.length + a.sz - 1, out.length + a.sz + b.sz - 1, ?_, by simp only [Fx.sz]; omega, by simp only [Fx.sz]; omega, ?_, ?_⟩
    · simp only [Fx.po, Fx.sz, ← List.append_assoc]
      rw [List.getElem?_append_right (by simp only [List.length_append, po_len]; omega)]
      simp only [List.length_append, po_len]
      rw [show out.length + (a.sz + b.sz + 1) - 1 - (out.length + a.sz + b.sz) = 0 by omega]
      rfl
    · simp only [Fx.po, ← List.append_assoc]
      rw [List.append_assoc (out ++ a.po out.length)]
      exact h1.app _
    · simp only [Fx.po, ← List.append_assoc]
      exact h2.app _
end
end Ab
end

section
namespace Ab
open Go
set_option linter.unusedVariables false
set_option linter.unusedSimpArgs false

theorem node_po : ∀ (e : Fx) (n : Nat), e.Fine → ∀ (i : Nat) (x : Node), (e.po n)[i]? = some x → nodeE (n + i) x = 0
  | .num v, n, hf, i, x, h => by
    obtain ⟨h1, h2⟩ := hf
    cases i with
    | zero =>
      obtain rfl := Option.some.inj h
      simp [nodeE, show ¬ v < 0 by omega, show ¬ 1000000 < v by omega]
    | succ i => simp [Fx.po] at h
  | .ref v, n, hf, i, x, h => by
    have hf : nameBad v = false := hf
    cases i with
    | zero =>
      obtain rfl := Option.some.inj h
      simp [nodeE, hf]
    | succ i => simp [Fx.po] at h
  | .bin o a b, n, hf, i, x, h => by
    obtain ⟨g1, g2, g3, g4⟩ := hf
    have c1 := a.sz_pos
    have c2 := b.sz_pos
    simp only [Fx.po] at h
    by_cases hi : i < a.sz + b.sz
    · rw [List.getElem?_append_left (by simp only [List.length_append, po_len]; exact hi)] at h
      by_cases hj : i < a.sz
      · rw [List.getElem?_append_left (by rw [po_len]; exact hj)] at h
        exact node_po a n g3 i x h
      · rw [List.getElem?_append_right (by rw [po_len]; omega), po_len] at h
        have := node_po b (n + a.sz) g4 (i - a.sz) x h
        rw [show n + a.sz + (i - a.sz) = n + i by omega] at this
        exact this
    · rw [List.getElem?_append_right (by simp only [List.length_append, po_len]; omega)] at h
      simp only [List.length_append, po_len] at h
      have h0 : i - (a.sz + b.sz) = 0 := by
        have := (List.getElem?_eq_some_iff.1 h).1
        simp only [List.length_cons, List.length_nil] at this
        omega
      rw [h0] at h
      obtain rfl := Option.some.inj h
      unfold nodeE
      simp only
      rw [if_neg (by omega), if_neg (by omega), if_neg (by omega), if_neg (by omega), if_pos (by simp)]
theorem cnt_po : ∀ (e : Fx) (n j : Nat), e.Fine → cntP (e.po n) j = if n ≤ j ∧ j + 1 < n + e.sz then 1 else 0
  | .num v, n, j, hf => by
    rw [if_neg (by simp only [Fx.sz]; omega)]
    rfl
  | .ref v, n, j, hf => by
    rw [if_neg (by simp only [Fx.sz]; omega)]
    rfl
  | .bin o a b, n, j, hf => by
    obtain ⟨g1, g2, g3, g4⟩ := hf
    have c1 := a.sz_pos
    have c2 := b.sz_pos
    have hz : (Fx.bin o a b).sz = a.sz + b.sz + 1 := rfl
    simp only [Fx.po, cntP_app, cnt_po a n j g3, cnt_po b (n + a.sz) j g4]
    have e1 : cntP [⟨o, 0, ⟨#[]⟩, ((n + a.sz - 1 : Nat) : Int), ((n + a.sz + b.sz - 1 : Nat) : Int)⟩] j = (if j = n + a.sz - 1 then 1 else 0) + (if j = n + a.sz + b.sz - 1 then 1 else 0) := by
      simp only [cntP, List.map_cons, List.map_nil, List.sum_cons, List.sum_nil, Nat.add_zero, par]
      rw [if_pos g1]
      congr 1
      · by_cases h : j = n + a.sz - 1
        · rw [if_pos h, if_pos (by omega)]
        · rw [if_neg h, if_neg (by omega)]
      · by_cases h : j = n + a.sz + b.sz - 1
        · rw [if_pos h, if_pos (by omega)]
        · rw [if_neg h, if_neg (by omega)]
    rw [e1]
    by_cases d1 : j = n + a.sz - 1
    · rw [if_pos d1, if_neg (show ¬ j = n + a.sz + b.sz - 1 by omega), if_neg (by omega), if_neg (by omega), if_pos (by omega)]
    · rw [if_neg d1]
      by_cases d2 : j = n + a.sz + b.sz - 1
      · rw [if_pos d2, if_neg (by omega), if_neg (by omega), if_pos (by omega)]
      · rw [if_neg d2]
        by_cases d3 : n ≤ j ∧ j + 1 < n + a.sz
        · rw [if_pos d3, if_neg (by omega), if_pos (by omega)]
        · rw [if_neg d3]
          by_cases d4 : n + a.sz ≤ j ∧ j + 1 < n + a.sz + b.sz
          · rw [if_pos d4, if_pos (by omega)]
          · rw [if_neg d4, if_neg (by omega)]
theorem po_ok {e : Fx} (hf : e.Fine) (hs : e.sz ≤ 30) : FormOk (e.po 0) := by
  have hl := po_len e 0
  have hp := e.sz_pos
  have hn : ∀ (i : Nat) (x : Node), (e.po 0)[i]? = some x → nodeE i x = 0 := fun i x h => by
    have := node_po e 0 hf i x h
    rwa [Nat.zero_add] at this
  refine ⟨by omega, by omega, hn, fun i hi => ?_⟩
  rw [use_cnt0 hn (by omega) _ (Nat.le_refl _) i (by omega), List.take_length, cnt_po e 0 i hf, if_pos (by omega)]
  rfl
theorem po_tr (e : Fx) : Tr (e.po 0) e ((e.po 0).length - 1) := by
  have := tr_po e []
  rw [List.nil_append, List.length_nil, Nat.zero_add] at this
  rw [po_len]
  exact this
-- to whom it refers
def Fx.refs : Fx → List ByteArray
  | .num _ => []
  | .ref s => [s]
  | .bin _ a b => a.refs ++ b.refs
section
variable {l : List Node}
theorem ex_self {f i : Nat} {x : Node} (h : l[i]? = some x) (hf : i < f) : i ∈ exN l f i := by
  obtain ⟨f, rfl⟩ : ∃ g, f = g + 1 := ⟨f - 1, by omega⟩
  simp only [exN, h]
  split <;> simp
theorem ex_down (ok : FormOk l) : ∀ (f i k j : Nat) (x : Node), i < f → k ∈ exN l f i → l[k]? = some x → 1 ≤ par x j → j ∈ exN l f i
  | 0, _, _, _, _, h, _, _, _ => by omega
  | f + 1, i, k, j, x, hf, hk, hx, hp => by
    simp only [exN] at hk ⊢
    split at hk
    · cases hk
    · rename_i y hy
      have h3 : 3 ≤ x.op := by
        unfold par at hp
        split at hp
        · assumption
        · omega
      split at hk
      · rename_i hy3
        rw [if_pos hy3]
        obtain ⟨a1, a2, a3, a4, _⟩ := nodeE_two (ok.node i y hy) hy3
        have hi := (List.getElem?_eq_some_iff.1 hy).1
        rcases List.mem_append.1 hk with hk | hk
        · rcases List.mem_append.1 hk with hk | hk
          · exact List.mem_append.2 (.inl (List.mem_append.2 (.inl (ex_down ok f _ k j x (by omega) hk hx hp))))
          · exact List.mem_append.2 (.inl (List.mem_append.2 (.inr (ex_down ok f _ k j x (by omega) hk hx hp))))
        · obtain rfl := List.mem_singleton.1 hk
          obtain rfl : y = x := Option.some.inj (hy.symm.trans hx)
          unfold par at hp
          rw [if_pos h3] at hp
          by_cases c : y.left = (j : Int)
          · refine List.mem_append.2 (.inl (List.mem_append.2 (.inl ?_)))
            rw [c, Int.toNat_natCast]
            exact ex_self (List.getElem?_eq_getElem (by omega : j < l.length)) (by omega)
          · by_cases d : y.right = (j : Int)
            · refine List.mem_append.2 (.inl (List.mem_append.2 (.inr ?_)))
              rw [d, Int.toNat_natCast]
              exact ex_self (List.getElem?_eq_getElem (by omega : j < l.length)) (by omega)
            · rw [if_neg c, if_neg d] at hp
              omega
      · rename_i hy3
        obtain rfl := List.mem_singleton.1 hk
        obtain rfl : y = x := Option.some.inj (hy.symm.trans hx)
        exact absurd h3 hy3
theorem par_some {l : List Node} {j : Nat} (h : 1 ≤ cntP l j) : ∃ (k : Nat) (x : Node), l[k]? = some x ∧ 1 ≤ par x j := by
  induction l with
  | nil => simp [cntP] at h
  | cons y l ih =>
    by_cases c : 1 ≤ par y j
    · exact ⟨0, y, rfl, c⟩
    · have : 1 ≤ cntP l j := by
        simp only [cntP, List.map_cons, List.sum_cons] at h ⊢
        omega
      obtain ⟨k, x, h1, h2⟩ := ih this
      exact ⟨k + 1, x, h1, h2⟩
theorem par_lt (ok : FormOk l) {k j : Nat} {x : Node} (h : l[k]? = some x) (hp : 1 ≤ par x j) : j < k := by
  unfold par at hp
  split at hp
  · rename_i h3
    obtain ⟨a1, a2, a3, a4, _⟩ := nodeE_two (ok.node k x h) h3
    by_cases c : x.left = (j : Int)
    · omega
    · by_cases d : x.right = (j : Int)
      · omega
      · rw [if_neg c, if_neg d] at hp; omega
  · omega
/-- All nodes are in the tree. -/
theorem ex_all (ok : FormOk l) : ∀ (n j : Nat), l.length - j ≤ n → j < l.length → j ∈ exN l l.length (l.length - 1)
  | 0, j, h, hj => by omega
  | n + 1, j, h, hj => by
    by_cases c : j = l.length - 1
    · subst c
      exact ex_self (List.getElem?_eq_getElem hj) (by omega)
    · have := par_one ok (j := j) (by omega)
      obtain ⟨k, x, h1, h2⟩ := par_some (l := l) (j := j) (by omega)
      have hk := par_lt ok h1 h2
      have hl := (List.getElem?_eq_some_iff.1 h1).1
      exact ex_down ok _ _ k j x (by omega) (ex_all ok n k (by omega) hl) h1 h2
theorem ex_ref : ∀ (f : Nat) (e : Fx) (i : Nat), Tr l e i → e.Fine → i < f → ∀ j x, j ∈ exN l f i → l[j]? = some x → x.op = 2 → x.name ∈ e.refs
  | 0, _, _, _, _, h, _, _, _, _, _ => by omega
  | f + 1, .num n, i, h, hf, hi, j, x, hj, hx, h2 => by
    simp only [exN, show l[i]? = _ from h] at hj
    rw [if_neg (by decide)] at hj
    obtain rfl := List.mem_singleton.1 hj
    obtain rfl := Option.some.inj ((show l[j]? = _ from h).symm.trans hx)
    cases h2
  | f + 1, .ref n, i, h, hf, hi, j, x, hj, hx, h2 => by
    simp only [exN, show l[i]? = _ from h] at hj
    rw [if_neg (by decide)] at hj
    obtain rfl := List.mem_singleton.1 hj
    obtain rfl := Option.some.inj ((show l[j]? = _ from h).symm.trans hx)
    simp [Fx.refs]
  | f + 1, .bin o a b, i, h, hf, hi, j, x, hj, hx, h2 => by
    obtain ⟨m, k, h, h1, h2', h3, h4⟩ := h
    obtain ⟨g1, g2, g3, g4⟩ := hf
    simp only [exN, h] at hj
    rw [if_pos g1, Int.toNat_natCast, Int.toNat_natCast] at hj
    rcases List.mem_append.1 hj with hj | hj
    · rcases List.mem_append.1 hj with hj | hj
      · exact List.mem_append.2 (.inl (ex_ref f a m h3 g3 (by omega) j x hj hx h2))
      · exact List.mem_append.2 (.inr (ex_ref f b k h4 g4 (by omega) j x hj hx h2))
    · obtain rfl := List.mem_singleton.1 hj
      obtain rfl := Option.some.inj (h.symm.trans hx)
      have h2 : o = 2 := h2
      omega
theorem refs_in : ∀ (e : Fx) (i : Nat), Tr l e i → ∀ s ∈ e.refs, ∃ x ∈ l, x.op = 2 ∧ x.name = s
  | .num _, _, _, s, hs => by simp [Fx.refs] at hs
  | .ref v, i, h, s, hs => by
    obtain rfl := List.mem_singleton.1 hs
    exact ⟨_, List.mem_of_getElem? (show l[i]? = _ from h), rfl, rfl⟩
  | .bin o a b, i, h, s, hs => by
    obtain ⟨m, k, h, h1, h2', h3, h4⟩ := h
    rcases List.mem_append.1 hs with hs | hs
    · exact refs_in a m h3 s hs
    · exact refs_in b k h4 s hs
theorem refs_mem (ok : FormOk l) {e : Fx} (h : Tr l e (l.length - 1)) (hf : e.Fine) (s : ByteArray) : s ∈ refsOf l ↔ s ∈ e.refs := by
  rw [refsOf_mem]
  constructor
  · rintro ⟨x, hx, h2, rfl⟩
    obtain ⟨j, hj, rfl⟩ := List.getElem_of_mem hx
    exact ex_ref l.length e (l.length - 1) h hf (by have := ok.pos; omega) j _ (ex_all ok _ j (Nat.le_refl _) hj) (List.getElem?_eq_getElem hj) h2
  · exact refs_in e _ h s
end
end Ab
end
