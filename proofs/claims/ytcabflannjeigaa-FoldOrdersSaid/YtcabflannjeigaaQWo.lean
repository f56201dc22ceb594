/-
  Plain laws: folded in any order all cells come to what comes of all parts.
-/
import Derived.Test.YtcabflannjeigaaQFo
import Derived.Test.YtcabflannjeigaaC5
import Derived.Test.YtcabflannjeigaaQIn
namespace Ab
open Go
set_option linter.unusedVariables false
set_option linter.unusedSimpArgs false
set_option linter.unusedSectionVars false

/-! ### how a member counts in another one: 0, if it is no part of it -/
def wv (ms : List Member) (i k : Int) : Int := (wl ms i (path ms k)).getD 0
section
variable {ms : List Member} (h : Rooted ms)
include h
theorem wv_self {k : Nat} (hk : k < ms.length) : wv ms (k : Int) (k : Int) = 1 := by
  unfold wv
  rw [path_eq h (List.getElem?_eq_getElem hk)]
  simp [wl]
theorem wv_up {i : Int} {k : Nat} {m : Member} (hm : ms[k]? = some m) (hne : i ≠ (k : Int)) : wv ms i (k : Int) = m.sign * wv ms i m.parent := by
  have hs : sgn ms (k : Int) = m.sign := by simp only [sgn, Int.toNat_natCast, hm]
  unfold wv
  rw [path_eq h hm]
  simp only [wl]
  rw [if_neg (fun e => hne e.symm)]
  cases wl ms i (path ms m.parent) with
  | none => simp
  | some v => simp [hs]
omit h in
theorem wv_neg {i k : Int} (hk : k < 0) : wv ms i k = 0 := by
  unfold wv
  rw [path_neg hk]
  rfl
omit h in
theorem wl_none {i : Int} : ∀ {ys : List Int}, i ∉ ys → wl ms i ys = none
  | [], _ => rfl
  | y :: r, hy => by
    simp only [wl]
    rw [if_neg (fun e => hy (by simp [e])), wl_none (fun hm => hy (List.mem_cons_of_mem _ hm))]
    rfl
theorem wv_above {i : Int} {k : Nat} (hk : k < ms.length) (hi : (k : Int) < i) : wv ms i (k : Int) = 0 := by
  unfold wv
  rw [wl_none (fun hm => by have := path_mem h k k (Nat.le_refl _) hk i hm; omega)]
  rfl
theorem wv_in (i k : Int) : -1 ≤ wv ms i k ∧ wv ms i k ≤ 1 := by
  unfold wv
  cases hv : wl ms i (path ms k) with
  | none => simp
  | some v => simpa using wl_in h i _ v hv
theorem part_of {i x : Int} : x ∈ partsOf ms i ↔ ∃ (k : Nat) (m : Member), x = (k : Int) ∧ ms[k]? = some m ∧ m.parent = i := by
  unfold partsOf
  rw [mem_idxs]
  constructor
  · rintro ⟨k, e, hk, hp⟩
    unfold isPart at hp
    rw [List.getElem?_eq_getElem hk] at hp
    exact ⟨k, _, e, List.getElem?_eq_getElem hk, by simpa using hp⟩
  · rintro ⟨k, m, e, hm, hp⟩
    refine ⟨k, e, (List.getElem?_eq_some_iff.1 hm).1, ?_⟩
    unfold isPart
    rw [hm]
    simpa using hp
/-- The sum over parts. -/
def sumP (g : Int → Int) (ps : List Int) : Int := (ps.map g).sum
omit h in
theorem sumP_cons (g : Int → Int) (x : Int) (ps : List Int) : sumP g (x :: ps) = g x + sumP g ps := by simp [sumP]
omit h in
theorem sumP_zero {g : Int → Int} {ps : List Int} (hz : ∀ x ∈ ps, g x = 0) : sumP g ps = 0 := by
  induction ps with
  | nil => rfl
  | cons x r ih => rw [sumP_cons, hz x (by simp), ih fun y hy => hz y (List.mem_cons_of_mem _ hy)]; rfl
omit h in
theorem sumP_one {g : Int → Int} {ps : List Int} {k : Int} (hn : ps.Nodup) (hk : k ∈ ps) (hz : ∀ x ∈ ps, x ≠ k → g x = 0) : sumP g ps = g k := by
  induction ps with
  | nil => cases hk
  | cons x r ih =>
    rw [sumP_cons]
    have hn' := List.nodup_cons.1 hn
    by_cases e : x = k
    · subst e
      rw [sumP_zero fun y hy => hz y (List.mem_cons_of_mem _ hy) fun e => hn'.1 (e ▸ hy)]
      omega
    · rw [hz x (by simp) e, ih hn'.2 ((List.mem_cons.1 hk).resolve_left fun e2 => e e2.symm) fun y hy => hz y (List.mem_cons_of_mem _ hy)]
      omega
omit h in
theorem sumP_congr {g g' : Int → Int} {ps : List Int} (he : ∀ x ∈ ps, g x = g' x) : sumP g ps = sumP g' ps := by
  unfold sumP
  rw [List.map_congr_left he]
omit h in
theorem sumP_mul (c : Int) (g : Int → Int) (ps : List Int) : sumP (fun x => c * g x) ps = c * sumP g ps := by
  induction ps with
  | nil => simp [sumP]
  | cons x r ih => rw [sumP_cons, sumP_cons, ih, Int.mul_add]
omit h in
theorem idxs_nodup (p : Nat → Bool) (n : Nat) : (idxs p n).Nodup := by
  unfold idxs List.Nodup
  rw [List.pairwise_map]
  exact ((List.nodup_range (n := n)).filter p).imp fun h e => h (by omega)
theorem wv_parts : ∀ (k : Nat), k < ms.length → ∀ (i : Int), 0 ≤ i → i ≠ (k : Int) →
    wv ms i (k : Int) = sumP (fun x => sgn ms x * wv ms x (k : Int)) (partsOf ms i) ∧ (wv ms i (k : Int) ≠ 0 ↔ ∃ x ∈ partsOf ms i, sgn ms x ≠ 0 ∧ wv ms x (k : Int) ≠ 0) := by
  intro k
  induction k using Nat.strongRecOn with
  | ind k ih =>
    intro hk i hi hne
    have hm := List.getElem?_eq_getElem hk
    have hu := h.up _ _ hm
    have hsk : sgn ms (k : Int) = ms[k].sign := by simp only [sgn, Int.toNat_natCast, hm]
    rw [wv_up h hm hne]
    by_cases hp : ms[k].parent = i
    · obtain ⟨j, rfl⟩ := Int.eq_ofNat_of_zero_le hi
      have hj : j < ms.length := by omega
      have hmem : (k : Int) ∈ partsOf ms (j : Int) := (part_of h).2 ⟨k, _, rfl, hm, hp⟩
      have hz : ∀ x ∈ partsOf ms (j : Int), x ≠ (k : Int) → wv ms x (k : Int) = 0 := fun x hx hxk => by
        obtain ⟨k', m', rfl, hm', hp'⟩ := (part_of h).1 hx
        have hu' := h.up _ _ hm'
        rw [wv_up h hm hxk, hp, wv_above h hj (by omega), Int.mul_zero]
      rw [hp, wv_self h hj, Int.mul_one, sumP_one (ps := partsOf ms (j : Int)) (show (partsOf ms (j : Int)).Nodup from idxs_nodup _ _) hmem (fun x hx hxk => by rw [hz x hx hxk, Int.mul_zero]), wv_self h hk, hsk, Int.mul_one]
      refine ⟨rfl, fun h0 => ⟨_, hmem, by rw [hsk]; exact h0, by rw [wv_self h hk]; omega⟩, ?_⟩
      rintro ⟨x, hx, h1, h2⟩
      by_cases e : x = (k : Int)
      · subst e; rw [hsk] at h1; exact h1
      · exact absurd (hz x hx e) h2
    · have hx : ∀ x ∈ partsOf ms i, wv ms x (k : Int) = ms[k].sign * wv ms x ms[k].parent := fun x hx => by
        obtain ⟨k', m', rfl, hm', hp'⟩ := (part_of h).1 hx
        refine wv_up h hm fun e => hp ?_
        have : k' = k := by omega
        subst this
        rw [hm] at hm'
        cases hm'
        exact hp'
      by_cases hneg : ms[k].parent < 0
      · rw [wv_neg hneg, Int.mul_zero, sumP_zero (fun x hxm => by rw [hx x hxm, wv_neg hneg, Int.mul_zero, Int.mul_zero])]
        refine ⟨rfl, fun h0 => absurd rfl h0, ?_⟩
        rintro ⟨x, hxm, h1, h2⟩
        rw [hx x hxm, wv_neg hneg, Int.mul_zero] at h2
        exact absurd rfl h2
      · obtain ⟨q, hq⟩ := Int.eq_ofNat_of_zero_le (by omega : 0 ≤ ms[k].parent)
        rw [hq] at hx hp hu ⊢
        obtain ⟨i1, i2⟩ := ih q (by omega) (by omega) i hi (fun e => hp e.symm)
        constructor
        · rw [i1, ← sumP_mul]
          refine sumP_congr fun x hxm => ?_
          rw [hx x hxm, Int.mul_left_comm]
        · rw [Int.mul_ne_zero_iff, i2]
          constructor
          · rintro ⟨h0, x, hxm, h1, h2⟩
            exact ⟨x, hxm, h1, by rw [hx x hxm]; exact Int.mul_ne_zero h0 h2⟩
          · rintro ⟨x, hxm, h1, h2⟩
            rw [hx x hxm] at h2
            exact ⟨(Int.mul_ne_zero_iff.1 h2).1, x, hxm, h1, (Int.mul_ne_zero_iff.1 h2).2⟩
theorem wv_leaf {i : Int} {k : Nat} (hi : 0 ≤ i) (hk : k < ms.length) (hp : partsOf ms i = []) : wv ms i (k : Int) = if i = (k : Int) then 1 else 0 := by
  by_cases e : i = (k : Int)
  · rw [if_pos e, e, wv_self h hk]
  · rw [if_neg e, (wv_parts h k hk i hi e).1, hp]
    rfl
end

/-! ### how a place of leafs counts in a place: by the dims that are folded -/
def fac (b : Bool) (d : Dim) (m q : Int) : Int := if b = true then wv d.members m q else if m = q then 1 else 0
def wS (S : Nat → Bool) : Nat → List ((Int × Dim) × Int) → Int
  | _, [] => 1
  | i, x :: r => fac (S i) x.1.2 x.1.1 x.2 * wS S (i + 1) r
theorem fac_in {d : Dim} (h : Rooted d.members) (b : Bool) (m q : Int) : -1 ≤ fac b d m q ∧ fac b d m q ≤ 1 := by
  unfold fac
  split
  · exact wv_in h m q
  · split <;> omega
theorem wS_in (S : Nat → Bool) : ∀ (z : List ((Int × Dim) × Int)) (i : Nat), (∀ x ∈ z, Rooted x.1.2.members) → -1 ≤ wS S i z ∧ wS S i z ≤ 1
  | [], _, _ => by simp [wS]
  | x :: r, i, hz => mul_sgn (fac_in (hz x (by simp)) _ _ _) (wS_in S r (i + 1) fun y hy => hz y (List.mem_cons_of_mem _ hy))
theorem wS_congr {S T : Nat → Bool} : ∀ (z : List ((Int × Dim) × Int)) (i : Nat), (∀ j, i ≤ j → j < i + z.length → S j = T j) → wS S i z = wS T i z
  | [], _, _ => rfl
  | x :: r, i, h => by
    simp only [wS]
    rw [h i (Nat.le_refl _) (by simp), wS_congr r (i + 1) fun j h1 h2 => h j (by omega) (by simp only [List.length_cons]; omega)]
theorem wS_set : ∀ (o : List Dim) (p q : List Int) (dim i0 : Nat) (S : Nat → Bool) (d : Dim) (m : Int), p.length = o.length → q.length = o.length → o[dim]? = some d → q[dim]? = some m →
    ∃ R : Int, ∀ (k : Int) (T : Nat → Bool), (∀ i, i ≠ i0 + dim → T i = S i) → wS T i0 (zip3 o (p.set dim k) q) = R * fac (T (i0 + dim)) d k m
  | [], _, _, dim, _, _, _, _, _, _, h, _ => by simp at h
  | d0 :: o, [], _, _, _, _, _, _, h, _, _, _ => by simp at h
  | d0 :: o, x :: p, [], _, _, _, _, _, _, h, _, _ => by simp at h
  | d0 :: o, x :: p, y :: q, 0, i0, S, d, m, h1, h2, hd, hm => by
    simp at hd hm
    subst hd; subst hm
    refine ⟨wS S (i0 + 1) (zip3 o p q), fun k T hT => ?_⟩
    have e : zip3 (d0 :: o) ((x :: p).set 0 k) (y :: q) = ((k, d0), y) :: zip3 o p q := rfl
    rw [e]
    simp only [wS, Nat.add_zero]
    rw [wS_congr (S := T) (T := S) _ _ fun j h3 h4 => hT j (by omega), Int.mul_comm]
  | d0 :: o, x :: p, y :: q, dim + 1, i0, S, d, m, h1, h2, hd, hm => by
    simp only [List.getElem?_cons_succ] at hd hm
    obtain ⟨R, hR⟩ := wS_set o p q dim (i0 + 1) S d m (by simpa using h1) (by simpa using h2) hd hm
    refine ⟨fac (S i0) d0 x y * R, fun k T hT => ?_⟩
    have e : zip3 (d0 :: o) ((x :: p).set (dim + 1) k) (y :: q) = ((x, d0), y) :: zip3 o (p.set dim k) q := rfl
    rw [e]
    simp only [wS]
    rw [hR k T fun i hi => hT i (by omega), hT i0 (by omega), Int.mul_assoc, show i0 + 1 + dim = i0 + (dim + 1) from by omega]
theorem pw_all : ∀ (z : List ((Int × Dim) × Int)) (i : Nat), wS (fun _ => true) i z = (pwL z).getD 0
  | [], _ => rfl
  | x :: r, i => by
    simp only [wS, pwL, fac, if_true, wv]
    rw [pw_all r (i + 1)]
    cases wl x.1.2.members x.1.1 (path x.1.2.members x.2) with
    | none => simp
    | some v => cases pwL r with
      | none => simp
      | some u => simp

/-! ### cells that entries come to -/
def wE (S : Nat → Bool) (o : List Dim) (p : List Int) (e : Entry) : Int := wS S 0 (zip3 o p e.at_)
def sumE (f : Entry → Int) (l : List Entry) : Int := (l.map fun e => f e * e.n).sum
def anyE (f : Entry → Int) (l : List Entry) : Bool := l.any fun e => decide (f e ≠ 0)
def bI (b : Bool) : Int := match b with | true => 1 | false => 0
@[simp] theorem bI_t : bI true = 1 := rfl
@[simp] theorem bI_f : bI false = 0 := rfl
def cellE (f : Entry → Int) (l : List Entry) : Cell := ⟨bI (anyE f l), sumE f l⟩
theorem sumE_cons (f : Entry → Int) (e : Entry) (l : List Entry) : sumE f (e :: l) = f e * e.n + sumE f l := by simp [sumE]
theorem sumE_congr {f g : Entry → Int} {l : List Entry} (h : ∀ e ∈ l, f e = g e) : sumE f l = sumE g l := by
  unfold sumE
  rw [List.map_congr_left fun e he => by rw [h e he]]
theorem cellE_congr {f g : Entry → Int} {l : List Entry} (h : ∀ e ∈ l, f e = g e) : cellE f l = cellE g l := by
  have h1 : anyE f l = anyE g l := by
    unfold anyE
    rw [Bool.eq_iff_iff, List.any_eq_true, List.any_eq_true]
    constructor
    · rintro ⟨e, he, hd⟩; exact ⟨e, he, by rw [← h e he]; exact hd⟩
    · rintro ⟨e, he, hd⟩; exact ⟨e, he, by rw [h e he]; exact hd⟩
  unfold cellE
  rw [h1, sumE_congr h]
theorem sumE_zero {f : Entry → Int} {l : List Entry} (h : anyE f l = false) : sumE f l = 0 := by
  induction l with
  | nil => rfl
  | cons e l ih =>
    simp only [anyE, List.any_cons, Bool.or_eq_false_iff] at h
    have h0 : f e = 0 := by have := of_decide_eq_false h.1; omega
    rw [sumE_cons, h0, ih h.2]
    omega
theorem sumE_in {f : Entry → Int} {l : List Entry} (hf : ∀ e ∈ l, -1 ≤ f e ∧ f e ≤ 1) (hv : ∀ e ∈ l, valOk e.n = true) : -1000000 * (l.length : Int) ≤ sumE f l ∧ sumE f l ≤ 1000000 * (l.length : Int) := by
  induction l with
  | nil => simp [sumE]
  | cons e l ih =>
    have ih := ih (fun x hx => hf x (List.mem_cons_of_mem _ hx)) fun x hx => hv x (List.mem_cons_of_mem _ hx)
    have h1 := hf e (by simp)
    have h2 := hv e (by simp)
    simp only [valOk, Bool.and_eq_true, decide_eq_true_eq] at h2
    have h3 : -1000000 ≤ f e * e.n ∧ f e * e.n ≤ 1000000 := by
      rcases (by omega : f e = -1 ∨ f e = 0 ∨ f e = 1) with e1 | e1 | e1 <;> rw [e1] <;> omega
    rw [sumE_cons]
    simp only [List.length_cons]
    omega
theorem sumE_sum (g : Int → Entry → Int) (s : Int → Int) (ps : List Int) : ∀ (l : List Entry), sumE (fun e => sumP (fun x => s x * g x e) ps) l = sumP (fun x => s x * sumE (g x) l) ps
  | [] => by
    have : ∀ x, s x * sumE (g x) [] = 0 := fun x => by simp [sumE]
    rw [sumP_zero (fun x _ => this x)]
    rfl
  | e :: l => by
    rw [sumE_cons, sumE_sum g s ps l]
    clear sumE_sum
    induction ps with
    | nil => simp [sumP]
    | cons x r ih =>
      simp only [sumP_cons, sumE_cons]
      rw [Int.add_mul, Int.mul_add]
      have := ih
      rw [show s x * g x e * e.n = s x * (g x e * e.n) from Int.mul_assoc ..]
      simp only [sumE_cons] at this
      omega

section
variable {o : List Dim} {dim : Nat} {d : Dim} (ok : OutOk o) (hd : o[dim]? = some d)
include ok hd
/-- What parts come to, by the sums. -/
theorem comb_sum {cs : List Cell} {n : Nat} {l : List Entry} (g : Int → Entry → Int) (hl : l.length ≤ 20736) (hv : ∀ e ∈ l, valOk e.n = true) :
    ∀ (ps : List Int) (b : Bool) (t : Int), (∀ x ∈ ps, cs.getD (idxK o dim n x) ⟨0, 0⟩ = cellE (g x) l ∧ (∀ e ∈ l, -1 ≤ g x e ∧ g x e ≤ 1) ∧ -1 ≤ sgn d.members x ∧ sgn d.members x ≤ 1) →
      (b = false → t = 0) → ∀ c : Nat, c + ps.length ≤ 20 → -20736000000 * (c : Int) ≤ t → t ≤ 20736000000 * (c : Int) →
      ps.foldl (comb1 o dim d.members cs n) ⟨bI b, t⟩ = ⟨bI (b || ps.any fun x => decide (sgn d.members x ≠ 0) && anyE (g x) l), t + sumP (fun x => sgn d.members x * sumE (g x) l) ps⟩
  | [], b, t, _, _, c, _, _, _ => by simp [sumP]
  | x :: ps, b, t, hx, hb, c, hc, h1, h2 => by
    obtain ⟨hg, hf, s1, s2⟩ := hx x (by simp)
    obtain ⟨b1, b2⟩ := sumE_in hf hv
    have hin : -20736000000 ≤ sumE (g x) l ∧ sumE (g x) l ≤ 20736000000 := by omega
    have hsx : sgn d.members x = -1 ∨ sgn d.members x = 0 ∨ sgn d.members x = 1 := by omega
    have hse : -20736000000 ≤ sgn d.members x * sumE (g x) l ∧ sgn d.members x * sumE (g x) l ≤ 20736000000 := by
      rcases hsx with e | e | e <;> rw [e] <;> omega
    simp only [List.length_cons] at hc
    have step : comb1 o dim d.members cs n ⟨bI b, t⟩ x = ⟨bI (b || (decide (sgn d.members x ≠ 0) && anyE (g x) l)), t + sgn d.members x * sumE (g x) l⟩ := by
      unfold comb1
      by_cases e0 : sgn d.members x = 0
      · rw [if_pos e0, e0]
        simp
      · rw [if_neg e0, hg]
        unfold cplus cellE
        have k2 : ∀ a : Bool, ¬ bI a = 2 := by intro a; cases a <;> simp
        rw [if_neg (by simp only [k2, or_self, not_false_eq_true])]
        cases b with
        | false =>
          have ht := hb rfl
          subst ht
          cases ha : anyE (g x) l with
          | false => simp [sumE_zero ha]
          | true =>
            have hw : within (sgn d.members x * sumE (g x) l) = true := by unfold within; simp only [Bool.and_eq_true, decide_eq_true_eq]; omega
            simp only [Int.zero_add]
            rw [wiid (n := sgn d.members x * sumE (g x) l) (by omega) (by omega), wiid (by omega) (by omega)]
            simp [e0, cellOf, hw]
        | true =>
          have hw : within (t + sgn d.members x * sumE (g x) l) = true := by unfold within; simp only [Bool.and_eq_true, decide_eq_true_eq]; omega
          rw [wiid (n := sgn d.members x * sumE (g x) l) (by omega) (by omega)]
          show (if _ then _ else cellOf (wi (t + sgn d.members x * sumE (g x) l))) = _
          rw [wiid (by omega) (by omega)]
          simp [e0, cellOf, hw]
    rw [List.foldl_cons, step, comb_sum g hl hv ps _ _ (fun y hy => hx y (List.mem_cons_of_mem _ hy)) ?_ (c + 1) (by omega) (by omega) (by omega)]
    · simp only [List.any_cons, sumP_cons, Bool.or_assoc, Int.add_assoc]
    · intro hbf
      simp only [Bool.or_eq_false_iff, Bool.and_eq_false_iff] at hbf
      have ht := hb hbf.1
      rcases hbf.2 with h3 | h3
      · have : sgn d.members x = 0 := by have := of_decide_eq_false h3; omega
        rw [ht, this]; omega
      · rw [ht, sumE_zero h3]; omega

theorem fold_leaf (cs : List Cell) (n : Nat) (hn : partsOf d.members (memAt o dim n) = []) : (foldC o dim d.members cs)[n]? = cs[n]? := by
  unfold foldC
  generalize cs.length = z
  have : ∀ k, ((List.range k).foldl (fold1 o dim d.members z) cs)[n]? = cs[n]? := by
    intro k
    induction k with
    | zero => rfl
    | succ k ih =>
      rw [List.range_succ, List.foldl_append, List.foldl_cons, List.foldl_nil]
      generalize (List.range k).foldl (fold1 o dim d.members z) cs = c1 at ih ⊢
      unfold fold1
      split
      · exact ih
      · rename_i hp
        rw [stepC_get ok hd, if_neg (fun hh => hp (by rw [← hh.2.2]; exact hn)), ih]
  exact this _

/-- Cells that are folded by some dims. -/
def InvS (o : List Dim) (l : List Entry) (S : Nat → Bool) (cs : List Cell) : Prop := cs.length = sizeN o ∧ ∀ n, n < sizeN o → cs[n]? = some (cellE (wE S o (digs o n).1) l)
theorem leaf_parts {p : List Int} (hf : Fit o p) (hl : leafP o p = true) {q : Int} (hq : p[dim]? = some q) : 0 ≤ q ∧ q < d.members.length ∧ partsOf d.members q = [] := by
  have hr := hf.mem dim q d hq hd
  refine ⟨hr.1, hr.2, ?_⟩
  have hz : (p.zip o)[dim]? = some (q, d) := List.getElem?_zip_eq_some.2 ⟨hq, hd⟩
  have := List.all_eq_true.1 hl _ (List.mem_of_getElem? hz)
  unfold leafB at this
  obtain ⟨k, rfl⟩ := Int.eq_ofNat_of_zero_le hr.1
  simp only [Int.toNat_natCast] at this
  rw [List.getElem?_eq_getElem (by omega)] at this
  simp only [Bool.and_eq_true, decide_eq_true_eq] at this
  exact this.2
theorem fold_inv {l : List Entry} (eo : EntsOk o l) {S T : Nat → Bool} (hT : ∀ i, i ≠ dim → T i = S i) (hTd : T dim = true) {cs : List Cell} (hI : InvS o l S cs) : InvS o l T (foldC o dim d.members cs) := by
  obtain ⟨hlen, hcs⟩ := hI
  have hr := rooted_d ok hd
  have hdl : dim < o.length := (List.getElem?_eq_some_iff.1 hd).1
  have hp : ∀ d ∈ o, 0 < d.members.length := fun d hd => (ok.dims d hd).len.1
  have hfl := foldC_len ok hd cs
  refine ⟨by rw [hfl, hlen], ?_⟩
  -- what an entry counts
  have key : ∀ (n : Nat) (e : Entry), e ∈ l → ∃ (R q : Int), (0 ≤ q ∧ q < d.members.length ∧ partsOf d.members q = []) ∧ (∀ k, wE T o ((digs o n).1.set dim k) e = R * wv d.members k q) ∧ wE T o (digs o n).1 e = R * wv d.members (memAt o dim n) q ∧ wE S o (digs o n).1 e = R * fac (S dim) d (memAt o dim n) q := by
    intro n e he
    have hfe := eo.fit e he
    have hq : e.at_[dim]? = some (e.at_[dim]'(by rw [hfe.len]; exact hdl)) := List.getElem?_eq_getElem _
    have hl3 := leaf_parts ok hd hfe (eo.leaf e he) hq
    generalize e.at_[dim]'(by rw [hfe.len]; exact hdl) = q at hq hl3
    obtain ⟨R, hR⟩ := wS_set o (digs o n).1 e.at_ dim 0 S d q (digs_len o n) hfe.len hd hq
    simp only [Nat.zero_add] at hR
    have hset : (digs o n).1.set dim (memAt o dim n) = (digs o n).1 := by
      unfold memAt
      rw [List.getElem?_eq_getElem (by rw [digs_len]; exact hdl)]
      simp
    refine ⟨R, q, hl3, fun k => ?_, ?_, ?_⟩
    · unfold wE
      rw [hR k T hT, hTd]
      simp [fac]
    · unfold wE
      have := hR (memAt o dim n) T hT
      rw [hset] at this
      rw [this, hTd]
      simp [fac]
    · unfold wE
      have := hR (memAt o dim n) S (fun _ _ => rfl)
      rw [hset] at this
      exact this
  have hwin : ∀ (U : Nat → Bool) (p : List Int) (e : Entry), -1 ≤ wE U o p e ∧ wE U o p e ≤ 1 := fun U p e => wS_in U _ 0 fun x hx => by
    obtain ⟨i, hi⟩ := List.mem_iff_getElem?.1 hx
    have := (zip3_get hi).2.1
    exact (ok.dims _ (List.mem_of_getElem? this)).rooted
  have hmem : ∀ n, 0 ≤ memAt o dim n ∧ memAt o dim n < d.members.length := fun n => by
    have hl : dim < (digs o n).1.length := by rw [digs_len]; exact hdl
    have hg := List.getElem?_eq_getElem hl
    have := (digs_fit ok n).mem dim _ d hg hd
    unfold memAt
    rw [hg]
    exact this
  obtain ⟨_, hfix⟩ := fold_fix ok hd cs d.members.length (Nat.le_refl _)
  -- from the last member to the first one
  have all : ∀ (j n : Nat), n < sizeN o → d.members.length ≤ (memAt o dim n).toNat + j → (foldC o dim d.members cs)[n]? = some (cellE (wE T o (digs o n).1) l) := by
    intro j
    induction j with
    | zero =>
      intro n hn hj
      have := hmem n
      omega
    | succ j ih =>
      intro n hn hj
      obtain ⟨hm0, hm1⟩ := hmem n
      by_cases hps : partsOf d.members (memAt o dim n) = []
      · rw [fold_leaf ok hd cs n hps, hcs n hn]
        congr 1
        refine cellE_congr fun e he => ?_
        obtain ⟨R, q, ⟨q0, q1, _⟩, _, h2, h3⟩ := key n e he
        rw [h2, h3]
        obtain ⟨k, rfl⟩ := Int.eq_ofNat_of_zero_le q0
        rw [wv_leaf hr hm0 (by omega) hps]
        unfold fac
        split
        · rw [wv_leaf hr hm0 (by omega) hps]
        · rfl
      · obtain ⟨m, hm⟩ := Int.eq_ofNat_of_zero_le hm0
        have hfx := hfix m (by omega) (by omega) (by rw [← hm]; exact hps) n (by show n < (foldC o dim d.members cs).length; rw [hfl, hlen]; exact hn) hm
        have hfx : (foldC o dim d.members cs)[n]? = some (combC o dim d.members (foldC o dim d.members cs) n (partsOf d.members m)) := hfx
        have hget : ∀ x ∈ partsOf d.members (m : Int), (foldC o dim d.members cs).getD (idxK o dim n x) ⟨0, 0⟩ = cellE (wE T o ((digs o n).1.set dim x)) l ∧ (∀ e ∈ l, -1 ≤ wE T o ((digs o n).1.set dim x) e ∧ wE T o ((digs o n).1.set dim x) e ≤ 1) ∧ -1 ≤ sgn d.members x ∧ sgn d.members x ≤ 1 := fun x hx => by
          obtain ⟨x1, x2, x3⟩ := parts_up hr hx
          have hlt := idxK_lt ok hd n x2 x3
          have hmm := idxK_mem ok hd n x2 x3
          have hdg : (digs o (idxK o dim n x)).1 = (digs o n).1.set dim x := by unfold idxK; rw [num_digs hp (set_fit ok hd n x2 x3)]
          refine ⟨?_, fun e _ => hwin _ _ _, sgn_in hr x⟩
          rw [List.getD_eq_getElem?_getD, ih _ hlt (by rw [hmm]; omega), hdg]
          rfl
        have hcmb := comb_sum ok hd (cs := foldC o dim d.members cs) (n := n) (l := l) (fun x => wE T o ((digs o n).1.set dim x)) eo.len eo.val (partsOf d.members m) false 0 hget (fun _ => rfl) 0 (by
          have := idxs_len (isPart d.members m) d.members.length
          have := (ok.dims d (List.mem_of_getElem? hd)).len.2
          unfold partsOf
          omega) (by omega) (by omega)
        rw [hfx]
        congr 1
        unfold combC
        refine hcmb.trans ?_
        have hpt : ∀ e ∈ l, wE T o (digs o n).1 e = sumP (fun x => sgn d.members x * wE T o ((digs o n).1.set dim x) e) (partsOf d.members m) ∧ (wE T o (digs o n).1 e ≠ 0 ↔ ∃ x ∈ partsOf d.members m, sgn d.members x ≠ 0 ∧ wE T o ((digs o n).1.set dim x) e ≠ 0) := fun e he => by
          obtain ⟨R, q, ⟨q0, q1, q2⟩, h1, h2, _⟩ := key n e he
          have hne : (m : Int) ≠ q := fun e => hps (by rw [hm, e]; exact q2)
          obtain ⟨k, rfl⟩ := Int.eq_ofNat_of_zero_le q0
          obtain ⟨w1, w2⟩ := wv_parts hr k (by omega) (m : Int) (by omega) hne
          rw [h2, hm]
          constructor
          · rw [w1, ← sumP_mul]
            refine sumP_congr fun x hx => ?_
            rw [h1 x, Int.mul_left_comm]
          · rw [Int.mul_ne_zero_iff, w2]
            constructor
            · rintro ⟨hR, x, hx, h3, h4⟩
              exact ⟨x, hx, h3, by rw [h1 x]; exact Int.mul_ne_zero hR h4⟩
            · rintro ⟨x, hx, h3, h4⟩
              rw [h1 x] at h4
              exact ⟨(Int.mul_ne_zero_iff.1 h4).1, x, hx, h3, (Int.mul_ne_zero_iff.1 h4).2⟩
        have hsum : sumE (wE T o (digs o n).1) l = sumP (fun x => sgn d.members x * sumE (wE T o ((digs o n).1.set dim x)) l) (partsOf d.members m) := by
          rw [← sumE_sum]
          exact sumE_congr fun e he => (hpt e he).1
        have hany : anyE (wE T o (digs o n).1) l = (partsOf d.members m).any fun x => decide (sgn d.members x ≠ 0) && anyE (wE T o ((digs o n).1.set dim x)) l := by
          rw [Bool.eq_iff_iff]
          simp only [anyE, List.any_eq_true, decide_eq_true_eq, Bool.and_eq_true]
          constructor
          · rintro ⟨e, he, h1⟩
            obtain ⟨x, hx, h2, h3⟩ := (hpt e he).2.1 h1
            exact ⟨x, hx, h2, e, he, h3⟩
          · rintro ⟨x, hx, h2, e, he, h3⟩
            exact ⟨e, he, (hpt e he).2.2 ⟨x, hx, h2, h3⟩⟩
        unfold cellE
        rw [hsum, hany, Int.zero_add, Bool.false_or]
  intro n hn
  exact all d.members.length n hn (by omega)
end

/-! ### all dims, in any order -/
theorem wS_none : ∀ (o : List Dim) (p q : List Int) (i : Nat), p.length = o.length → q.length = o.length → wS (fun _ => false) i (zip3 o p q) = if p = q then 1 else 0
  | [], [], [], _, _, _ => rfl
  | [], _ :: _, _, _, h, _ => by simp at h
  | [], [], _ :: _, _, _, h => by simp at h
  | _ :: _, [], _, _, h, _ => by simp at h
  | _ :: _, _ :: _, [], _, _, h => by simp at h
  | d :: o, x :: p, y :: q, i, h1, h2 => by
    have e : zip3 (d :: o) (x :: p) (y :: q) = ((x, d), y) :: zip3 o p q := rfl
    rw [e]
    simp only [wS, fac]
    rw [wS_none o p q (i + 1) (by simpa using h1) (by simpa using h2)]
    by_cases c1 : x = y
    · by_cases c2 : p = q
      · simp [c1, c2]
      · simp [c1, c2]
    · simp [c1]
theorem cell_one (f : Entry → Int) : ∀ (l : List Entry) (p : List Int), Ris l → (∀ e ∈ l, valOk e.n = true) → (∀ e ∈ l, f e = if p = e.at_ then 1 else 0) →
    cellE f l = match l.find? (fun e => decide (e.at_ = p)) with | some e => cellOf e.n | none => ⟨0, 0⟩
  | [], p, _, _, _ => rfl
  | e :: l, p, hr, hv, hf => by
    have hr' := List.pairwise_cons.1 hr
    have ih := cell_one f l p hr'.2 (fun x hx => hv x (List.mem_cons_of_mem _ hx)) fun x hx => hf x (List.mem_cons_of_mem _ hx)
    have h0 := hf e (by simp)
    by_cases c : e.at_ = p
    · have hz : ∀ x ∈ l, f x = 0 := fun x hx => by
        rw [hf x (List.mem_cons_of_mem _ hx), if_neg]
        intro e2
        have := hr'.1 x hx
        rw [c, e2, cmpL_self] at this
        omega
      have ha : anyE f l = false := by
        unfold anyE
        rw [List.any_eq_false]
        intro x hx
        simp [hz x hx]
      rw [if_pos c.symm] at h0
      have hw := hv e (by simp)
      have hw : within e.n = true := by
        unfold valOk at hw
        unfold within
        simp only [Bool.and_eq_true, decide_eq_true_eq] at hw ⊢
        omega
      simp only [List.find?_cons, c, decide_true]
      unfold cellE cellOf
      rw [sumE_cons, h0, sumE_zero ha, if_pos hw]
      simp [anyE, h0]
    · rw [if_neg (fun e2 => c e2.symm)] at h0
      simp only [List.find?_cons, c, decide_false]
      rw [← ih]
      unfold cellE
      rw [sumE_cons, h0]
      simp [anyE, h0]
theorem write_find {o : List Dim} (ok : OutOk o) : ∀ (l : List Entry) (cs : List Cell) (i : Nat), Ris l → (∀ e ∈ l, Fit o e.at_) → i < sizeN o → cs.length = sizeN o →
    (l.foldl (write1 o) cs)[i]? = match l.find? (fun e => decide (e.at_ = (digs o i).1)) with | some e => some (cellOf e.n) | none => cs[i]?
  | [], cs, i, _, _, _, _ => rfl
  | e :: l, cs, i, hr, hf, hi, hc => by
    have hp : ∀ d ∈ o, 0 < d.members.length := fun d hd => (ok.dims d hd).len.1
    have hr' := List.pairwise_cons.1 hr
    have hfe := hf e (by simp)
    rw [List.foldl_cons, write_find ok l _ i hr'.2 (fun x hx => hf x (List.mem_cons_of_mem _ hx)) hi (by simp [write1, hc])]
    by_cases c : e.at_ = (digs o i).1
    · have hn : l.find? (fun e => decide (e.at_ = (digs o i).1)) = none := by
        rw [List.find?_eq_none]
        intro x hx
        have := hr'.1 x hx
        simp only [decide_eq_true_eq]
        intro e2
        rw [c, e2, cmpL_self] at this
        omega
      have hk : numN o e.at_ = i := by rw [c, digs_num hp hi]
      rw [hn]
      simp only [List.find?_cons, c, decide_true]
      unfold write1
      rw [hk, List.getElem?_set_self (by omega)]
    · have hk : numN o e.at_ ≠ i := fun h => c (by rw [← h, num_digs hp hfe])
      simp only [List.find?_cons, c, decide_false]
      unfold write1
      rw [List.getElem?_set_ne hk]
theorem write_inv {o : List Dim} {l : List Entry} (eo : EntsOk o l) : InvS o l (fun _ => false) (writeC o l) := by
  refine ⟨writeC_len o l, fun n hn => ?_⟩
  unfold writeC
  rw [write_find eo.out l _ n eo.ris eo.fit hn (by simp), cell_one (wE (fun _ => false) o (digs o n).1) l (digs o n).1 eo.ris eo.val fun e he => wS_none o _ _ 0 (digs_len o n) (eo.fit e he).len]
  cases l.find? (fun e => decide (e.at_ = (digs o n).1)) with
  | some e => rfl
  | none => simp [hn]
theorem roll_cell {o : List Dim} {p : List Int} {l : List Entry} (hr : ∀ e ∈ l, ∀ x ∈ zip3 o p e.at_, Rooted x.1.2.members) (hv : ∀ e ∈ l, valOk e.n = true) : ∀ (b : Bool) (t : Int) (c : Nat), c + l.length ≤ 30000 → -1000000 * (c : Int) ≤ t → t ≤ 1000000 * (c : Int) →
    l.foldl (addE o p) (bI b, t) = (bI (b || anyE (wE (fun _ => true) o p) l), t + sumE (wE (fun _ => true) o p) l) := by
  induction l with
  | nil => intro b t c _ _ _; simp [anyE, sumE]
  | cons e l ih =>
    intro b t c hc h1 h2
    have hw : wE (fun _ => true) o p e = (pwL (zip3 o p e.at_)).getD 0 := pw_all _ 0
    have hin : -1 ≤ wE (fun _ => true) o p e ∧ wE (fun _ => true) o p e ≤ 1 := wS_in _ _ 0 (hr e (by simp))
    have hn := hv e (by simp)
    simp only [valOk, Bool.and_eq_true, decide_eq_true_eq] at hn
    have h3 : -1000000 ≤ wE (fun _ => true) o p e * e.n ∧ wE (fun _ => true) o p e * e.n ≤ 1000000 := by
      rcases (by omega : wE (fun _ => true) o p e = -1 ∨ wE (fun _ => true) o p e = 0 ∨ wE (fun _ => true) o p e = 1) with e1 | e1 | e1 <;> rw [e1] <;> omega
    simp only [List.length_cons] at hc
    have step : addE o p (bI b, t) e = (bI (b || decide (wE (fun _ => true) o p e ≠ 0)), t + wE (fun _ => true) o p e * e.n) := by
      unfold addE
      rw [hw] at h3 ⊢
      cases hpw : pwL (zip3 o p e.at_) with
      | none => simp
      | some w =>
        rw [hpw] at h3
        simp only [Option.getD_some] at h3 ⊢
        by_cases w0 : w = 0
        · simp [w0]
        · rw [wiid (n := w * e.n) (by omega) (by omega), wiid (by omega) (by omega)]
          simp [w0]
    rw [List.foldl_cons, step, ih (fun x hx => hr x (List.mem_cons_of_mem _ hx)) (fun x hx => hv x (List.mem_cons_of_mem _ hx)) _ _ (c + 1) (by omega) (by omega) (by omega), sumE_cons]
    simp only [anyE, List.any_cons, Bool.or_assoc, Int.add_assoc]
theorem roll_eq {o : List Dim} {p : List Int} {l : List Entry} (eo : EntsOk o l) : (⟨(rollV o l p).1, (rollV o l p).2⟩ : Cell) = cellE (wE (fun _ => true) o p) l := by
  have := roll_cell (o := o) (p := p) (l := l) (fun e he x hx => by
    obtain ⟨i, hi⟩ := List.mem_iff_getElem?.1 hx
    exact (eo.out.dims _ (List.mem_of_getElem? (zip3_get hi).2.1)).rooted) eo.val false 0 0 (by have := eo.len; omega) (by omega) (by omega)
  unfold rollV
  have e0 : ((bI false, 0) : Int × Int) = (0, 0) := rfl
  rw [← e0, this]
  simp [cellE]
end Ab
