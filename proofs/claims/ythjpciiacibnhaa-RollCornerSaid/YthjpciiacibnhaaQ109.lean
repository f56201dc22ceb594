/-
  Plain law: RollCorner answers true.
-/
import Derived.Test.YthjpciiacibnhaaW109
import Derived.Test.YthjpciiacibnhaaQAl
import Derived.Test.YthjpciiacibnhaaQF
import Derived.Test.YthjpciiacibnhaaQC
namespace Ab
open Go
set_option linter.unusedVariables false
set_option linter.unusedSimpArgs false

/-! ### a square -/
theorem sq_wl : (List.range 9).all (fun n => (List.range (n + 1)).all fun a => (List.range n).all fun c =>
    decide (wl (flatD ⟨#[120]⟩ n).members (a : Int) (path (flatD ⟨#[120]⟩ n).members ((c + 1 : Nat) : Int)) = if a = 0 ∨ a = c + 1 then some 1 else none) && leafB (flatD ⟨#[120]⟩ n).members (c + 1)) = true := by decide +kernel
theorem sq_ents : (List.range 9).all (fun n => n == 0 || decide (entsE (squareO n) [] = 0)) = true := by decide +kernel
theorem sq_mem (nm : ByteArray) (n : Nat) : (flatD nm n).members = (flatD ⟨#[120]⟩ n).members := rfl
theorem sq_len (nm : ByteArray) (n : Nat) : (flatD nm n).members.length = n + 1 := by simp [flatD]
def In2 (a b : Nat) (e : Entry) : Bool := (decide (a = 0) || decide (e.at_[0]? = some ((a : Nat) : Int))) && (decide (b = 0) || decide (e.at_[1]? = some ((b : Nat) : Int)))
theorem sq_pw {n a b c d : Nat} (hn : n < 9) (ha : a ≤ n) (hb : b ≤ n) (hc : c < n) (hd : d < n) (v : Int) :
    pwL (zip3 (squareO n) [(a : Int), (b : Int)] [((c + 1 : Nat) : Int), ((d + 1 : Nat) : Int)]) = if In2 a b ⟨[((c + 1 : Nat) : Int), ((d + 1 : Nat) : Int)], v⟩ = true then some 1 else none := by
  have h1 := List.all_eq_true.1 (List.all_eq_true.1 (List.all_eq_true.1 sq_wl n (List.mem_range.2 hn)) a (List.mem_range.2 (by omega))) c (List.mem_range.2 hc)
  have h2 := List.all_eq_true.1 (List.all_eq_true.1 (List.all_eq_true.1 sq_wl n (List.mem_range.2 hn)) b (List.mem_range.2 (by omega))) d (List.mem_range.2 hd)
  simp only [Bool.and_eq_true, decide_eq_true_eq] at h1 h2
  have e1 : zip3 (squareO n) [(a : Int), (b : Int)] [((c + 1 : Nat) : Int), ((d + 1 : Nat) : Int)] = [(((a : Int), flatD ⟨#[120]⟩ n), ((c + 1 : Nat) : Int)), (((b : Int), flatD ⟨#[121]⟩ n), ((d + 1 : Nat) : Int))] := rfl
  rw [e1]
  simp only [pwL, sq_mem ⟨#[121]⟩ n, h1.1, h2.1]
  have k1 : (decide (a = 0) || decide ((((c + 1 : Nat) : Int)) = ((a : Nat) : Int))) = decide (a = 0 ∨ a = c + 1) := by
    by_cases x : a = 0
    · simp [x]
    · by_cases y : a = c + 1
      · simp [y]
      · have : ¬ (((c + 1 : Nat) : Int)) = ((a : Nat) : Int) := by omega
        simp only [x, y, this]; rfl
  have k2 : (decide (b = 0) || decide ((((d + 1 : Nat) : Int)) = ((b : Nat) : Int))) = decide (b = 0 ∨ b = d + 1) := by
    by_cases x : b = 0
    · simp [x]
    · by_cases y : b = d + 1
      · simp [y]
      · have : ¬ (((d + 1 : Nat) : Int)) = ((b : Nat) : Int) := by omega
        simp only [x, y, this]; rfl
  have e2 : In2 a b ⟨[((c + 1 : Nat) : Int), ((d + 1 : Nat) : Int)], v⟩ = (decide (a = 0 ∨ a = c + 1) && decide (b = 0 ∨ b = d + 1)) := by
    rw [← k1, ← k2]
    simp [In2]
  rw [e2]
  by_cases x : a = 0 ∨ a = c + 1
  · by_cases y : b = 0 ∨ b = d + 1
    · simp [x, y]
    · simp [x, y]
  · simp [x]

/-! ### what comes together -/
def sumF (f : Entry → Bool) : List Entry → Int
  | [] => 0
  | e :: l => (if f e = true then e.n else 0) + sumF f l
theorem sumF_abs {f : Entry → Bool} : ∀ {l : List Entry}, (∀ e ∈ l, -1000000 ≤ e.n ∧ e.n ≤ 1000000) → -(1000000 * (l.length : Int)) ≤ sumF f l ∧ sumF f l ≤ 1000000 * (l.length : Int)
  | [], _ => by simp [sumF]
  | e :: l, h => by
    have ih := sumF_abs (f := f) (l := l) fun x hx => h x (List.mem_cons_of_mem _ hx)
    have he := h e List.mem_cons_self
    simp only [sumF, List.length_cons]
    split <;> constructor <;> omega
def cellF (f : Entry → Bool) (l : List Entry) : Cell := ⟨if l.any f = true then 1 else 0, sumF f l⟩
theorem roll_sum {o : List Dim} {p : List Int} {f : Entry → Bool} (l : List Entry) : ∀ (c : Int × Int), (∀ e ∈ l, pwL (zip3 o p e.at_) = if f e = true then some 1 else none) → (∀ e ∈ l, -1000000 ≤ e.n ∧ e.n ≤ 1000000) →
    -1000000000000 + 1000000 * (l.length : Int) ≤ c.2 → c.2 + 1000000 * (l.length : Int) ≤ 1000000000000 → l.foldl (addE o p) c = (if l.any f = true then 1 else c.1, c.2 + sumF f l) := by
  induction l with
  | nil => intro c _ _ _ _; simp [sumF]
  | cons e l ih =>
    intro c h hv h1 h2
    simp only [List.length_cons] at h1 h2
    have he := hv e List.mem_cons_self
    have hp := h e List.mem_cons_self
    have hadd : addE o p c e = if f e = true then (1, c.2 + e.n) else c := by
      unfold addE
      rw [hp]
      cases hf : f e with
      | true =>
        simp only [if_true]
        rw [if_neg (by omega), Int.one_mul, wiid (n := e.n) (by omega) (by omega), wiid (by omega) (by omega)]
      | false => simp
    simp only [List.foldl_cons, hadd, sumF, List.any_cons]
    by_cases hf : f e = true
    · rw [if_pos hf, ih _ (fun x hx => h x (List.mem_cons_of_mem _ hx)) (fun x hx => hv x (List.mem_cons_of_mem _ hx)) (by simp only; omega) (by simp only; omega)]
      simp [hf, Int.add_assoc]
    · rw [if_neg hf, ih _ (fun x hx => h x (List.mem_cons_of_mem _ hx)) (fun x hx => hv x (List.mem_cons_of_mem _ hx)) (by omega) (by omega)]
      simp [hf]
theorem cell_add {f g h : Entry → Bool} {l : List Entry} (hl : l.length ≤ 60) (hv : ∀ e ∈ l, -1000000 ≤ e.n ∧ e.n ≤ 1000000) (hfg : ∀ e, h e = (f e || g e)) (hd : ∀ e, f e = true → g e = true → False) : P9 (cellF f l) (cellF g l) = some (cellF h l, .nil) := by
  have bf := sumF_abs (f := f) hv
  have bg := sumF_abs (f := g) hv
  have hs : sumF h l = sumF f l + sumF g l := by
    clear bf bg hv hl
    induction l with
    | nil => rfl
    | cons e l ih =>
      simp only [sumF, ih, hfg]
      have := hd e
      cases hf : f e <;> cases hg : g e <;> simp_all <;> omega
  have hz : ∀ {k : Entry → Bool}, l.any k = false → sumF k l = 0 := by
    intro k hk
    clear bf bg hv hl hs
    induction l with
    | nil => rfl
    | cons e l ih =>
      simp only [List.any_cons, Bool.or_eq_false_iff] at hk
      simp [sumF, hk.1, ih hk.2]
  have ha : l.any h = (l.any f || l.any g) := by
    clear bf bg hv hl hs hz
    induction l with
    | nil => rfl
    | cons e l ih =>
      simp only [List.any_cons, ih, hfg]
      cases f e <;> cases g e <;> cases l.any f <;> cases l.any g <;> rfl
  have ok : ∀ k : Entry → Bool, ¬ badC (cellF k l) := by
    intro k
    have bk := sumF_abs (f := k) hv
    have hw : within (sumF k l) = true := by simp only [within, Bool.and_eq_true, decide_eq_true_eq]; omega
    simp only [badC, cellF, hw]
    cases hk : l.any k with
    | true => simp
    | false => simp [hz hk]
  rw [P9_eq, cboth, if_neg (by simp [ok f, ok g])]
  congr 2
  unfold cplus
  have n2 : ∀ k : Entry → Bool, ¬ (cellF k l).k = 2 := fun k => by unfold cellF; simp only; split <;> omega
  rw [if_neg (by simp [n2 f, n2 g])]
  by_cases h0 : (cellF f l).k = 0 ∧ (cellF g l).k = 0
  · rw [if_pos h0]
    have f0 : l.any f = false := by have := h0.1; simp only [cellF] at this; cases hq : l.any f with | true => simp [hq] at this | false => rfl
    have g0 : l.any g = false := by have := h0.2; simp only [cellF] at this; cases hq : l.any g with | true => simp [hq] at this | false => rfl
    simp [cellF, ha, f0, g0, hs, hz f0, hz g0]
  · rw [if_neg h0]
    have h1 : (l.any f || l.any g) = true := by
      cases hq : l.any f with
      | true => rfl
      | false =>
        cases hq2 : l.any g with
        | true => rfl
        | false => exact absurd ⟨by simp [cellF, hq], by simp [cellF, hq2]⟩ h0
    have hn : wi ((cellF f l).n + wi (1 * (cellF g l).n)) = sumF h l := by
      simp only [cellF, Int.one_mul]
      rw [wiid (n := sumF g l) (by omega) (by omega), wiid (by omega) (by omega), hs]
    rw [hn]
    have bh := sumF_abs (f := h) hv
    have hw : within (sumF h l) = true := by simp only [within, Bool.and_eq_true, decide_eq_true_eq]; omega
    simp [cellOf, hw, cellF, ha, h1]

/-! ### what is written -/
def plC (n i : Nat) : List Int := [((i / n + 1 : Nat) : Int), ((i % n + 1 : Nat) : Int)]
def edC (n : Nat) (l : List Int) (i : Nat) : Edit := ⟨plC n i, l.getD i 0, false⟩
def xsC (n : Nat) (l : List Int) (k : Nat) : List Edit := (List.range k).map (edC n l)
def ysC (n : Nat) (l : List Int) (k : Nat) : List Entry := (List.range k).map fun i => ⟨plC n i, l.getD i 0⟩
def smC (l : List Int) (k : Nat) : Int := sumF (fun _ => true) (ysC 1 l k)
theorem put_last {p : List Int} {v : Int} : ∀ {l : List Entry}, (∀ e ∈ l, cmpL e.at_ p < 0) → putL l p v = l ++ [⟨p, v⟩]
  | [], _ => rfl
  | e :: l, h => by simp only [putL, h e List.mem_cons_self, if_true, put_last fun x hx => h x (List.mem_cons_of_mem _ hx)]; rfl
theorem pl_lt {n i j : Nat} (h : j < i) : cmpL (plC n j) (plC n i) < 0 := by
  have h1 : j / n ≤ i / n := Nat.div_le_div_right (by omega)
  have e1 := Nat.div_add_mod j n
  have e2 := Nat.div_add_mod i n
  simp only [plC, cmpL]
  generalize j / n = a at *
  generalize i / n = b at *
  generalize j % n = r at *
  generalize i % n = s at *
  by_cases c : a < b
  · rw [if_pos (by omega)]
    decide
  · have e3 : a = b := by omega
    subst e3
    generalize n * a = y at e1 e2
    rw [if_neg (by omega), if_neg (by omega), if_pos (by omega)]
    decide
theorem fits2 {n : Nat} {x y : Int} (h1 : 0 ≤ x ∧ x < (n : Int) + 1) (h2 : 0 ≤ y ∧ y < (n : Int) + 1) : fitsE (squareO n) [x, y] = 0 := by
  have b1 : badM (x, flatD ⟨#[120]⟩ n) = false := by
    simp only [badM, sq_len, Bool.or_eq_false_iff, decide_eq_false_iff_not]; omega
  have b2 : badM (y, flatD ⟨#[121]⟩ n) = false := by
    simp only [badM, sq_len, Bool.or_eq_false_iff, decide_eq_false_iff_not]; omega
  simp [fitsE, squareO, b1, b2]
structure Fine (n k : Nat) (l : List Int) : Prop where
  n1 : 1 ≤ n
  n8 : n ≤ 8
  len : k ≤ l.length
  sq : k ≤ n * n
  k60 : k ≤ 60
  val : ∀ i, i < k → -1000000 ≤ l.getD i 0 ∧ l.getD i 0 ≤ 1000000
theorem Fine.lt {n k : Nat} {l : List Int} (h : Fine n k l) {i : Nat} (hi : i < k) : i / n < n ∧ i % n < n :=
  ⟨Nat.div_lt_of_lt_mul (Nat.lt_of_lt_of_le hi h.sq), Nat.mod_lt _ h.n1⟩
theorem ys_len (n k : Nat) (l : List Int) : (ysC n l k).length = k := by simp [ysC]
theorem ys_mem {n k : Nat} {l : List Int} {e : Entry} (he : e ∈ ysC n l k) : ∃ i, i < k ∧ e = ⟨plC n i, l.getD i 0⟩ := by
  obtain ⟨i, hi, rfl⟩ := List.mem_map.1 he
  exact ⟨i, List.mem_range.1 hi, rfl⟩
theorem do_sq {n k i : Nat} {l : List Int} (h : Fine n k l) (hi : i < k) : doL (squareO n) (ysC n l i) (edC n l i) = (ysC n l (i + 1), 0) := by
  obtain ⟨h1, h2⟩ := h.lt hi
  have hv := h.val i hi
  have hf : fitsE (squareO n) (plC n i) = 0 := by
    unfold plC
    generalize i / n = q at h1
    generalize i % n = r at h2
    exact fits2 (by omega) (by omega)
  have lf : ∀ c, c < n → leafB (flatD ⟨#[120]⟩ n).members (c + 1) = true := fun c hc => by
    have := List.all_eq_true.1 (List.all_eq_true.1 (List.all_eq_true.1 sq_wl n (List.mem_range.2 (by have := h.n8; omega))) 0 (List.mem_range.2 (by omega))) c (List.mem_range.2 hc)
    simp only [Bool.and_eq_true] at this
    exact this.2
  have hl : leafP (squareO n) (plC n i) = true := by
    have e1 : (plC n i).zip (squareO n) = [(((i / n + 1 : Nat) : Int), flatD ⟨#[120]⟩ n), (((i % n + 1 : Nat) : Int), flatD ⟨#[121]⟩ n)] := rfl
    simp only [leafP, e1, List.all_cons, List.all_nil, Int.toNat_natCast, sq_mem ⟨#[121]⟩ n, lf _ h1, lf _ h2, Bool.and_self]
  have hok : valOk (l.getD i 0) = true := by simp only [valOk, Bool.and_eq_true, decide_eq_true_eq]; exact hv
  have hput : putL (ysC n l i) (plC n i) (l.getD i 0) = ysC n l (i + 1) := by
    rw [put_last fun e he => ?_]
    · simp [ysC, List.range_succ]
    · obtain ⟨j, hj, rfl⟩ := ys_mem he
      exact pl_lt hj
  unfold doL
  simp only [edC, hf, if_true, Bool.false_eq_true, if_false, hl, hok, hput, Bool.true_eq_false]
theorem ed_sq {n k : Nat} {l : List Int} (h : Fine n k l) : ∀ m i, i + m = k → edL (squareO n) (ysC n l i) ((List.range' i m).map (edC n l)) i = (ysC n l k, 0, 0)
  | 0, i, hi => by
    obtain rfl : i = k := by omega
    rfl
  | m + 1, i, hi => by
    rw [List.range'_succ, List.map_cons]
    simp only [edL, do_sq h (show i < k by omega), if_true]
    exact ed_sq h m (i + 1) (by omega)
theorem all_sq {n k : Nat} {l : List Int} (h : Fine n k l) : allL (squareO n) [] (xsC n l k) = (ysC n l k, 0, 0) ∧ entsE (squareO n) [] = 0 := by
  have he : entsE (squareO n) [] = 0 := by
    have := List.all_eq_true.1 sq_ents n (List.mem_range.2 (by have := h.n8; omega))
    simp only [Bool.or_eq_true, beq_iff_eq, decide_eq_true_eq] at this
    have := h.n1
    omega
  refine ⟨?_, he⟩
  unfold allL
  have hk := h.k60
  rw [if_neg (by simp [xsC]; omega), if_pos he]
  have := ed_sq h k 0 (by omega)
  rw [← List.range_eq_range'] at this
  exact this
theorem ys_ok {n k : Nat} {l : List Int} (h : Fine n k l) : EntsOk (squareO n) (ysC n l k) := by
  obtain ⟨h1, h2⟩ := all_sq h
  have e := ed_sq h k 0 (by omega)
  have := (ed_ok (o := squareO n) (xs := (List.range' 0 k).map (edC n l)) (l := []) (i := 0) (ents_ok.1 h2)).1
  rw [show ([] : List Entry) = ysC n l 0 from rfl, e] at this
  exact this rfl
theorem ys_val {n k : Nat} {l : List Int} (h : Fine n k l) : ∀ e ∈ ysC n l k, -1000000 ≤ e.n ∧ e.n ≤ 1000000 := fun e he => by
  obtain ⟨i, hi, rfl⟩ := ys_mem he
  exact h.val i hi
theorem P110_sq {n k a b : Nat} {l : List Int} (h : Fine n k l) (ha : a ≤ n) (hb : b ≤ n) : P110 (squareO n) (ysC n l k) [(a : Int), (b : Int)] = some (cellF (In2 a b) (ysC n l k), .nil) := by
  have ok := ys_ok h
  have hf : fitsE (squareO n) [(a : Int), (b : Int)] = 0 := fits2 (by omega) (by omega)
  have hk := h.k60
  have hl := ys_len n k l
  have hr := roll_sum (o := squareO n) (p := [(a : Int), (b : Int)]) (f := In2 a b) (ysC n l k) (0, 0) (fun e he => by
    obtain ⟨i, hi, rfl⟩ := ys_mem he
    obtain ⟨h1, h2⟩ := h.lt hi
    exact sq_pw (by have := h.n8; omega) ha hb h1 h2 _) (ys_val h) (by rw [hl]; simp only; omega) (by rw [hl]; simp only; omega)
  rw [P110_eq (ok.gd ok.out.dm) (by simp), if_pos (ents_ok.2 ok), if_pos hf]
  have hr : rollV (squareO n) (ysC n l k) [(a : Int), (b : Int)] = (if (ysC n l k).any (In2 a b) = true then 1 else 0, 0 + sumF (In2 a b) (ysC n l k)) := hr
  rw [hr]
  simp [cellF]
def rowLe (j : Nat) (e : Entry) : Bool := match e.at_[0]? with | some x => decide (x ≤ (j : Int)) | none => false
def colLe (j : Nat) (e : Entry) : Bool := match e.at_[1]? with | some x => decide (x ≤ (j : Int)) | none => false
theorem cellF_congr {f g : Entry → Bool} {l : List Entry} (h : ∀ e ∈ l, f e = g e) : cellF f l = cellF g l := by
  have h1 : l.any f = l.any g := by
    induction l with
    | nil => rfl
    | cons e l ih => simp only [List.any_cons, h e List.mem_cons_self, ih fun x hx => h x (List.mem_cons_of_mem _ hx)]
  have h2 : sumF f l = sumF g l := by
    clear h1
    induction l with
    | nil => rfl
    | cons e l ih => simp only [sumF, h e List.mem_cons_self, ih fun x hx => h x (List.mem_cons_of_mem _ hx)]
  simp only [cellF, h1, h2]
theorem row_step (j : Nat) (e : Entry) : rowLe (j + 1) e = (rowLe j e || In2 (j + 1) 0 e) := by
  unfold rowLe In2
  cases e.at_[0]? with
  | none => simp
  | some x =>
    by_cases h1 : x ≤ (j : Int)
    · have : x ≤ ((j + 1 : Nat) : Int) := by omega
      simp only [h1, this]; simp
    · by_cases h2 : x = ((j + 1 : Nat) : Int)
      · simp [h2]
      · have : ¬ x ≤ ((j + 1 : Nat) : Int) := by omega
        simp [h1, h2, this]
        omega
theorem row_apart (j : Nat) (e : Entry) (h1 : rowLe j e = true) (h2 : In2 (j + 1) 0 e = true) : False := by
  unfold rowLe at h1
  unfold In2 at h2
  cases hx : e.at_[0]? with
  | none => simp [hx] at h1
  | some x => simp [hx] at h1 h2; omega
theorem col_step (j : Nat) (e : Entry) : colLe (j + 1) e = (colLe j e || In2 0 (j + 1) e) := by
  unfold colLe In2
  cases e.at_[1]? with
  | none => simp
  | some x =>
    by_cases h1 : x ≤ (j : Int)
    · have : x ≤ ((j + 1 : Nat) : Int) := by omega
      simp only [h1, this]; simp
    · by_cases h2 : x = ((j + 1 : Nat) : Int)
      · simp [h2]
      · have : ¬ x ≤ ((j + 1 : Nat) : Int) := by omega
        simp [h1, h2, this]
        omega
theorem col_apart (j : Nat) (e : Entry) (h1 : colLe j e = true) (h2 : In2 0 (j + 1) e = true) : False := by
  unfold colLe at h1
  unfold In2 at h2
  cases hx : e.at_[1]? with
  | none => simp [hx] at h1
  | some x => simp [hx] at h1 h2; omega
theorem loop2 {n k : Nat} {l : List Int} (h : Fine n k l) : ∀ m j, j + m = n → lpO (S109_L2 P110 P9 (n : Int) (squareO n) (ysC n l k, 0, .nil)) (((j + 1 : Nat) : Int), ((cellF (rowLe j) (ysC n l k)).k, (cellF (rowLe j) (ysC n l k)).n), ((cellF (colLe j) (ysC n l k)).k, (cellF (colLe j) (ysC n l k)).n)) =
    some (.inl (((n + 1 : Nat) : Int), ((cellF (rowLe n) (ysC n l k)).k, (cellF (rowLe n) (ysC n l k)).n), ((cellF (colLe n) (ysC n l k)).k, (cellF (colLe n) (ysC n l k)).n)))
  | 0, j, hj => by
    obtain rfl : j = n := by omega
    have e : ¬ ((j + 1 : Nat) : Int) ≤ (j : Int) := by omega
    exact lpO_dn (by simp only [S109_L2, e, decide_false, br_false, dnO_s])
  | m + 1, j, hj => by
    have hn8 := h.n8
    have e : ((j + 1 : Nat) : Int) ≤ (n : Int) := by omega
    have hl : (ysC n l k).length ≤ 60 := by rw [ys_len]; exact h.k60
    have r1 := P110_sq h (a := j + 1) (b := 0) (by omega) (by omega)
    have r2 := P110_sq h (a := 0) (b := j + 1) (by omega) (by omega)
    have a1 := cell_add hl (ys_val h) (row_step j) (row_apart j)
    have a2 := cell_add hl (ys_val h) (col_step j) (col_apart j)
    have hB : S109_L2 P110 P9 (n : Int) (squareO n) (ysC n l k, 0, .nil) (((j + 1 : Nat) : Int), ((cellF (rowLe j) (ysC n l k)).k, (cellF (rowLe j) (ysC n l k)).n), ((cellF (colLe j) (ysC n l k)).k, (cellF (colLe j) (ysC n l k)).n)) =
        some (.nx (((j + 1 + 1 : Nat) : Int), ((cellF (rowLe (j + 1)) (ysC n l k)).k, (cellF (rowLe (j + 1)) (ysC n l k)).n), ((cellF (colLe (j + 1)) (ysC n l k)).k, (cellF (colLe (j + 1)) (ysC n l k)).n))) := by
      have r1' : P110 (squareO n) (ysC n l k) [((j + 1 : Nat) : Int), 0] = some (cellF (In2 (j + 1) 0) (ysC n l k), .nil) := r1
      have r2' : P110 (squareO n) (ysC n l k) [0, ((j + 1 : Nat) : Int)] = some (cellF (In2 0 (j + 1)) (ysC n l k), .nil) := r2
      simp only [S109_L2, e, decide_true, br_true, r1', r2', bno_s, a1, a2, nil_isNil, Bool.not_true, br_false, inlO_s, jn_l, nxO_s]
      rw [wiid (by omega) (by omega)]
      rfl
    rw [lpO_nx hB]
    exact loop2 h m (j + 1) (by omega)
theorem fine_none {n k : Nat} {l : List Int} (h : Fine n k l) : (∀ e ∈ ysC n l k, rowLe 0 e = false) ∧ (∀ e ∈ ysC n l k, colLe 0 e = false) ∧ (∀ e ∈ ysC n l k, rowLe n e = true) ∧ (∀ e ∈ ysC n l k, colLe n e = true) := by
  refine ⟨fun e he => ?_, fun e he => ?_, fun e he => ?_, fun e he => ?_⟩ <;> obtain ⟨i, hi, rfl⟩ := ys_mem he <;> obtain ⟨h1, h2⟩ := h.lt hi <;> simp only [rowLe, colLe, plC, List.getElem?_cons_zero, List.getElem?_cons_succ, decide_eq_true_eq, decide_eq_false_iff_not] <;> generalize i / n = q at * <;> generalize i % n = r at * <;> omega
theorem cell_none {f : Entry → Bool} {l : List Entry} (h : ∀ e ∈ l, f e = false) : cellF f l = ⟨0, 0⟩ := by
  rw [cellF_congr (g := fun _ => false) h]
  have h1 : l.any (fun _ => false) = false := by simp
  have h2 : sumF (fun _ => false) l = 0 := by
    induction l with
    | nil => rfl
    | cons e l ih => simp only [sumF, Bool.false_eq_true, if_false, ih fun x hx => h x (List.mem_cons_of_mem _ hx), Int.zero_add] <;> simp [ih (fun x hx => h x (List.mem_cons_of_mem _ hx)) (by simp)]
  simp [cellF, h1, h2]
theorem sum_ys (f : Entry → Bool) (hf : ∀ e, f e = true) (n m k : Nat) (l : List Int) : sumF f (ysC n l k) = sumF f (ysC m l k) := by
  have : ∀ r : List Nat, sumF f (r.map fun i => (⟨plC n i, l.getD i 0⟩ : Entry)) = sumF f (r.map fun i => (⟨plC m i, l.getD i 0⟩ : Entry)) := by
    intro r
    induction r with
    | nil => rfl
    | cons a r ih => simp only [List.map_cons, sumF, hf, if_true, ih]
  exact this _
theorem sum_succ (l : List Int) (k : Nat) : smC l (k + 1) = smC l k + l.getD k 0 := by
  unfold smC ysC
  rw [List.range_succ, List.map_append]
  have : ∀ a b : List Entry, sumF (fun _ => true) (a ++ b) = sumF (fun _ => true) a + sumF (fun _ => true) b := by
    intro a b
    induction a with
    | nil => simp [sumF]
    | cons e a ih => simp only [List.cons_append, sumF, ih]; omega
  rw [this]
  simp [sumF]
theorem p109 (n : Int) (hn : I64 n) (l : List Int) (hl : Lst I64 l) : P109 n l = some true := by
  have e8 : cellOf 5 = ⟨1, 5⟩ := by decide
  simp only [P109, S109, P8_eq, e8, bno_s, not_true, decide_false, br_false]
  by_cases h1 : n < 1
  · simp [h1]
  by_cases h2 : 8 < n
  · simp [h1, h2]
  obtain ⟨n, rfl⟩ : ∃ m : Nat, n = m := ⟨n.toNat, by omega⟩
  have hn1 : 1 ≤ n := by omega
  have hn8 : n ≤ 8 := by omega
  have hnn : n * n ≤ 64 := Nat.mul_le_mul hn8 hn8
  have hlen := hl.1
  simp only [h1, h2, decide_false, br_false, inlO_s, jn_l, P22_eq n (by omega), bno_s, lp_eq]
  generalize hK : min l.length (min (n * n) 60) = K
  have hK1 : K ≤ l.length := by omega
  have hK2 : K ≤ n * n := by omega
  have hK3 : K ≤ 60 := by omega
  -- what is behind the first loop
  have final : Fine n K l → (bno (P112 (squareO n) [] (xsC n l K)) fun y12 => br (!(Err.isNil y12.2.2)) (some false) (bno (P110 (squareO n) y12.1 [0, 0]) fun y13 => br (decide ((((xsC n l K).length : Nat) : Int) = 0)) (jn (σ := Bool) (α := Bool) (br (Err.isNil y13.2) (some (Sum.inl (decide (y13.1.k = 0)))) (some (Sum.inl false))) fun x14 => some x14)
      (jn (lpO (S109_L2 P110 P9 (n : Int) (squareO n) y12) (1, (0, 0), 0, 0)) fun x21 => jn (σ := Bool) (α := Bool) (br (Err.isNil y13.2) (br (decide (y13.1.k = (cellOf (smC l K)).k) && (decide (y13.1.n = (cellOf (smC l K)).n) && true)) (br (decide (x21.2.1.1 = y13.1.k) && (decide (x21.2.1.2 = y13.1.n) && true)) (some (Sum.inl (decide (x21.2.2.1 = y13.1.k) && (decide (x21.2.2.2 = y13.1.n) && true)))) (some (Sum.inl false))) (some (Sum.inl false))) (some (Sum.inl false))) fun x23 => some x23))) = some true := by
    intro h
    have hx : Lst Edit.gd (xsC n l K) := by
      refine ⟨by simp [xsC]; omega, fun e he => ?_⟩
      obtain ⟨i, hi, rfl⟩ := List.mem_map.1 he
      have hi := List.mem_range.1 hi
      obtain ⟨k1, k2⟩ := h.lt hi
      have hv := h.val i hi
      refine ⟨⟨by simp [edC, plC], fun x hx => ?_⟩, by simp only [edC, I64]; omega⟩
      simp only [edC, plC, List.mem_cons, List.not_mem_nil, or_false] at hx
      rcases hx with rfl | rfl <;> simp only [I64] <;> generalize i / n = q at * <;> generalize i % n = r at * <;> omega
    obtain ⟨ea, _⟩ := all_sq h
    have hc := P110_sq h (a := 0) (b := 0) (by omega) (by omega)
    have hc : P110 (squareO n) (ysC n l K) [0, 0] = some (cellF (In2 0 0) (ysC n l K), .nil) := hc
    rw [P112_eq ⟨by simp, by simp⟩ hx, ea]
    have enil : errOf 0 = Err.nil := rfl
    simp only [bno_s, enil, nil_isNil, Bool.not_true, br_false, hc, br_true]
    have hin : ∀ e, In2 0 0 e = true := fun e => by simp [In2]
    have hxl : (xsC n l K).length = K := by simp [xsC]
    by_cases hk : K = 0
    · subst hk
      simp [hxl, xsC, ysC, cellF]
    · have hk' : ¬ ((((xsC n l K).length : Nat) : Int)) = 0 := by rw [hxl]; omega
      obtain ⟨f1, f2, f3, f4⟩ := fine_none h
      have hl2 := loop2 h n 0 (by omega)
      have c1 : cellF (rowLe 0) (ysC n l K) = ⟨0, 0⟩ := cell_none f1
      have c2 : cellF (colLe 0) (ysC n l K) = ⟨0, 0⟩ := cell_none f2
      have c3 : cellF (rowLe n) (ysC n l K) = cellF (In2 0 0) (ysC n l K) := cellF_congr fun e he => by rw [f3 e he, hin e]
      have c4 : cellF (colLe n) (ysC n l K) = cellF (In2 0 0) (ysC n l K) := cellF_congr fun e he => by rw [f4 e he, hin e]
      rw [c1, c2, c3, c4] at hl2
      have hl2 : lpO (S109_L2 P110 P9 (n : Int) (squareO n) (ysC n l K, 0, .nil)) (1, (0, 0), 0, 0) = _ := hl2
      have hany : (ysC n l K).any (In2 0 0) = true := by
        refine List.any_eq_true.2 ⟨⟨plC n 0, l.getD 0 0⟩, List.mem_map.2 ⟨0, List.mem_range.2 (by omega), rfl⟩, hin _⟩
      have hs : sumF (In2 0 0) (ysC n l K) = smC l K := by
        unfold smC
        rw [show sumF (fun _ => true) (ysC 1 l K) = sumF (In2 0 0) (ysC 1 l K) from ?_]
        · exact sum_ys _ hin n 1 K l
        · have : (cellF (fun _ => true) (ysC 1 l K)) = cellF (In2 0 0) (ysC 1 l K) := cellF_congr fun e _ => (hin e).symm
          exact congrArg Cell.n this
      have hb := sumF_abs (f := In2 0 0) (ys_val h)
      rw [ys_len] at hb
      have hcell : cellOf (smC l K) = cellF (In2 0 0) (ysC n l K) := by
        have hw : within (smC l K) = true := by rw [← hs]; simp only [within, Bool.and_eq_true, decide_eq_true_eq]; omega
        simp [cellOf, hw, cellF, hany, hs]
      simp only [hk', decide_false, br_false, hl2, jn_l, hcell, decide_true, Bool.and_self, br_true]
  -- the first loop
  have good : ∀ m i, i + m = K → (∀ j, j < i → -1000000 ≤ l.getD j 0 ∧ l.getD j 0 ≤ 1000000) → (Fine n K l → ∀ k : (List Edit × Int × Int) → Option Bool, k (xsC n l K, smC l K, (K : Int)) = some true → jn (lpO (S109_L1 (n : Int) l) (xsC n l i, smC l i, (i : Int))) k = some true) ∧
      ((¬ ∀ j, j < K → -1000000 ≤ l.getD j 0 ∧ l.getD j 0 ≤ 1000000) → ∀ k : (List Edit × Int × Int) → Option Bool, jn (lpO (S109_L1 (n : Int) l) (xsC n l i, smC l i, (i : Int))) k = some true) := by
    intro m
    obtain ⟨N, hN⟩ : ∃ N, N = n * n := ⟨_, rfl⟩
    have hsq : wi ((n : Int) * (n : Int)) = ((N : Nat) : Int) := by rw [← Int.natCast_mul, ← hN, wiid (by omega) (by omega)]
    induction m with
    | zero =>
      intro i hi hg
      obtain rfl : i = K := by omega
      have hdn : lpO (S109_L1 (n : Int) l) (xsC n l i, smC l i, (i : Int)) = some (.inl (xsC n l i, smC l i, (i : Int))) := by
        refine lpO_dn ?_
        by_cases c1 : (i : Int) < ((l.length : Nat) : Int)
        · by_cases c2 : (i : Int) < ((N : Nat) : Int)
          · have c3 : ¬ (i : Int) < 60 := by omega
            simp [S109_L1, c1, hsq, c2, c3]
          · simp [S109_L1, c1, hsq, c2]
        · simp [S109_L1, c1]
      rw [hdn]
      exact ⟨fun _ k hk => hk, fun hno => absurd hg hno⟩
    | succ m ih =>
      intro i hi hg
      have hil : i < l.length := by omega
      have c1 : (i : Int) < ((l.length : Nat) : Int) := by omega
      have c2 : (i : Int) < ((N : Nat) : Int) := by omega
      have c3 : (i : Int) < 60 := by omega
      have hm := List.getElem?_eq_getElem hil
      have hgd : l.getD i 0 = l[i] := by simp [List.getD, hil]
      by_cases hb : -1000000 ≤ l.getD i 0 ∧ l.getD i 0 ≤ 1000000
      · have d1 : ¬ l[i] < -1000000 := by rw [← hgd]; omega
        have d2 : ¬ 1000000 < l[i] := by rw [← hgd]; omega
        have hn0 : ¬ (n : Int) = 0 := by omega
        have hr : (xsC n l i).length + 1 ≤ roomA := by simp [xsC]; unfold roomA; omega
        have hdiv : i / n ≤ 60 := Nat.le_trans (Nat.div_le_self _ _) (by omega)
        have hmod : i % n < n := Nat.mod_lt _ hn1
        have hsb : -60000000 ≤ smC l i ∧ smC l i ≤ 60000000 := by
          have := sumF_abs (f := fun _ => true) (l := ysC 1 l i) fun e he => by
            obtain ⟨j, hj, rfl⟩ := ys_mem he
            exact hg j hj
          rw [ys_len] at this
          unfold smC
          omega
        have e1 : wi (1 + wi (Int.tdiv (i : Int) (n : Int))) = ((i / n + 1 : Nat) : Int) := by
          rw [show Int.tdiv (i : Int) (n : Int) = ((i / n : Nat) : Int) from rfl]
          generalize i / n = q at hdiv
          rw [wiid (n := ((q : Nat) : Int)) (by omega) (by omega), wiid (by omega) (by omega)]
          omega
        have e2 : wi (1 + Int.tmod (i : Int) (n : Int)) = ((i % n + 1 : Nat) : Int) := by
          rw [show Int.tmod (i : Int) (n : Int) = ((i % n : Nat) : Int) from rfl]
          generalize i % n = r at hmod
          rw [wiid (by omega) (by omega)]
          omega
        have et : xsC n l (i + 1) = xsC n l i ++ [⟨[((i / n + 1 : Nat) : Int), ((i % n + 1 : Nat) : Int)], l[i], false⟩] := by
          unfold xsC
          rw [List.range_succ, List.map_append, List.map_cons, List.map_nil, ← hgd]
          rfl
        have es : wi (smC l i + l[i]) = smC l (i + 1) := by
          rw [sum_succ, hgd, wiid] <;> rw [← hgd] <;> omega
        have hB : S109_L1 (n : Int) l (xsC n l i, smC l i, (i : Int)) = some (.nx (xsC n l (i + 1), smC l (i + 1), ((i + 1 : Nat) : Int))) := by
          simp only [S109_L1, c1, hsq, c2, c3, decide_true, br_true, inlO_s, jn_l, lookI_nat, hm, bno_s, d1, d2, decide_false, br_false, ck_pos hn0, List.length_singleton, ck_pos hr, e1, e2, nxO_s, et, es]
          rw [wiid (by omega) (by omega)]
          rfl
        rw [lpO_nx hB]
        refine ih (i + 1) (by omega) fun j hj => ?_
        by_cases e : j = i
        · subst e; exact hb
        · exact hg j (by omega)
      · have hB : S109_L1 (n : Int) l (xsC n l i, smC l i, (i : Int)) = some (.fin true) := by
          by_cases d1 : l[i] < -1000000
          · simp [S109_L1, c1, hsq, c2, c3, lookI_nat, hm, d1]
          · have d2 : 1000000 < l[i] := by rw [hgd] at hb; omega
            simp [S109_L1, c1, hsq, c2, c3, lookI_nat, hm, d1, d2]
        rw [lpO_fin hB]
        exact ⟨fun h => absurd (h.val i (by omega)) hb, fun _ k => rfl⟩
  obtain ⟨g1, g2⟩ := good K 0 (by omega) fun j hj => by omega
  have e0 : ((([] : List Edit), (0 : Int), (0 : Int)) : List Edit × Int × Int) = (xsC n l 0, smC l 0, ((0 : Nat) : Int)) := rfl
  rw [e0]
  by_cases hall : ∀ j, j < K → -1000000 ≤ l.getD j 0 ∧ l.getD j 0 ≤ 1000000
  · have h : Fine n K l := ⟨hn1, hn8, hK1, hK2, hK3, hall⟩
    exact g1 h _ (final h)
  · exact g2 hall _
end Ab
