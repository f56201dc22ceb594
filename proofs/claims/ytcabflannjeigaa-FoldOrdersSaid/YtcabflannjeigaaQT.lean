/-
  Plain laws: what the functions of package tree come to.
-/
import Derived.Test.YtcabflannjeigaaMT
import Derived.Test.YtcabflannjeigaaQO
namespace Ab
open Go
set_option linter.unusedVariables false
set_option linter.unusedSimpArgs false

/-! ### paths -/
def upP (l : List Member) : Nat → Int → List Int
  | 0, _ => []
  | f + 1, i => if i < 0 then [] else match l[i.toNat]? with | some m => i :: upP l f m.parent | none => []
/-- Each member stands behind that of which it is a part. -/
structure Rooted (l : List Member) : Prop where
  up : ∀ (i : Nat) (m : Member), l[i]? = some m → -1 ≤ m.parent ∧ m.parent < i
  sign : ∀ (i : Nat) (m : Member), l[i]? = some m → -1 ≤ m.sign ∧ m.sign ≤ 1
  form : ∀ (i : Nat) (m : Member), l[i]? = some m → 0 ≤ m.parent → hasF l m.parent = false
theorem memErr_ok {l : List Member} {i : Nat} {m : Member} (h : memErr l i m = 0) : nameBad m.name = false ∧ ((l.take i).any fun x => decide (x.name = m.name)) = false ∧ (-1 ≤ m.parent ∧ m.parent < i) ∧ (0 ≤ m.parent → hasF l m.parent = false) ∧ (-1 ≤ m.sign ∧ m.sign ≤ 1) ∧ m.formula.size ≤ 100 := by
  unfold memErr at h
  by_cases h1 : nameBad m.name = true
  · rw [if_pos h1] at h; cases h
  rw [if_neg h1] at h
  by_cases h2 : ((l.take i).any fun x => decide (x.name = m.name)) = true
  · rw [if_pos h2] at h; cases h
  rw [if_neg h2] at h
  by_cases h3 : m.parent < -1 ∨ (i : Int) ≤ m.parent
  · rw [if_pos h3] at h; cases h
  rw [if_neg h3] at h
  by_cases h4 : 0 ≤ m.parent ∧ hasF l m.parent = true
  · rw [if_pos h4] at h; cases h
  rw [if_neg h4] at h
  by_cases h5 : m.sign < -1 ∨ 1 < m.sign
  · rw [if_pos h5] at h; cases h
  rw [if_neg h5] at h
  by_cases h6 : 100 < m.formula.size
  · rw [if_pos h6] at h; cases h
  refine ⟨by simpa using h1, by simpa using h2, by omega, fun hp => ?_, by omega, by omega⟩
  cases hf : hasF l m.parent with
  | false => rfl
  | true => exact absurd ⟨hp, hf⟩ h4
theorem DimOk.rooted {d : Dim} (h : DimOk d) : Rooted d.members :=
  ⟨fun i m hi => (memErr_ok (h.mem i m hi)).2.2.1, fun i m hi => (memErr_ok (h.mem i m hi)).2.2.2.2.1, fun i m hi => (memErr_ok (h.mem i m hi)).2.2.2.1⟩
theorem upP_fuel {l : List Member} (h : Rooted l) : ∀ (f : Nat) (i : Int) (g : Nat), i < f → i < g → upP l f i = upP l g i := by
  intro f
  induction f with
  | zero =>
    intro i g h1 h2
    cases g with
    | zero => rfl
    | succ g => simp only [upP]; rw [if_pos (by omega)]
  | succ f ih =>
    intro i g h1 h2
    by_cases hi : i < 0
    · cases g with
      | zero => simp only [upP]; rw [if_pos hi]
      | succ g => simp only [upP]; rw [if_pos hi, if_pos hi]
    · cases g with
      | zero => omega
      | succ g =>
        simp only [upP]
        rw [if_neg hi, if_neg hi]
        cases hm : l[i.toNat]? with
        | none => rfl
        | some m =>
          have := h.up _ _ hm
          simp only
          rw [ih m.parent g (by omega) (by omega)]
/-- The path of a member. -/
def path (l : List Member) (i : Int) : List Int := upP l (i.toNat + 1) i
theorem path_neg {l : List Member} {i : Int} (hi : i < 0) : path l i = [] := by unfold path upP; rw [if_pos hi]
theorem path_eq {l : List Member} (h : Rooted l) {i : Nat} {m : Member} (hi : l[i]? = some m) : path l i = (i : Int) :: path l m.parent := by
  have hu := h.up _ _ hi
  have e : path l (i : Int) = (i : Int) :: upP l i m.parent := by
    unfold path
    rw [Int.toNat_natCast]
    simp only [upP, Int.toNat_natCast, hi]
    rw [if_neg (by omega)]
  rw [e]
  unfold path
  rw [upP_fuel h i m.parent (m.parent.toNat + 1) (by omega) (by omega)]
theorem path_len {l : List Member} (h : Rooted l) : ∀ (n i : Nat), i ≤ n → i < l.length → (path l i).length ≤ i + 1 := by
  intro n
  induction n with
  | zero =>
    intro i hi hl
    rw [path_eq h (List.getElem?_eq_getElem hl)]
    have := h.up _ _ (List.getElem?_eq_getElem hl)
    rw [path_neg (by omega)]; simp
  | succ n ih =>
    intro i hi hl
    rw [path_eq h (List.getElem?_eq_getElem hl)]
    have := h.up _ _ (List.getElem?_eq_getElem hl)
    by_cases hp : (l[i]).parent < 0
    · rw [path_neg hp]; simp
    · obtain ⟨k, hk⟩ := Int.eq_ofNat_of_zero_le (by omega : 0 ≤ (l[i]).parent)
      rw [hk] at this ⊢
      have := ih k (by omega) (by omega)
      simp; omega
theorem up_loop {d : Dim} (h : Rooted d.members) (hl : d.members.length ≤ 1000) : ∀ (n i : Nat), i ≤ n → i < d.members.length → ∀ acc : List Int, acc.length + i ≤ 2000 → lpO (S48_L1 d) ((i : Int), acc) = some (.inl (-1, acc ++ path d.members i)) := by
  have room : ∀ k : Nat, k ≤ 3000 → k ≤ roomA := fun k hk => by unfold roomA; omega
  intro n
  induction n with
  | zero =>
    intro i hi hlt acc ha
    obtain rfl : i = 0 := by omega
    have hm := List.getElem?_eq_getElem hlt
    have hu := h.up _ _ hm
    have hp : (d.members[0]).parent = -1 := by omega
    rw [path_eq h hm, path_neg (by omega), lpO_nx (y := (-1, acc ++ [0])), lpO_dn (y := (-1, acc ++ [0]))]
    · rfl
    · simp [S48_L1]
    · have hr := room (acc.length + 1) (by omega)
      have hm' : lookI d.members 0 = some d.members[0] := lookI_nat (xs := d.members) 0 ▸ hm
      simp [S48_L1, hr, hm', hp]
  | succ n ih =>
    intro i hi hlt acc ha
    have hm := List.getElem?_eq_getElem hlt
    have hu := h.up _ _ hm
    have hr := room (acc.length + 1) (by omega)
    have hnx : S48_L1 d ((i : Int), acc) = some (.nx ((d.members[i]).parent, acc ++ [(i : Int)])) := by
      have : (0 : Int) ≤ (i : Int) := by omega
      simp [S48_L1, hr, lookI_nat, hm, this]
    rw [path_eq h hm, lpO_nx hnx]
    by_cases hp : (d.members[i]).parent < 0
    · have e : (d.members[i]).parent = -1 := by omega
      rw [path_neg hp, e, lpO_dn (y := (-1, acc ++ [(i : Int)])) (by simp [S48_L1])]
    · obtain ⟨k, hk⟩ := Int.eq_ofNat_of_zero_le (by omega : 0 ≤ (d.members[i]).parent)
      rw [hk] at hu ⊢
      rw [ih k (by omega) (by omega) (acc ++ [(i : Int)]) (by simp; omega)]
      simp
theorem P48_eq {d : Dim} (h : Rooted d.members) (hl : d.members.length ≤ 1000) {i : Nat} (hi : i < d.members.length) : P48 d i = some (path d.members i) := by
  simp only [P48, S48, lp_eq]
  rw [up_loop h hl i i (Nat.le_refl _) hi [] (by simp; omega)]
  simp

/-! ### numbers of members -/
def idxs (p : Nat → Bool) (n : Nat) : List Int := ((List.range n).filter p).map fun (k : Nat) => (k : Int)
theorem idxs_succ (p : Nat → Bool) (n : Nat) : idxs p (n + 1) = match p n with | true => idxs p n ++ [(n : Int)] | false => idxs p n := by
  unfold idxs
  rw [List.range_succ, List.filter_append]
  cases h : p n <;> simp [h]
theorem idxs_len (p : Nat → Bool) (n : Nat) : (idxs p n).length ≤ n := by
  unfold idxs
  rw [List.length_map]
  have := List.length_filter_le p (List.range n)
  simpa using this
theorem mem_idxs {p : Nat → Bool} {n : Nat} {x : Int} : x ∈ idxs p n ↔ ∃ k : Nat, x = k ∧ k < n ∧ p k = true := by
  unfold idxs
  simp only [List.mem_map, List.mem_filter, List.mem_range]
  exact ⟨fun ⟨k, ⟨h1, h2⟩, h3⟩ => ⟨k, h3.symm, h1, h2⟩, fun ⟨k, h1, h2, h3⟩ => ⟨k, ⟨h2, h3⟩, h1.symm⟩⟩
theorem idxs_loop {α : Type} {B : (List Int × Int) → Option (LR (List Int × Int) α)} (p : Nat → Bool) (n : Nat) (h : ∀ (i : Nat) (acc : List Int), i < n → acc.length ≤ i → B (acc, (i : Int)) = some (.nx (match p i with | true => acc ++ [(i : Int)] | false => acc, (i : Int) + 1))) (hn : ∀ acc, B (acc, (n : Int)) = some (.dn (acc, (n : Int)))) :
    lpO B ([], 0) = some (.inl (idxs p n, (n : Int))) := by
  have := (seq_loop (B := B) (fun i => (idxs p i, (i : Int))) n fun i hi => by
    rw [h i _ hi (idxs_len p i), idxs_succ]; rfl).trans (lpO_dn (hn _))
  exact this

def isPart (l : List Member) (i : Int) (k : Nat) : Bool := match l[k]? with | some m => decide (m.parent = i) | none => false
def partsOf (l : List Member) (i : Int) : List Int := idxs (isPart l i) l.length
theorem P47_eq {d : Dim} (hl : d.members.length ≤ 1000) (i : Int) : P47 d i = some (partsOf d.members i) := by
  simp only [P47, S47, lp_eq]
  rw [idxs_loop (isPart d.members i) d.members.length (fun k acc hk ha => ?_) (fun acc => by simp [S47_L1])]
  · rfl
  · have e : ((k : Nat) : Int) < ((d.members.length : Nat) : Int) := by omega
    have hr : acc.length + 1 ≤ roomA := by unfold roomA; omega
    simp only [S47_L1, e, decide_true, br_true, lookI_nat, List.getElem?_eq_getElem hk, bno_s, isPart, List.length_singleton, ck_pos hr, inlO_s, nxO_s]
    rw [wiid (by omega) (by omega)]
    by_cases h : (d.members[k]).parent = i <;> simp [h]
def leafB (l : List Member) (k : Nat) : Bool := match l[k]? with | some m => decide (m.formula = ⟨#[]⟩) && decide (partsOf l k = []) | none => false
theorem P44_eq {d : Dim} (hl : d.members.length ≤ 1000) {k : Nat} (hk : k < d.members.length) : P44 d k = some (leafB d.members k) := by
  have e : decide (((List.length (partsOf d.members k) : Nat) : Int) = 0) = decide (partsOf d.members k = []) := by
    congr 1; rw [← List.length_eq_zero_iff]; exact propext ⟨fun h => by omega, fun h => by omega⟩
  simp only [P44, S44, lookI_nat, List.getElem?_eq_getElem hk, bno_s, P47_eq hl, leafB, e]
  by_cases h : (d.members[k]).formula = ⟨#[]⟩ <;> simp [h]

/-! ### how a leaf counts -/
def sgn (l : List Member) (x : Int) : Int := match l[x.toNat]? with | some m => m.sign | none => 0
def wl (l : List Member) (i : Int) : List Int → Option Int
  | [] => none
  | x :: r => if x = i then some 1 else (wl l i r).map fun v => sgn l x * v
theorem mul_sgn {w s : Int} (hw : -1 ≤ w ∧ w ≤ 1) (hs : -1 ≤ s ∧ s ≤ 1) : -1 ≤ w * s ∧ w * s ≤ 1 := by
  rcases (by omega : w = -1 ∨ w = 0 ∨ w = 1) with rfl | rfl | rfl <;> constructor <;> omega
theorem sgn_in {l : List Member} (h : Rooted l) (x : Int) : -1 ≤ sgn l x ∧ sgn l x ≤ 1 := by
  unfold sgn
  cases hm : l[x.toNat]? with
  | none => simp
  | some m => exact h.sign _ _ hm
theorem wl_in {l : List Member} (h : Rooted l) (i : Int) : ∀ (ys : List Int) (v : Int), wl l i ys = some v → -1 ≤ v ∧ v ≤ 1 := by
  intro ys
  induction ys with
  | nil => intro v hv; cases hv
  | cons x r ih =>
    intro v hv
    simp only [wl] at hv
    split at hv
    · cases hv; omega
    · cases hr : wl l i r with
      | none => rw [hr] at hv; cases hv
      | some u => rw [hr] at hv; cases hv; exact mul_sgn (sgn_in h x) (ih u hr)
theorem path_mem {l : List Member} (h : Rooted l) : ∀ (n k : Nat), k ≤ n → k < l.length → ∀ x ∈ path l k, 0 ≤ x ∧ x ≤ k := by
  intro n
  induction n with
  | zero =>
    intro k hk hl x hx
    have hm := List.getElem?_eq_getElem hl
    have hu := h.up _ _ hm
    rw [path_eq h hm, path_neg (by omega)] at hx
    simp at hx; omega
  | succ n ih =>
    intro k hk hl x hx
    have hm := List.getElem?_eq_getElem hl
    have hu := h.up _ _ hm
    rw [path_eq h hm] at hx
    rcases List.mem_cons.1 hx with rfl | hx
    · omega
    · by_cases hp : (l[k]).parent < 0
      · rw [path_neg hp] at hx; cases hx
      · obtain ⟨j, hj⟩ := Int.eq_ofNat_of_zero_le (by omega : 0 ≤ (l[k]).parent)
        rw [hj] at hx hu
        have := ih j (by omega) (by omega) x hx
        omega
def wOf (l : List Member) (i : Int) (k : Nat) : Int × Bool := match wl l i (path l k) with | some w => (w, true) | none => (0, false)
theorem w_loop {d : Dim} (h : Rooted d.members) (i : Int) (y1 : List Int) (hy : y1.length ≤ 100000) (hv : ∀ x ∈ y1, 0 ≤ x ∧ x < d.members.length) : ∀ (ys pre : List Int) (w : Int), y1 = pre ++ ys → -1 ≤ w → w ≤ 1 →
    jn (lpO (S45_L1 d i y1) (w, (pre.length : Int))) (fun _ => some ((0 : Int), false)) = some (match wl d.members i ys with | some v => (w * v, true) | none => (0, false)) := by
  intro ys
  induction ys with
  | nil =>
    intro pre w e h1 h2
    subst e
    rw [lpO_dn (y := (w, (pre.length : Int))) (by simp [S45_L1])]
    rfl
  | cons x r ih =>
    intro pre w e h1 h2
    have hlt : ((pre.length : Nat) : Int) < ((y1.length : Nat) : Int) := by rw [e]; simp; omega
    have hx : y1[pre.length]? = some x := by rw [e]; simp
    have hin := hv x (by rw [e]; simp)
    simp only [wl]
    by_cases hxi : x = i
    · rw [if_pos hxi, lpO_fin (a := (w, true)) (by simp [S45_L1, hlt, lookI_nat, hx, hxi])]
      simp
    · rw [if_neg hxi]
      have hs : sgn d.members x = (d.members[x.toNat]'(by omega)).sign := by unfold sgn; rw [List.getElem?_eq_getElem (by omega)]
      have hb := mul_sgn ⟨h1, h2⟩ (sgn_in h x)
      have hnx : S45_L1 d i y1 (w, (pre.length : Int)) = some (.nx (w * sgn d.members x, ((pre ++ [x]).length : Int))) := by
        have hlen : pre.length < y1.length := by omega
        simp only [S45_L1, hlt, decide_true, br_true, lookI_nat, hx, bno_s, hxi, decide_false, br_false, lookI_in hin.1 hin.2, nxO_s, ← hs]
        rw [wiid (n := w * sgn d.members x) (by omega) (by omega), wiid (n := (pre.length : Int) + 1) (by omega) (by omega)]
        simp
      rw [lpO_nx hnx, ih (pre ++ [x]) _ (by rw [e]; simp) hb.1 hb.2]
      cases wl d.members i r with
      | none => rfl
      | some v => simp [Int.mul_assoc]
theorem P45_eq {d : Dim} (h : Rooted d.members) (hl : d.members.length ≤ 1000) (i : Int) {k : Nat} (hk : k < d.members.length) : P45 d i k = some (wOf d.members i k) := by
  simp only [P45, S45, P48_eq h hl hk, bno_s, lp_eq]
  have := w_loop h i (path d.members k) (by have := path_len h k k (Nat.le_refl _) hk; omega) (fun x hx => by have := path_mem h k k (Nat.le_refl _) hk x hx; omega) (path d.members k) [] 1 rfl (by omega) (by omega)
  simp only [List.length_nil, Int.one_mul] at this
  exact this
section
variable {d : Dim}
end
end Ab
