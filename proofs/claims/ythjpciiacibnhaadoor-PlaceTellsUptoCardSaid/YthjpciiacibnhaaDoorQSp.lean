/-
  Plain laws: a text cut at its dots, and put together again.
-/
import Derived.Test.YthjpciiacibnhaaDoorMPr
import Derived.Test.YthjpciiacibnhaaDoorQO
namespace Ab
open Go
set_option linter.unusedVariables false
set_option linter.unusedSimpArgs false

def dotB : ByteArray := ⟨#[46]⟩
/-- A piece more ahead of the first. -/
def gl (l : List UInt8) : List (List UInt8) → List (List UInt8)
  | [] => [l]
  | x :: r => (l ++ x) :: r
def cut (c : UInt8) : List UInt8 → List (List UInt8)
  | [] => [[]]
  | b :: l => if b = c then [] :: cut c l else gl [b] (cut c l)
theorem cut_ne (c : UInt8) : ∀ l, ∃ x r, cut c l = x :: r
  | [] => ⟨_, _, rfl⟩
  | b :: l => by
    unfold cut
    split
    · exact ⟨_, _, rfl⟩
    · obtain ⟨x, r, h⟩ := cut_ne c l
      rw [h]; exact ⟨_, _, rfl⟩
theorem gl_nil (c : UInt8) (l : List UInt8) : gl [] (cut c l) = cut c l := by
  obtain ⟨x, r, h⟩ := cut_ne c l
  rw [h]; rfl
theorem gl_gl (x y : List UInt8) (z : List (List UInt8)) : gl x (gl y z) = gl (x ++ y) z := by cases z <;> simp [gl]
theorem splitK_cut (c : UInt8) : ∀ l, Lib.splitK [c] 0 (Lib.count l [c]) l = cut c l
  | [] => by rw [Lib.count_miss (by simp [Lib.index])]; rfl
  | b :: l => by
    have ih := splitK_cut c l
    by_cases h : b = c
    · subst h
      have hix : Lib.index (b :: l) [b] = 0 := by rw [Lib.index]; simp [List.isPrefixOf]
      rw [Lib.count_cons_eq, Nat.add_comm, Lib.splitK, hix]
      simp only [cut, if_true]
      rw [if_neg (by decide)]
      simp [ih]
    · have hp : ([c] : List UInt8).isPrefixOf (b :: l) = false := by simp [List.isPrefixOf, Ne.symm h]
      have hix : Lib.index (b :: l) [c] = if Lib.index l [c] == -1 then -1 else Lib.index l [c] + 1 := by rw [Lib.index, hp]; simp
      rw [Lib.count_cons_ne b c l h]
      simp only [cut]
      rw [if_neg h]
      by_cases hm : Lib.index l [c] = -1
      · have hc := Lib.count_miss hm
        rw [hc] at ih ⊢
        rw [← ih]
        rfl
      · have hge := Lib.index_ge l [c]
        obtain ⟨j, hj⟩ : ∃ j : Nat, Lib.index l [c] = j := ⟨(Lib.index l [c]).toNat, by omega⟩
        have hc := Lib.count_hit (by simp) hj
        rw [hc, Nat.add_comm, Lib.splitK, hj, if_neg (by simp <;> omega)] at ih
        rw [hc, Nat.add_comm, Lib.splitK, hix, hj, if_neg (by simp <;> omega), if_neg (by simp <;> omega), ← ih]
        have e : ((j : Int) + 1).toNat = j + 1 := by omega
        simp [e, gl, Nat.add_right_comm]
theorem splitS_map (s : ByteArray) : (splitS s dotB).map (·.data.toList) = cut 46 s.data.toList := by
  unfold splitS
  rw [Lib.splitB_data]
  exact splitK_cut 46 s.data.toList
theorem join_gl (c : UInt8) : ∀ l, Lib.join (cut c l) [c] = l
  | [] => rfl
  | b :: l => by
    have ih := join_gl c l
    obtain ⟨x, r, h⟩ := cut_ne c l
    rw [h, Lib.join_cons] at ih
    unfold cut
    split
    · rename_i e
      subst e
      rw [h, Lib.join_cons]
      simp only [Lib.joinTail, List.map_cons, List.flatten_cons, List.nil_append] at ih ⊢
      rw [← ih]
      simp [Lib.joinTail]
    · rw [h]
      simp only [gl, Lib.join_cons]
      rw [← ih]
      simp
theorem cut_app (c : UInt8) : ∀ (x l : List UInt8), c ∉ x → cut c (x ++ l) = gl x (cut c l)
  | [], l, _ => (gl_nil c l).symm
  | b :: x, l, h => by
    have h1 : b ≠ c := fun e => h (by simp [e])
    have h2 : c ∉ x := fun e => h (List.mem_cons_of_mem _ e)
    rw [List.cons_append, cut, if_neg h1, cut_app c x l h2, gl_gl]
    rfl
theorem cut_join (c : UInt8) : ∀ (x : List UInt8) (r : List (List UInt8)), (∀ y ∈ x :: r, c ∉ y) → cut c (Lib.join (x :: r) [c]) = x :: r
  | x, [], h => by
    have := cut_app c x [] (h x (by simp))
    rw [List.append_nil] at this
    rw [Lib.join_one, this]
    simp [cut, gl]
  | x, y :: r, h => by
    have ih := cut_join c y r fun z hz => h z (List.mem_cons_of_mem _ hz)
    have e : Lib.join (x :: y :: r) [c] = x ++ c :: Lib.join (y :: r) [c] := by
      rw [Lib.join_cons, Lib.join_cons]
      simp [Lib.joinTail]
    rw [e, cut_app c x _ (h x (by simp)), cut, if_pos rfl, ih]
    simp [gl]
theorem ba_inj {xs ys : List ByteArray} (h : xs.map (·.data.toList) = ys.map (·.data.toList)) : xs = ys := by
  induction xs generalizing ys with
  | nil => cases ys with | nil => rfl | cons b r => simp at h
  | cons a xs ih =>
    cases ys with
    | nil => simp at h
    | cons b ys =>
      simp only [List.map_cons, List.cons.injEq] at h
      have : a = b := by apply ByteArray.ext; apply Array.ext'; exact h.1
      rw [this, ih h.2]
theorem joinS_list (xs : List ByteArray) (sep : ByteArray) : (joinS xs sep).data.toList = Lib.join (xs.map (·.data.toList)) sep.data.toList := by simp [joinS]
theorem split_join {xs : List ByteArray} (hne : xs ≠ []) (h : ∀ x ∈ xs, (46 : UInt8) ∉ x.data.toList) : splitS (joinS xs dotB) dotB = xs := by
  apply ba_inj
  rw [splitS_map, joinS_list]
  cases xs with
  | nil => exact absurd rfl hne
  | cons x r =>
    exact cut_join 46 x.data.toList (r.map (·.data.toList)) fun y hy => by
      rw [← List.map_cons (f := fun z : ByteArray => z.data.toList)] at hy
      obtain ⟨z, hz, rfl⟩ := List.mem_map.1 hy
      exact h z hz
theorem join_split (s : ByteArray) : joinS (splitS s dotB) dotB = s := by
  apply ByteArray.ext
  apply Array.ext'
  rw [joinS_list, splitS_map]
  exact join_gl 46 _
theorem joinS_size {xs : List ByteArray} (h : ∀ x ∈ xs, x.size ≤ 8) : (joinS xs dotB).size ≤ 9 * xs.length := by
  have e : (joinS xs dotB).size = (Lib.join (xs.map (·.data.toList)) [46]).length := by
    rw [show (joinS xs dotB).size = (joinS xs dotB).data.toList.length by rw [Array.length_toList]; rfl, joinS_list]; rfl
  have hl : ∀ ys : List ByteArray, (∀ x ∈ ys, x.size ≤ 8) → Lib.lens (ys.map (·.data.toList)) ≤ 8 * ys.length := by
    intro ys
    induction ys with
    | nil => intro _; simp [Lib.lens]
    | cons a r ih =>
      intro h
      have h1 := h a (by simp)
      have h2 := ih fun x hx => h x (List.mem_cons_of_mem _ hx)
      have h3 : a.data.toList.length = a.size := by rw [Array.length_toList]; rfl
      simp only [Lib.lens, List.map_cons, List.sum_cons, List.length_cons] at h2 ⊢
      omega
  rw [e]
  cases xs with
  | nil => simp [Lib.join_nil]
  | cons x r =>
    have h1 := hl (x :: r) h
    rw [List.map_cons] at h1 ⊢
    rw [Lib.join_length]
    simp only [List.length_cons, List.length_map, List.length_nil] at h1 ⊢
    omega
theorem extract_list (s : ByteArray) (a b : Nat) : (ByteArray.extract s a b).data.toList = (s.data.toList.drop a).take (b - a) := by
  rw [ByteArray.data_extract, Array.toList_extract]
  all_goals rfl
theorem ba_len2 (x : ByteArray) : x.data.toList.length = x.size := by rw [Array.length_toList]; rfl
theorem loop158 (s : ByteArray) (hs : s.size ≤ 1048576) : ∀ (r : List UInt8) (k : Nat) (ps : List ByteArray) (f : Nat), s.data.toList.drop k = r → k + r.length = s.size → f ≤ k → ps.length ≤ k →
    ∃ (ps' : List ByteArray) (f' : Nat), lpO (S158_L1 s 46) (ps, (f : Int), (k : Int)) = some (.inl (ps', (f' : Int), ((s.size : Nat) : Int))) ∧ f' ≤ s.size ∧ ps'.length ≤ s.size ∧
      (ps' ++ [ByteArray.extract s f' s.size]).map (·.data.toList) = ps.map (·.data.toList) ++ gl ((s.data.toList.drop f).take (k - f)) (cut 46 r) := by
  intro r
  induction r with
  | nil =>
    intro k ps f hd hk hf hp
    have hk' : k = s.size := by simpa using hk
    subst hk'
    refine ⟨ps, f, (lpO_dn (y := (ps, (f : Int), ((s.size : Nat) : Int))) ?_).trans rfl, hf, hp, ?_⟩
    · simp only [S158_L1]
      rw [br_dec, if_neg (by omega)]
      rfl
    · simp [extract_list, cut, gl]
  | cons b r ih =>
    intro k ps f hd hk hf hp
    simp only [List.length_cons] at hk
    have hb : s.data.toList[k]? = some b := by rw [← List.head?_drop, hd]; rfl
    have hd' : s.data.toList.drop (k + 1) = r := by rw [← List.drop_drop, hd]; rfl
    have e4 : wi ((k : Int) + 1) = ((k + 1 : Nat) : Int) := by rw [wiid (by omega) (by omega)]; omega
    have h46 : ((b.toNat : Nat) : Int) = 46 ↔ b = 46 := by
      constructor
      · intro h; exact UInt8.toNat_inj.1 (by have : (46 : UInt8).toNat = 46 := rfl; omega)
      · rintro rfl; rfl
    by_cases h : b = 46
    · have step : S158_L1 s 46 (ps, (f : Int), (k : Int)) = some (.nx (ps ++ [ByteArray.extract s f k], ((k + 1 : Nat) : Int), ((k + 1 : Nat) : Int))) := by
        simp only [S158_L1]
        rw [br_dec, if_pos (by omega)]
        simp only [lookI_nat, hb, bno_s]
        rw [br_dec, if_pos (h46.2 h), ck_pos (by omega), ck_pos (by simp [roomA]; omega)]
        simp only [inlO_s, jn_l, e4, Int.toNat_natCast]
        rfl
      obtain ⟨ps', f', h1, h2, h3, h4⟩ := ih (k + 1) (ps ++ [ByteArray.extract s f k]) (k + 1) hd' (by omega) (Nat.le_refl _) (by simp; omega)
      refine ⟨ps', f', (lpO_nx step).trans h1, h2, h3, ?_⟩
      rw [h4]
      subst h
      rw [List.map_append, List.map_cons, List.map_nil, extract_list, Nat.sub_self, List.take_zero, gl_nil, cut, if_pos rfl]
      simp only [gl, List.append_nil, List.append_assoc, List.cons_append, List.nil_append]
    · have step : S158_L1 s 46 (ps, (f : Int), (k : Int)) = some (.nx (ps, (f : Int), ((k + 1 : Nat) : Int))) := by
        simp only [S158_L1]
        rw [br_dec, if_pos (by omega)]
        simp only [lookI_nat, hb, bno_s]
        rw [br_dec, if_neg (fun e => h (h46.1 e))]
        simp only [inlO_s, jn_l, e4]
        rfl
      obtain ⟨ps', f', h1, h2, h3, h4⟩ := ih (k + 1) ps f hd' (by omega) (by omega) (by omega)
      refine ⟨ps', f', (lpO_nx step).trans h1, h2, h3, ?_⟩
      rw [h4, cut, if_neg h, gl_gl]
      congr 2
      have e : k + 1 - f = (k - f) + 1 := by omega
      rw [e, List.take_add_one, List.getElem?_drop, show f + (k - f) = k by omega, hb]
      rfl
theorem P158_eq (s : ByteArray) (hs : s.size ≤ 1048576) : P158 s 46 = some (splitS s dotB) := by
  obtain ⟨ps', f', h1, h2, h3, h4⟩ := loop158 s hs s.data.toList 0 [] 0 rfl (by rw [ba_len2]; omega) (Nat.le_refl _) (Nat.le_refl _)
  simp only [P158, S158]
  unfold lp
  rw [show (([] : List ByteArray), (0 : Int), (0 : Int)) = (([] : List ByteArray), ((0 : Nat) : Int), ((0 : Nat) : Int)) from rfl, h1]
  simp only [jn_l]
  rw [ck_pos (by omega), ck_pos (by simp [roomA]; omega)]
  simp only [Int.toNat_natCast]
  congr 1
  apply ba_inj
  rw [h4, splitS_map]
  simp [gl_nil]
theorem splitS_len (s : ByteArray) : 0 < (splitS s dotB).length ∧ (splitS s dotB).length ≤ s.size + 1 := by
  have h := Lib.splitB_all dotB (by decide) 0 _ s rfl
  have h2 : Lib.countB s dotB ≤ s.size := Lib.countB_le dotB (by decide) _ s (Nat.le_refl _)
  unfold splitS
  omega
end Ab
