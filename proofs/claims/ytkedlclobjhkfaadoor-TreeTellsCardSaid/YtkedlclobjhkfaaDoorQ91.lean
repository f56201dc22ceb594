/-
  Plain law: TreeTells answers true.
-/
import Derived.Test.YtkedlclobjhkfaaDoorW91
import Derived.Test.YtkedlclobjhkfaaDoorQS
import Derived.Test.YtkedlclobjhkfaaDoorQT2
namespace Ab
open Go
set_option linter.unusedVariables false
set_option linter.unusedSimpArgs false

theorem up2_loop {d : Dim} (h : Rooted d.members) (hl : d.members.length ≤ 1000) : ∀ (n i : Nat), i ≤ n → i < d.members.length → ∀ acc : List Int, acc.length + i ≤ 2000 → lpO (S91_L1 d) (acc, (i : Int)) = some (.inl (acc ++ path d.members i, -1)) := by
  have room : ∀ k : Nat, k ≤ 3000 → k ≤ roomA := fun k hk => by unfold roomA; omega
  have neg : ∀ acc : List Int, lpO (S91_L1 d) (acc, -1) = some (.inl (acc, -1)) := fun acc => lpO_dn (by simp [S91_L1])
  intro n
  induction n with
  | zero =>
    intro i hi hlt acc ha
    have hm := List.getElem?_eq_getElem hlt
    have hu := h.up _ _ hm
    have hr := room (acc.length + 1) (by omega)
    have hp : (d.members[i]).parent = -1 := by omega
    rw [path_eq h hm, path_neg (by omega), lpO_nx (y := (acc ++ [(i : Int)], -1)), neg]
    have : (0 : Int) ≤ (i : Int) := by omega
    simp [S91_L1, hr, lookI_nat, hm, this, hp]
  | succ n ih =>
    intro i hi hlt acc ha
    have hm := List.getElem?_eq_getElem hlt
    have hu := h.up _ _ hm
    have hr := room (acc.length + 1) (by omega)
    have hnx : S91_L1 d (acc, (i : Int)) = some (.nx (acc ++ [(i : Int)], (d.members[i]).parent)) := by
      have : (0 : Int) ≤ (i : Int) := by omega
      simp [S91_L1, hr, lookI_nat, hm, this]
    rw [path_eq h hm, lpO_nx hnx]
    by_cases hp : (d.members[i]).parent < 0
    · have e : (d.members[i]).parent = -1 := by omega
      rw [path_neg hp, e, neg]
    · obtain ⟨k, hk⟩ := Int.eq_ofNat_of_zero_le (by omega : 0 ≤ (d.members[i]).parent)
      rw [hk] at hu ⊢
      rw [ih k (by omega) (by omega) (acc ++ [(i : Int)]) (by simp; omega)]
      simp
theorem len_loop {d : Dim} (h : Rooted d.members) (hl : d.members.length ≤ 1000) : ∀ (n i : Nat), i ≤ n → i < d.members.length → ∀ c : Nat, c + i ≤ 2000 → lpO (S91_L2 d) ((c : Int), (i : Int)) = some (.inl (((c + (path d.members i).length : Nat) : Int), -1)) := by
  have neg : ∀ c : Int, lpO (S91_L2 d) (c, -1) = some (.inl (c, -1)) := fun c => lpO_dn (by simp [S91_L2])
  intro n
  induction n with
  | zero =>
    intro i hi hlt c hc
    have hm := List.getElem?_eq_getElem hlt
    have hu := h.up _ _ hm
    have hp : (d.members[i]).parent = -1 := by omega
    rw [path_eq h hm, path_neg (by omega), lpO_nx (y := (((c + 1 : Nat) : Int), -1)), neg]
    · rfl
    · have : (0 : Int) ≤ (i : Int) := by omega
      simp only [S91_L2, this, decide_true, br_true, lookI_nat, hm, bno_s, nxO_s, hp]
      rw [wiid (by omega) (by omega)]; rfl
  | succ n ih =>
    intro i hi hlt c hc
    have hm := List.getElem?_eq_getElem hlt
    have hu := h.up _ _ hm
    have hnx : S91_L2 d ((c : Int), (i : Int)) = some (.nx (((c + 1 : Nat) : Int), (d.members[i]).parent)) := by
      have : (0 : Int) ≤ (i : Int) := by omega
      simp only [S91_L2, this, decide_true, br_true, lookI_nat, hm, bno_s, nxO_s]
      rw [wiid (by omega) (by omega)]; rfl
    rw [path_eq h hm, lpO_nx hnx]
    by_cases hp : (d.members[i]).parent < 0
    · have e : (d.members[i]).parent = -1 := by omega
      rw [path_neg hp, e, neg]; rfl
    · obtain ⟨k, hk⟩ := Int.eq_ofNat_of_zero_le (by omega : 0 ≤ (d.members[i]).parent)
      rw [hk] at hu ⊢
      rw [ih k (by omega) (by omega) (c + 1) (by omega)]
      simp only [List.length_cons]
      congr 3; omega
theorem depth_le {d : Dim} (h : Rooted d.members) : ∀ n : Nat, n ≤ d.members.length → 0 ≤ depthL d.members n ∧ depthL d.members n ≤ n := by
  intro n
  induction n with
  | zero => intro _; simp [depthL]
  | succ n ih =>
    intro hn
    have hp := path_len h n n (Nat.le_refl _) (by omega)
    have ⟨h1, h2⟩ := ih (by omega)
    have e : depthL d.members (n + 1) = maxT (depthL d.members n) (((path d.members n).length : Nat) : Int) := by
      unfold depthL; rw [List.range_succ, List.foldl_append]; rfl
    rw [e]; unfold maxT; split <;> omega

theorem p91 (d : Dim) (hd : Dim.gd d) (i : Int) (hi : I64 i) (leaf : Int) (hlf : I64 leaf) : P91 d i leaf = some true := by
  simp only [P91, S91, P95_eq, P16_eq, P17_eq, P18_eq, P19_eq, P20_eq, P99_eq, bno_s]
  by_cases h0 : (dimErr d).2 = 0
  case neg =>
    have t1 : treeErr d [i] = (dimErr d).2 := by unfold treeErr; rw [if_neg h0]
    have t2 : treeErr d [i, leaf] = (dimErr d).2 := by unfold treeErr; rw [if_neg h0]
    have hdp : lpO (S91_L3 d (dimErr d)) (0, 0) = some (.inl (0, 0)) := lpO_dn (by simp [S91_L3, h0])
    simp [h0, t1, t2, lp_eq, hdp, P104_eq]
  have ok := dim_ok.1 h0
  have hr := ok.rooted
  have hlen := ok.len
  have hdp : lpO (S91_L3 d (dimErr d)) (0, 0) = some (.inl (depthL d.members d.members.length, (d.members.length : Int))) := by
    have hs := seq_loop (B := S91_L3 d (dimErr d)) (fun k => (depthL d.members k, (k : Int))) d.members.length (fun k hk => by
      have e : ((k : Nat) : Int) < ((d.members.length : Nat) : Int) := by omega
      have hp := path_len hr k k (Nat.le_refl _) hk
      have hl := len_loop hr (by omega) k k (Nat.le_refl _) hk 0 (by omega)
      have hl : lpO (S91_L2 d) (0, (k : Int)) = some (.inl (((0 + (path d.members k).length : Nat) : Int), -1)) := hl
      have e2 : depthL d.members (k + 1) = maxT (depthL d.members k) (((path d.members k).length : Nat) : Int) := by
        unfold depthL; rw [List.range_succ, List.foldl_append]; rfl
      simp only [S91_L3, e, decide_true, br_true, inlO_s, jn_l, h0, lp_eq, hl, Nat.zero_add, e2]
      rw [wiid (by omega) (by omega)]
      unfold maxT
      by_cases hc : depthL d.members k < (((path d.members k).length : Nat) : Int) <;> simp [hc])
    exact hs.trans (lpO_dn (by simp [S91_L3]))
  simp only [h0, decide_true, br_true, if_true]
  have lens : ∀ (p : Nat → Bool), (idxs p d.members.length).length ≤ 9223372036854775807 := fun p => by have := idxs_len p d.members.length; omega
  by_cases hi1 : i < 0 ∨ (d.members.length : Int) ≤ i
  · have t1 : treeErr d [i] = 1 := by
      unfold treeErr badAt; rw [if_pos h0]
      rcases hi1 with h | h <;> simp [h]
    have t2 : treeErr d [i, leaf] = 1 := by
      unfold treeErr badAt; rw [if_pos h0]
      rcases hi1 with h | h <;> simp [h]
    rcases hi1 with h | h
    · simp [h, t1, t2, lp_eq, hdp, P104_eq, h0]
    · by_cases h' : i < 0 <;> simp [h, h', t1, t2, lp_eq, hdp, P104_eq, h0]
  · have hin : 0 ≤ i ∧ i < d.members.length := by omega
    have t1 : treeErr d [i] = 0 := treeErr_ok.2 ⟨ok, by simp; omega⟩
    have n1 : ¬ i < 0 := by omega
    have n2 : ¬ (d.members.length : Int) ≤ i := by omega
    obtain ⟨n, rfl⟩ := Int.eq_ofNat_of_zero_le hin.1
    have hn : n < d.members.length := by omega
    have hup : lpO (S91_L1 d) ([], (n : Int)) = some (.inl (path d.members n, -1)) := by
      have := up2_loop hr (by omega) n n (Nat.le_refl _) hn [] (by simp; omega)
      simpa using this
    have hpl := path_len hr n n (Nat.le_refl _) hn
    have q1 : ∀ b, P104 (partsOf d.members n) b = some (decide (partsOf d.members n = b)) := fun b => P104_eq _ _ (lens _)
    have q2 : ∀ b, P104 (leafsOf d.members n) b = some (decide (leafsOf d.members n = b)) := fun b => P104_eq _ _ (lens _)
    have q3 : ∀ b, P104 (path d.members n) b = some (decide (path d.members n = b)) := fun b => P104_eq _ _ (by omega)
    simp only [n1, n2, decide_false, br_false, inlO_s, br_inl, jn_l, cond_dec, if_false, decide_true, br_true, P100_eq (by omega : d.members.length ≤ 1000), P101_eq hr (by omega : d.members.length ≤ 1000) hin.1, P102_eq (by omega : d.members.length ≤ 1000) hn, bno_s, lp_eq, hup, t1, if_true, q1, q2, q3, Int.toNat_natCast]
    by_cases hl1 : leaf < 0 ∨ (d.members.length : Int) ≤ leaf
    · have t2 : treeErr d [(n : Int), leaf] = 1 := by
        unfold treeErr badAt; rw [if_pos h0]
        rcases hl1 with h | h <;> simp [h]
      rcases hl1 with h | h
      · simp [h, t2, hdp, h0]
      · by_cases h' : leaf < 0 <;> simp [h, h', t2, hdp, h0]
    · have hlin : 0 ≤ leaf ∧ leaf < d.members.length := by omega
      have t2 : treeErr d [(n : Int), leaf] = 0 := treeErr_ok.2 ⟨ok, by simp; omega⟩
      have m1 : ¬ leaf < 0 := by omega
      have m2 : ¬ (d.members.length : Int) ≤ leaf := by omega
      obtain ⟨k, rfl⟩ := Int.eq_ofNat_of_zero_le hlin.1
      have hk : k < d.members.length := by omega
      simp only [m1, m2, decide_false, if_false, br_false, decide_true, br_true, P102_eq (by omega : d.members.length ≤ 1000) hk, P103_eq hr hin.1 hk, bno_s, t2, if_true, Int.toNat_natCast, hdp]
      cases leafB d.members k <;> simp [h0]
end Ab
