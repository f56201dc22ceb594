/-
  Plain law: FormulaTells answers true.
-/
import Derived.Test.YtcabflannjeigaaGreatDoorW235
import Derived.Test.YtcabflannjeigaaGreatDoorC8
import Derived.Test.YtcabflannjeigaaGreatDoorC9
import Derived.Test.YtcabflannjeigaaGreatDoorQDi
import Derived.Test.YtcabflannjeigaaGreatDoorQS
import Derived.Test.YtcabflannjeigaaGreatDoorLG
namespace Ab
open Go
set_option linter.unusedVariables false
set_option linter.unusedSimpArgs false

theorem P249_same (l : List Node) (h : l.length ≤ 9223372036854775807) : P249 l l = some true := by
  simp only [P249, S249]
  rw [br_dec, if_neg (by simp)]
  have hs := seq_loop (B := S249_L1 l l) (fun i => (i : Int)) l.length (fun i hi => by
    have hg := List.getElem?_eq_getElem hi
    simp only [S249_L1]
    rw [br_dec, if_pos (by omega)]
    simp only [lookI_nat, hg, bno_s, decide_true, Bool.and_self, Bool.not_true, br_false]
    rw [wiid (by omega) (by omega)]
    rfl)
  rw [lp_eq, show lpO (S249_L1 l l) 0 = _ from hs, lpO_dn (y := ((l.length : Nat) : Int)) (by simp only [S249_L1]; rw [br_dec, if_neg (by omega)]; rfl)]
  rfl
def rankI (o : Int) : Int := if o = 3 ∨ o = 4 then 1 else if o = 5 ∨ o = 6 then 2 else 3
theorem P253_eq (o : Int) : P253 o = some (rankI o) := by
  simp only [P253, S253]
  by_cases h3 : o = 3 <;> by_cases h4 : o = 4 <;> by_cases h5 : o = 5 <;> by_cases h6 : o = 6 <;> simp [rankI, h3, h4, h5, h6]
theorem six {o : Int} (h : 1 ≤ o ∧ o ≤ 6) : o = 1 ∨ o = 2 ∨ o = 3 ∨ o = 4 ∨ o = 5 ∨ o = 6 := by omega
theorem rank_l {o c : Int} (ho : 1 ≤ o ∧ o ≤ 6) (h3 : 3 ≤ o) (hc : 1 ≤ c ∧ c ≤ 6) : decide (rankI c < rankI o) = lpar o c := by
  rcases six ho with rfl | rfl | rfl | rfl | rfl | rfl <;> first | omega | (rcases six hc with rfl | rfl | rfl | rfl | rfl | rfl <;> decide)
theorem rank_r {o c : Int} (ho : 1 ≤ o ∧ o ≤ 6) (h3 : 3 ≤ o) (hc : 1 ≤ c ∧ c ≤ 6) : decide (rankI c ≤ rankI o) = rpar o c := by
  rcases six ho with rfl | rfl | rfl | rfl | rfl | rfl <;> first | omega | (rcases six hc with rfl | rfl | rfl | rfl | rfl | rfl <;> decide)
section
variable {l : List Node}
theorem text2_eq : ∀ (f : Nat) (e : Fx) (i : Nat), Tr l e i → e.Fine → i < f → e.sz ≤ 1000 → P242n f l (i : Int) = some e.text
  | 0, _, _, _, _, h, _ => by omega
  | f + 1, .num n, i, h, hf, _, _ => by
    have hf := hf
    show S242 P159 (P242n f) P253 l (i : Int) = _
    simp only [S242, lookI_nat, show l[i]? = _ from h, bno_s, decide_true, br_true, P159_eq (n := n) (by obtain ⟨h1, h2⟩ := hf; simp [within]; omega)]
    rfl
  | f + 1, .ref s, i, h, hf, _, _ => by
    show S242 P159 (P242n f) P253 l (i : Int) = _
    simp only [S242, lookI_nat, show l[i]? = _ from h, bno_s]
    rfl
  | f + 1, .bin o a b, i, h, hf, hi, hsz => by
    obtain ⟨m, k, h, h1, h2, h3, h4⟩ := h
    obtain ⟨g1, g2, g3, g4⟩ := hf
    simp only [Fx.sz] at hsz
    obtain ⟨x, hx, ex⟩ := h3.at_
    obtain ⟨y, hy, ey⟩ := h4.at_
    have z1 := text_size g3
    have z2 := text_size g4
    have o1 := g3.op
    have o2 := g4.op
    show S242 P159 (P242n f) P253 l (i : Int) = _
    simp only [S242, lookI_nat, h, bno_s]
    rw [br_dec, if_neg (by omega), br_dec, if_neg (by omega), text2_eq f a m h3 g3 (by omega) (by omega), text2_eq f b k h4 g4 (by omega) (by omega)]
    simp only [bno_s, hx, hy, ex, ey, P253_eq]
    rw [rank_l (by omega) g1 o1, rank_r (by omega) g1 o2, par_ck _ (by omega), par_ck _ (by omega)]
    have p1 := parB_size (lpar o a.op) a.text
    have p2 := parB_size (rpar o b.op) b.text
    have e1 : wi (o - 3) = o - 3 := wiid (by omega) (by omega)
    have e2 : wi (o - 2) = o - 2 := wiid (by omega) (by omega)
    rw [e1, e2, sgB_cut ⟨g1, g2⟩]
    rw [ck_pos ⟨by omega, by omega, by show o - 2 ≤ ((4 : Nat) : Int); omega⟩, ck_pos (by rw [sgB_size]; omega), ck_pos (by rw [ByteArray.size_append, sgB_size]; omega)]
    rfl
theorem P242_ok (ok : FormOk l) {e : Fx} (h : Tr l e (l.length - 1)) (hf : e.Fine) : P242 l ((l.length - 1 : Nat) : Int) = some e.text := by
  have hm := ok.most
  have hz := tr_sz ok h hf
  exact text2_eq _ e (l.length - 1) h hf (by rw [Int.toNat_natCast]; omega) (by omega)
end
theorem P246_self (l : List ByteArray) (h : l.length ≤ 9223372036854775807) : P246 l l = some true := by
  simp only [P246, S246]
  rw [br_dec, if_neg (by simp)]
  have hs := seq_loop (B := S246_L1 l l) (fun i => (i : Int)) l.length (fun i hi => by
    have hg := List.getElem?_eq_getElem hi
    simp only [S246_L1]
    rw [br_dec, if_pos (by omega)]
    simp only [lookI_nat, hg, bno_s]
    rw [br_dec, if_neg (by simp), wiid (by omega) (by omega)]
    rfl)
  rw [lp_eq, show lpO (S246_L1 l l) 0 = _ from hs, lpO_dn (y := ((l.length : Nat) : Int)) (by simp only [S246_L1]; rw [br_dec, if_neg (by omega)]; rfl)]
  rfl
/-- Both readers read alike. -/
theorem read_alike (s : ByteArray) : ∃ (l : List Node) (n e : Int), P247 s = some (l, n, e) ∧ P248 s = some (l, n, errOf e) ∧ l.length ≤ 30 := by
  unfold P247 P248
  by_cases hs : 100 < s.size
  · rw [if_pos hs, if_pos hs]
    exact ⟨[], 0, 4, rfl, rfl, by simp⟩
  · rw [if_neg hs, if_neg hs]
    obtain ⟨r, e⟩ := readS_some (s := s) (by omega)
    rw [e, show rd s 404 (.row true) 0 [] = some r from e]
    cases r with
    | bad b => exact ⟨[], b, 2, rfl, rfl, by simp⟩
    | ok i b l =>
      simp only
      by_cases hb : b < s.size
      · rw [if_pos hb, if_pos hb]
        exact ⟨[], b, 2, rfl, rfl, by simp⟩
      · rw [if_neg hb, if_neg hb, P240_eq, P241_eq]
        simp only [bno_s]
        by_cases h0 : formE l = 0
        · have ok := form_ok.1 h0
          have hm := ok.most
          refine ⟨l, 0, 0, ?_, ?_, hm⟩
          · rw [h0]; rfl
          · rw [h0]; rfl
        · refine ⟨[], 0, formE l, ?_, ?_, by simp⟩
          · rw [if_neg h0]
          · rw [errOf_nil, if_neg (by simpa using h0)]
theorem p235 (l : List Node) (hl : Lst Node.gd l) (s : ByteArray) (hs : Str s) : P235 l s = some true := by
  obtain ⟨r, n, e, h1, h2, h3⟩ := read_alike s
  simp only [P235, S235, P240_eq, P241_eq, bno_s, P92_errOf, decide_true, P245_eq, h1, h2]
  by_cases h0 : formE l = 0
  · have ok := form_ok.1 h0
    have hpos := ok.pos
    have hm := ok.most
    obtain ⟨x, hx, hf⟩ := tr_root ok
    have e1 : wi (((l.length : Nat) : Int) - 1) = ((l.length - 1 : Nat) : Int) := by rw [wiid (by omega) (by omega)]; omega
    rw [decide_eq_true h0, br_true, e1, P242_ok ok hx hf]
    simp only [bno_s, P243_eq l (by omega), inlO_s, jn_l, P244_ok ok hx hf, h0, if_true, P92_nil, decide_true]
    have hrl := refsOf_len l
    rw [P246_self _ (by omega)]
    simp only [bno_s]
    rw [P249_same r (by omega)]
    simp
  · rw [decide_eq_false h0, br_false]
    simp only [inlO_s, jn_l, P244_bad h0, bno_s, P92_errOf, decide_true, h0, if_false]
    rw [P246_self [] (by simp)]
    simp only [bno_s]
    rw [P249_same r (by omega)]
    simp
end Ab
