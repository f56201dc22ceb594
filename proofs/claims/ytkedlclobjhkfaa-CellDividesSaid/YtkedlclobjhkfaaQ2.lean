/-
  Plain law: CellDivides answers true.
-/
import Derived.Test.YtkedlclobjhkfaaW2
import Derived.Test.YtkedlclobjhkfaaQC
import Derived.Test.YtkedlclobjhkfaaLG
namespace Ab
open Go
set_option linter.unusedVariables false

theorem p2 (a : Int) (ha : I64 a) (b : Int) (hb0 : I64 b) : P2 a b = some true := by
  by_cases h0 : a < -1000000
  · simp [P2, S2, h0]
  by_cases h1 : 1000000 < a
  · simp [P2, S2, h0, h1]
  by_cases h2 : b < -1000000
  · simp [P2, S2, h0, h1, h2]
  by_cases h3 : 1000000 < b
  · simp [P2, S2, h0, h1, h2, h3]
  have ca : cellOf a = ⟨1, a⟩ := by simp [cellOf, within]; omega
  have cb : cellOf b = ⟨1, b⟩ := by simp [cellOf, within]; omega
  have na : ¬ badC ⟨1, a⟩ := by simp [badC, within]; omega
  have nb : ¬ badC ⟨1, b⟩ := by simp [badC, within]; omega
  by_cases hb : b = 0
  · subst hb
    simp [P2, S2, h0, h1, ca, cb, na, nb, cboth, cover]
  have hq : -1000000 ≤ Int.tdiv a b ∧ Int.tdiv a b ≤ 1000000 := by
    have := Int.natAbs_tdiv_le_natAbs a b
    omega
  have wq : wi (Int.tdiv a b) = Int.tdiv a b := wiid (by omega) (by omega)
  have cq : cellOf (Int.tdiv a b) = ⟨1, Int.tdiv a b⟩ := by simp [cellOf, within]; omega
  have nq : ¬ badC ⟨1, Int.tdiv a b⟩ := by simp [badC, within]; omega
  have hr := Int.mul_tdiv_add_tmod a b
  have hm : Int.natAbs (Int.tmod a b) < Int.natAbs b := by rw [Int.natAbs_tmod]; exact Nat.mod_lt _ (by omega)
  have hs : (0 ≤ a → 0 ≤ Int.tmod a b) ∧ (a ≤ 0 → Int.tmod a b ≤ 0) := ⟨fun h => Int.tmod_nonneg b h, fun h => by have := Int.tmod_nonneg b (a := -a) (by omega); rw [Int.neg_tmod] at this; omega⟩
  have hp : Int.tdiv a b * b = a - Int.tmod a b := by rw [Int.mul_comm]; omega
  have cz : ctimes ⟨1, Int.tdiv a b⟩ ⟨1, b⟩ = ⟨1, a - Int.tmod a b⟩ := by
    have hw : within (Int.tdiv a b) = true := by simp [within]; omega
    have hwb : within b = true := by simp [within]; omega
    have no : ¬ (¬ Int.tdiv a b = 0 ∧ wi (Int.tdiv 1000000000000 (maxT (Int.tdiv a b) (wi (-Int.tdiv a b)))) < maxT b (wi (-b))) := by
      rintro ⟨hq0, hlt⟩
      rw [size_eq hw, size_eq hwb] at hlt
      have hs1 : ∀ z : Int, (if z < 0 then -z else z) = z.natAbs := fun z => by split <;> omega
      rw [hs1, hs1] at hlt
      have hpos : (0 : Int) < ((Int.tdiv a b).natAbs : Int) := by omega
      rw [Int.tdiv_eq_ediv_of_nonneg (by omega)] at hlt
      have hle : (1000000000000 : Int) / ((Int.tdiv a b).natAbs : Int) ≤ 1000000000000 := Int.ediv_le_self _ (by omega)
      have hge : (0 : Int) ≤ (1000000000000 : Int) / ((Int.tdiv a b).natAbs : Int) := Int.ediv_nonneg (by omega) (by omega)
      rw [wiid (by omega) (by omega)] at hlt
      have hprod : ((b.natAbs : Int)) * ((Int.tdiv a b).natAbs : Int) ≤ 1000000000000 := by
        rw [← Int.natCast_mul, ← Int.natAbs_mul, Int.mul_comm, hp]; omega
      have := (Int.le_ediv_iff_mul_le hpos).2 hprod
      omega
    have e1 : ctimes ⟨1, Int.tdiv a b⟩ ⟨1, b⟩ = cellOf (wi (Int.tdiv a b * b)) := by
      unfold ctimes
      rw [if_neg (by simp), if_neg (by simp), if_neg no]
    rw [e1, hp, wiid (by omega) (by omega)]
    simp [cellOf, within]; omega
  have nz : ¬ badC ⟨1, a - Int.tmod a b⟩ := by simp [badC, within]; omega
  have cs : cplus ⟨1, a⟩ ⟨1, a - Int.tmod a b⟩ (-1) = ⟨1, Int.tmod a b⟩ := by
    have e : a + -(a - Int.tmod a b) = Int.tmod a b := by omega
    simp [cplus, cellOf, within]
    rw [wiid (n := -(a - Int.tmod a b)) (by omega) (by omega), e, wiid (by omega) (by omega)]
    simp; omega
  simp [P2, S2, h0, h1, h2, h3, ca, cb, na, nb, cboth, cover, hb, wq, cq, nq, cz, nz, cs]
  have e : wi (-b) = -b := wiid (by omega) (by omega)
  rw [e, wiid (n := -(if b < 0 then -b else b)) (by split <;> omega) (by split <;> omega)]
  obtain ⟨s1, s2⟩ := hs
  refine ⟨by split <;> omega, by split <;> omega, ?_⟩
  split <;> omega
end Ab
