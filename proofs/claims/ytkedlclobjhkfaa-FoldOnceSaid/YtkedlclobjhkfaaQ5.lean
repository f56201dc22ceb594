/-
  Plain law: FoldOnce answers true.
-/
import Derived.Test.YtkedlclobjhkfaaW5
import Derived.Test.YtkedlclobjhkfaaQFo
import Derived.Test.YtkedlclobjhkfaaQF
import Derived.Test.YtkedlclobjhkfaaQS
namespace Ab
open Go
set_option linter.unusedVariables false
set_option linter.unusedSimpArgs false

theorem fact5 : entsE (squareO 1) [⟨[1, 1], 7⟩] = 0 ∧ (writeC (squareO 1) [⟨[1, 1], 7⟩]).length = 4 ∧ (writeC (squareO 1) [⟨[1, 1], 7⟩])[3]? = some ⟨1, 7⟩ := by decide +kernel
theorem p5 (o : List Dim) (ho : Lst Dim.gd o) (l : List Entry) (hl : Lst Entry.gd l) (dim : Int) (hd : I64 dim) : P5 o l dim = some true := by
  obtain ⟨f1, f2, f3⟩ := fact5
  have hone : Lst Entry.gd [⟨[1, 1], 7⟩] := by
    refine ⟨by simp, fun x hx => ?_⟩
    rw [List.mem_singleton] at hx
    subst hx
    refine ⟨⟨by simp, fun y hy => ?_⟩, by simp [I64]⟩
    simp at hy
    subst hy
    simp [I64]
  have e22 : P22 1 = some (squareO 1) := P22_eq 1 (by omega)
  have e1 : P21 (squareO 1) [⟨[1, 1], 7⟩] = some (writeC (squareO 1) [⟨[1, 1], 7⟩], .nil) := by rw [P21_eq _ _ (by simp [squareO]) hone, if_pos f1]
  have hlk : lookI (writeC (squareO 1) [⟨[1, 1], 7⟩]) 3 = some ⟨1, 7⟩ := (lookI_nat 3).trans f3
  have h4 : ((((writeC (squareO 1) [⟨[1, 1], 7⟩]).length : Nat)) : Int) = 4 := by rw [f2]; rfl
  have e8 : cellOf 7 = ⟨1, 7⟩ := by decide
  simp only [P5, S5, e22, bno_s, e1, nil_isNil, Bool.not_true, br_false, h4, not_true, decide_false, hlk, P8_eq, e8, decide_true, Bool.and_self, inlO_s, jn_l, P21_eq o l ho.1 hl]
  by_cases h0 : entsE o l = 0
  case neg => simp [h0, errOf_nil]
  have eo := ents_ok.1 h0
  have ok := eo.out
  have hz := ok.sizeN
  have hlen := writeC_len o l
  rw [if_pos h0]
  simp only [nil_isNil, Bool.not_true, br_false]
  have hout : (outErr o).2.2 = 0 := out_ok.2 ok
  have once : ∀ cs : List Cell, cs.length = sizeN o → (∀ c ∈ cs, ¬ badC c) → onceE o cs dim = if dim < 0 ∨ ((o.length : Nat) : Int) ≤ dim then 1 else 0 := by
    intro cs h1 h2
    have hany : ¬ cs.any (fun c => decide (badC c)) = true := fun h => by
      obtain ⟨c, hc, hb⟩ := List.any_eq_true.1 h
      exact h2 c hc (by simpa using hb)
    have hsz : ((cs.length : Nat) : Int) = sizeW o := by rw [h1, hz.1]
    unfold onceE
    rw [if_neg (by simpa using hout), if_neg (by simpa using hsz), if_neg hany]
  have o1 := once _ hlen (bad_writeC o l)
  rw [P23_eq o _ dim ho.1 (by omega), o1]
  by_cases h1 : dim < 0
  · simp [h1, errOf]
  by_cases h2 : ((o.length : Nat) : Int) ≤ dim
  · simp [h1, h2, errOf]
  obtain ⟨n, rfl⟩ := Int.eq_ofNat_of_zero_le (by omega : 0 ≤ dim)
  have hn : n < o.length := by omega
  have hd := List.getElem?_eq_getElem hn
  have hneg : ¬ ((n : Int) < 0 ∨ ((o.length : Nat) : Int) ≤ (n : Int)) := by omega
  simp only [if_neg hneg, if_true]
  have ec : onceC o (writeC o l) (n : Int) = foldC o n o[n].members (writeC o l) := by simp only [onceC, Int.toNat_natCast, hd]
  have el := foldC_len ok hd (writeC o l)
  have o2 := once (foldC o n o[n].members (writeC o l)) (by rw [el]; exact hlen) (bad_foldC _ (bad_writeC o l))
  have ec2 : onceC o (foldC o n o[n].members (writeC o l)) (n : Int) = foldC o n o[n].members (writeC o l) := by simp only [onceC, Int.toNat_natCast, hd]; exact fold_fold ok hd _
  simp only [bno_s, ec, nil_isNil, Bool.not_true, br_false]
  rw [P23_eq o _ (n : Int) ho.1 (by omega), o2]
  simp only [if_neg hneg, if_true, ec2]
  simp only [bno_s, nil_isNil, br_true, P24_eq _ _ (by omega : (foldC o n o[n].members (writeC o l)).length ≤ 9223372036854775807), decide_true, inlO_s, jn_l]
end Ab
