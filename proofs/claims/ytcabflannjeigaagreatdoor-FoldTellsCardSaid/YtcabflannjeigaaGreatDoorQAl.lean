/-
  Plain laws: all edits, one by one; the reference.
-/
import Derived.Test.YtcabflannjeigaaGreatDoorMAl
import Derived.Test.YtcabflannjeigaaGreatDoorC3
import Derived.Test.YtcabflannjeigaaGreatDoorQIn
import Derived.Test.YtcabflannjeigaaGreatDoorC5
namespace Ab
open Go
set_option linter.unusedVariables false
set_option linter.unusedSimpArgs false

theorem P155_eq {l : List Entry} {p : List Int} (hl : Lst Entry.gd l) (hp : p.length ≤ 9223372036854775807) : P155 l p = some ((locL l p : Int), hasL l p) := by
  have hlen := hl.1
  have hat : ∀ (i : Nat) (e : Entry), l[i]? = some e → i < locL l p → cmpL e.at_ p < 0 := by
    have : ∀ (l : List Entry) (i : Nat) (e : Entry), l[i]? = some e → i < locL l p → cmpL e.at_ p < 0 := by
      intro l
      induction l with
      | nil => intro i e h; cases h
      | cons a l ih =>
        intro i e h hi
        simp only [locL] at hi
        split at hi
        · rename_i c
          cases i with
          | zero => cases h; exact c
          | succ i => exact ih i e (by simpa using h) (by omega)
        · omega
    exact this l
  have hend : ∀ e, l[locL l p]? = some e → ¬ cmpL e.at_ p < 0 := by
    have : ∀ (l : List Entry) (e : Entry), l[locL l p]? = some e → ¬ cmpL e.at_ p < 0 := by
      intro l
      induction l with
      | nil => intro e h; cases h
      | cons a l ih =>
        intro e h
        simp only [locL] at h
        split at h
        · rename_i c; exact ih e (by simpa using h)
        · rename_i c; cases h; exact c
    exact this l
  have hle := loc_le l p
  have hs := seq_loop (B := S155_L1 P151 l p) (fun i => (i : Int)) (locL l p) (fun i hi => by
    have hi' : i < l.length := by omega
    have e : ((i : Nat) : Int) < ((l.length : Nat) : Int) := by omega
    have ee := List.getElem?_eq_getElem hi'
    have hg := hl.2 _ (List.getElem_mem hi')
    have c := hat i _ ee hi
    simp only [S155_L1, e, decide_true, br_true, lookI_nat, ee, bno_s, P151_eq _ _ hg.1.1, c, inlO_s, jn_l, nxO_s]
    rw [wiid (by omega) (by omega)]
    rfl)
  have hs : lpO (S155_L1 P151 l p) 0 = lpO (S155_L1 P151 l p) ((locL l p : Nat) : Int) := hs
  by_cases c : locL l p < l.length
  · have e : ((locL l p : Nat) : Int) < ((l.length : Nat) : Int) := by omega
    have e2 : ¬ ((locL l p : Nat) : Int) = ((l.length : Nat) : Int) := by omega
    have ee := List.getElem?_eq_getElem c
    have hg := hl.2 _ (List.getElem_mem c)
    have hc := hend _ ee
    have hdn : lpO (S155_L1 P151 l p) ((locL l p : Nat) : Int) = some (.inl ((locL l p : Nat) : Int)) := lpO_dn (by simp [S155_L1, e, lookI_nat, ee, P151_eq _ _ hg.1.1, hc])
    simp only [P155, S155, lp_eq, hs, hdn, jn_l, e2, decide_false, br_false, lookI_nat, ee, bno_s, P151_eq _ _ hp]
    rw [has_loc, ee]
    simp only
    by_cases h0 : cmpL l[locL l p].at_ p = 0
    · have : ¬ cmpL p l[locL l p].at_ < 0 := by rw [cmpL_swap l[locL l p].at_ p]; omega
      simp [h0, this]
    · have := cmpL_neg hc h0
      simp [h0, this]
  · have e : ¬ ((locL l p : Nat) : Int) < ((l.length : Nat) : Int) := by omega
    have e2 : ((locL l p : Nat) : Int) = ((l.length : Nat) : Int) := by omega
    have ee : l[locL l p]? = none := List.getElem?_eq_none (by omega)
    have hdn : lpO (S155_L1 P151 l p) ((locL l p : Nat) : Int) = some (.inl ((locL l p : Nat) : Int)) := lpO_dn (by simp [S155_L1, e])
    simp only [P155, S155, lp_eq, hs, hdn, jn_l]
    rw [has_loc, ee]
    simp [e2]
theorem P134_eq {l : List Entry} {p : List Int} (hl : Lst Entry.gd l) (hp : p.length ≤ 9223372036854775807) : P134 l p = some (cellL (getL l p)) := by
  simp only [P134, S134, P155_eq hl hp, bno_s]
  rw [get_has]
  cases h : hasL l p with
  | false => simp [cellL]
  | true =>
    rw [has_loc] at h
    split at h
    · rename_i e he
      simp [lookI_nat, he, cellL]
    · cases h
/-! ### edit by edit -/

end Ab
