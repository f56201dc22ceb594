/-
  Plain law: InputTells answers true.
-/
import Derived.Test.YthjpciiacibnhaaDoorW118
import Derived.Test.YthjpciiacibnhaaDoorQAl
namespace Ab
open Go
set_option linter.unusedVariables false
set_option linter.unusedSimpArgs false

theorem p118 (o : List Dim) (ho : Lst Dim.gd o) (l : List Entry) (hl : Lst Entry.gd l) (p : List Int) (hp : Lst I64 p) (n : Int) (hn : I64 n) (x : List Edit) (hx : Lst Edit.gd x) : P118 o l p n x = some true := by
  have hp1 := hp.1
  have g1 := one_gd (o := o) (l := l) (e := ⟨p, n, false⟩)
  have g2 := one_gd (o := o) (l := l) (e := ⟨p, 0, true⟩)
  have g3 := all_gd (o := o) (l := l) (xs := x)
  simp only [P118, S118, P122_eq o l hl, bno_s, P27_eq o l hl, P92_errOf, decide_true, P123_eq o p hp1, P134_eq hl hp1, P26_eq hl hp1, P25_eq hl hp1, P29_eq hl hp1, P137_eq hl hx, P112_eq hl hx, P136_eq _ _ g1, P136_eq _ _ g2, P136_eq _ _ g3]
  by_cases h : entsE o l = 0
  · have ok := ents_ok.1 h
    have e1 : oneL o l ⟨p, n, false⟩ = doL o l ⟨p, n, false⟩ := by unfold oneL; rw [if_pos h]
    have e2 : oneL o l ⟨p, 0, true⟩ = doL o l ⟨p, 0, true⟩ := by unfold oneL; rw [if_pos h]
    by_cases h2 : fitsE o p = 0
    · cases hg : getL l p <;> simp [h, h2, P135_eq ok, hp1, e1, e2, cellL, hg]
    · simp [h, h2, P135_eq ok, hp1, e1, e2]
  · have e1 : oneL o l ⟨p, n, false⟩ = ([], entsE o l) := by unfold oneL; rw [if_neg h]
    have e2 : oneL o l ⟨p, 0, true⟩ = ([], entsE o l) := by unfold oneL; rw [if_neg h]
    simp [h, e1, e2]
end Ab
