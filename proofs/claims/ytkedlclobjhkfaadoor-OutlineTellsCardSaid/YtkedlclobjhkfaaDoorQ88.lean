/-
  Plain law: OutlineTells answers true.
-/
import Derived.Test.YtkedlclobjhkfaaDoorW88
import Derived.Test.YtkedlclobjhkfaaDoorQS
import Derived.Test.YtkedlclobjhkfaaDoorQR
namespace Ab
open Go
set_option linter.unusedVariables false
set_option linter.unusedSimpArgs false

theorem p88 (o : List Dim) (ho : Lst Dim.gd o) (d : Dim) (hd : Dim.gd d) (s : ByteArray) (hs : Str s) : P88 o d s = some true := by
  have hl : d.members.length ≤ 9223372036854775807 := hd.2.2.1
  have e41 : P41 s = some (errOf (if nameBad s = true then 2 else 0)) := by rw [P41_eq]; cases nameBad s <;> rfl
  have e13 : P13 d s = some (if (dimErr d).2 = 0 then (if whereM d.members s < 0 then (0, errOf 5) else (whereM d.members s, errOf 0)) else (0, errOf (dimErr d).2)) := by rw [P13_eq]; rfl
  simp only [P88, S88, P94_eq, P14_eq, P95_eq, P15_eq, bno_s, P92_errOf, P96_eq d s hl, e13, e41, P97_eq, decide_true, br_true]
  by_cases h : (dimErr d).2 = 0
  · by_cases h2 : whereM d.members s < 0 <;> simp [h, h2]
  · simp [h]
end Ab
