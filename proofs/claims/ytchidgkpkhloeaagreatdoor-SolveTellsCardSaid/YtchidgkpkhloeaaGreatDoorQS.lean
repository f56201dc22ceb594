/-
  Plain laws: what the functions of package tallysame come to.
-/
import Derived.Test.YtchidgkpkhloeaaGreatDoorC1
set_option linter.unusedVariables false
set_option linter.unusedSimpArgs false
namespace Ab
open Go
@[simp] theorem P92_nil (e:Int):P92 .nil e=some (decide (0=e)):=rfl
@[simp] theorem P92_no (k e:Int):P92 (.no k) e=some (decide (k=e)):=rfl
@[simp] theorem P92_errOf (k e:Int):P92 (zB k) e=some (decide (k=e)):=by
 unfold zB;split
 ·subst k;rfl
 ·rfl
end Ab
