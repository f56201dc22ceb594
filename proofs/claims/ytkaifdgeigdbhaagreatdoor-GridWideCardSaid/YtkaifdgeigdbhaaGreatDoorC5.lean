import Derived.Test.YtkaifdgeigdbhaaGreatDoorHJ
import Derived.Test.YtkaifdgeigdbhaaGreatDoorH2
import Derived.Test.YtkaifdgeigdbhaaGreatDoorF4
set_option linter.unusedVariables false
set_option linter.unusedSimpArgs false
set_option linter.unusedSectionVars false
namespace Ab
open Go
section
@[simp] theorem P92_nil (e:Int):P92 .nil e=some (decide (0=e)):=rfl
@[simp] theorem P92_no (k e:Int):P92 (.no k) e=some (decide (k=e)):=rfl
@[simp] theorem P92_errOf (k e:Int):P92 (zy k) e=some (decide (k=e)):=by
 unfold zy;split
 ·subst k;rfl
 ·rfl
end
section
section
variable {o:List Dim} {p k:List Int} (ok:OutOk o) (hp:Fit o p) (hk:Fit o k)
include ok hp hk
end
end
section
end
end Ab
