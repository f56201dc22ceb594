import Derived.Test.YtchidgkpkhloeaaGreatDoorHJ
import Derived.Test.YtchidgkpkhloeaaGreatDoorH2
import Derived.Test.YtchidgkpkhloeaaGreatDoorF4
set_option linter.unusedVariables false
set_option linter.unusedSimpArgs false
set_option linter.unusedSectionVars false
namespace Ab
open Go
section
@[simp] theorem P92_nil (e:Int):P92 .nil e=some (decide (0=e)):=rfl
@[simp] theorem P92_no (k e:Int):P92 (.no k) e=some (decide (k=e)):=rfl
@[simp] theorem P92_errOf (k e:Int):P92 (zm k) e=some (decide (k=e)):=by
 unfold zm;split
 ·subst k;rfl
 ·rfl
end
section
section
variable {o:List Dim} {p k:List Int} (ok:OutOk o) (hp:Fit o p) (hk:Fit o k)
include ok hp hk
end
end
section
def zax (o:List Dim) (p:List Int):Int:=if (qP o).2.2=0 then ja o p else (qP o).2.2
theorem P114_eq (o:List Dim) (p:List Int) (h:p.length<=9223372036854775807):P114 o p=some (zm (zax o p)):=by simp only[P114,S114,P51_eq,zj,zB,zax];by_cases h0:(qP o).2.2=0<;>simp[h0,zeF o p h]
theorem zcA {o:List Dim} {p:List Int}:zax o p=0↔OutOk o∧Fit o p:=by
 unfold zax;by_cases h0:(qP o).2.2=0
 ·rw[if_pos h0,q9];exact ⟨fun h=>⟨zay.1 h0,h⟩,fun h=>h.2⟩
 ·rw[if_neg h0];exact ⟨fun h=>absurd h h0,fun h=>absurd (zay.2 h.1) h0⟩
end
end Ab
