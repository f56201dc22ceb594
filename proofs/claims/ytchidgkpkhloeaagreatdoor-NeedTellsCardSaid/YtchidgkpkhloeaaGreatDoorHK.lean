import Derived.Test.YtchidgkpkhloeaaGreatDoorHN
import Derived.Test.YtchidgkpkhloeaaGreatDoorC5
set_option linter.unusedVariables false
set_option linter.unusedSimpArgs false
namespace Ab
open Go
section
end
section
theorem zh7 {o:List Dim} {p:List Int} (ok:OutOk o) (hf:Fit o p):zjV o p=some ((qE o p:Nat):Int):=by have hlen:=ok.len;have hpl:=hf.len;have hsame:zhX o p=zdH o p:=(by funext x;simp only[zhX,zdH];cases zm o x.2<;>cases zm p x.2<;>rfl);have h:=zi4 hf.len (by omega:p.length<=9223372036854775807);rw[zeT ok hf] at h;rw[← h];simp only[zjV,S140,P49,S49,hsame]
end
end Ab
