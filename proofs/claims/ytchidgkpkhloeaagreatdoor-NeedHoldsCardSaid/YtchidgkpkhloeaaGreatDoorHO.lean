import Derived.Test.YtchidgkpkhloeaaGreatDoorHI
import Derived.Test.YtchidgkpkhloeaaGreatDoorH3
set_option linter.unusedVariables false
set_option linter.unusedSimpArgs false
namespace Ab
open Go
section
set_option maxRecDepth 100000
section
variable (F100:Dim->Int->(Option LI)) (F102:Dim->Int->(Option Bool)) (F106:LD->(Option Int)) (F130:LD->LI->(Option Bool)) (F134:LY->LI->(Option Cell)) (F140:LD->LI->(Option Int)) (F142:LD->Int->(Option LI)) (F146:Cell->Cell->Int->(Option Cell)) (F243:LN->(Option (List ByteArray))) (F247:ByteArray->(Option (LN×Int×Int))) (F250:LI->Int->Int->(Option LI)) (F292:LN->Int->(List ByteArray)->LC->(Option Cell)) (F321:Dim->(Option ((List LI)×Int×Int))) (F325:LD->(List (List LI))->LI->(Option LI)) (F326:LD->(Option (List (List LI)))) (F337:LD->LI->(Option Int)) (F338:LD->(Option (List LI))) (F347:LI->Int->(Option LI)) (F354:LD->LY->LI->LC->(Option Cell)) (F96:Dim->ByteArray->(Option Int))
end
end
section
section
variable {o:List Dim} {p:List Int} (hf:Fit o p) (hl:p.length<=1000) (hd:∀ d∈o,d.members.length<=1000)
include hf hl hd
end
end
end Ab
