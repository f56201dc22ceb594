import Derived.Test.YtchidgkpkhloeaaGreatDoorHC
import Derived.Test.YtchidgkpkhloeaaGreatDoorHE
set_option linter.unusedVariables false
set_option linter.unusedSimpArgs false
namespace Ab
open Go
section
open Go Go.RowKit
end
section
set_option maxRecDepth 100000
section
variable (F100:Dim->Int->(Option LI)) (F106:LD->(Option Int)) (F134:LY->LI->(Option Cell)) (F140:LD->LI->(Option Int)) (F142:LD->Int->(Option LI)) (F146:Cell->Cell->Int->(Option Cell)) (F21:LD->LY->(Option (LC×Err))) (F210_214:LI->(Option LI)) (F211:LI->(Option LI)) (F250:LI->Int->Int->(Option LI)) (F54:LD->LC->Int->(Option LC))
end
end
end Ab
