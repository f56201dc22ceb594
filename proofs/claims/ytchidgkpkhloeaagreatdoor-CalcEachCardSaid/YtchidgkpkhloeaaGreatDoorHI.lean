import Derived.Test.YtchidgkpkhloeaaGreatDoorHC
import Derived.Test.YtchidgkpkhloeaaGreatDoorHE
set_option linter.unusedVariables false
set_option linter.unusedSimpArgs false
noncomputable section
namespace Ab
open Go
section
open Go Go.RowKit
end
section
set_option maxRecDepth 100000
section
variable (F100:Dim->Int->(Option LI)) (F106:LD->(Option Int)) (F134:LY->LI->(Option Cell)) (F140:LD->LI->(Option Int)) (F142:LD->Int->(Option LI)) (F146:Cell->Cell->Int->(Option Cell)) (F21:LD->LY->(Option (LC×Err))) (F210_214:LI->(Option LI)) (F211:LI->(Option LI)) (F250:LI->Int->Int->(Option LI)) (F54:LD->LC->Int->(Option LC))
def S250 (a0:LI) (a1:Int) (a2:Int):Option LI :=
 ck (decide (List.length a0<=zu)) <|
 ck (decide (0<=a1∧a1 < ((List.length a0:Nat):Int))) <|
 bno ((a0)[(Int.toNat a1)]?) fun y1 =>
 some (List.set a0 (Int.toNat a1) a2)
def P250:=S250
end
end
end Ab
