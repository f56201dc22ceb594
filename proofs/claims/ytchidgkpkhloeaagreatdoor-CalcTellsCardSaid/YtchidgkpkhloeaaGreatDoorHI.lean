import Derived.Test.YtchidgkpkhloeaaGreatDoorHC
import Derived.Test.YtchidgkpkhloeaaGreatDoorHE
set_option linter.all false
noncomputable section
namespace Ab
open Go
section
open Go Go.RowKit
end
section
set_option maxRecDepth 100000
section
variable (F100:Dim->Int->(Option LI)) (F106:LD->(Option Int)) (F134:LY->LI->(Option Cell)) (F140:LD->LI->(Option Int)) (F142:LD->Int->(Option LI)) (F146:Cell->Cell->Int->(Option Cell)) (F21:LD->LY->(Option (LC×Err))) (F210_214:LI->(Option LI)) (F211:LI->(Option LI)) (F250:LI->Int->Int->(Option LI)) (F54:LD->LC->Int->(Option LC))
def mn:TCode:=.seq (rg [om 6 cn]) (.seq (rg [om 7 cn]) (.seq (rg [om 8 7,om 9 0,oq 10 (.app 1 8 9),om 7 10]) (.seq (rg [om 11 7,om 12 1,om 13 2,oq 14 (.ia 1 11 12),on (.store 1 14 13)]) (.seq (rg [om 15 7,om 6 15]) (.ret))))) 
def lx:TFunc:=⟨3,16,[.tmp 6],false,mn,[]⟩
def S250 (a0:LI) (a1:Int) (a2:Int):Option LI :=
 ck (decide (List.length a0<=zu)) <|
 ck (decide (0<=a1∧a1 < (a0.length:Int))) <|
 bno ((a0)[(Int.toNat a1)]?) fun y1 =>
 some (List.set a0 (Int.toNat a1) a2)
def P250:=S250
def fV:CSpec:=⟨250,[(.sl .int),.int,.int],(.sl .int),fun x=>P250 x.1 x.2.1 x.2.2,false,[]⟩
def pJ {S:Seat} (h:Ok1 S 250 lx):RtF S [] (Rt S fV):=okr h rfl fun x=>by kernel_rfl
end
end
end Ab
