import Derived.Test.YtchidgkpkhloeaaGreatDoorF1
set_option linter.unusedVariables false
noncomputable section
namespace Ab
open Go
section
set_option maxRecDepth 100000
section
variable (F105:Err->(Option Int))
def tc92:TCode:=.seq (rg [om 4 (cb false)]) (.seq (rg [om 6 0,oq 7 (.call false [] 105 [6]),om 5 7]) (.seq (rg [om 8 5,om 9 1,oq 10 (.bin .int .eql 8 9),om 4 10]) (.ret))) 
def tf92:TFunc:=⟨2,11,[.tmp 4],false,tc92,[]⟩
def S92 (a0:Err) (a1:Int):Option Bool :=
 bno (F105 a0) fun y1 =>
 some (decide (y1=a1))
def P92:=S92 P105
def k92:CSpec:=⟨92,[.err,.int],.bool,fun x=>P92 x.1 x.2,false,[]⟩
theorem r92 {S:Seat} (h:Ok1 S 92 tf92):RtF S [k105] (Rt S k92):=okr h rfl fun x=>by kernel_rfl
end
end
section
set_option maxRecDepth 100000
section
variable (F28:LI->LI->(Option Bool))
end
end
end Ab
