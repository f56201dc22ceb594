import Derived.Test.YtckaniphjiniiaaGreatDoorF1
set_option linter.all false
noncomputable section
namespace Ab
open Go
section
set_option maxRecDepth 100000
section
variable (F105:Err->(Option Int))
def S92 (a0:Err) (a1:Int):Option Bool :=
 bno (F105 a0) fun y1 =>
 some (decide (y1=a1))
def P92:=S92 P105
end
end
section
set_option maxRecDepth 100000
section
variable (F28:LI->LI->(Option Bool))
end
end
section
set_option maxRecDepth 100000
section
variable (F50:ByteArray->Int->(Option Dim)) (F68:Int->(Option ByteArray))
end
end
end Ab
