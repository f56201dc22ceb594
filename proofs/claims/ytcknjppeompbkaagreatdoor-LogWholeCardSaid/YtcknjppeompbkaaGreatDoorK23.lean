import Derived.Test.YtcknjppeompbkaaGreatDoorK16
import Derived.Test.YtcknjppeompbkaaGreatDoorMRk
set_option linter.all false
namespace Ab
open Go
section
set_option maxRecDepth 100000
section
variable (F157:Int->(Option ByteArray)) (F241:LN->(Option Err)) (F252:Int->(Option Bool)) (F254:LN->Int->(Option ByteArray)) (F260:Int->(Option Bool))
end
end
section
section
variable {l:List Node} {names:List ByteArray} {cells:List Cell}
end
end
end Ab
