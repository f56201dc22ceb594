/-
  Functions of the program as typed code, what they come to, and their contracts: written by program (mk.py).
-/
import Derived.Test.YtcknjppeompbkaaGreatDoorB2
set_option linter.all false
namespace Ab
open Go
set_option maxRecDepth 100000
section
variable (F150:Int->(Option Cell)) (F159:Int->(Option ByteArray)) (F160:Int->(Option Int)) (F161:ByteArray->Int->(Option (Int×Bool)))
end
end Ab
