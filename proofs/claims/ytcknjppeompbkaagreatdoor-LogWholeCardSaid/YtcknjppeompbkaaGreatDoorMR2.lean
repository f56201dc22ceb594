/-
  Functions of the program as typed code, what they come to, and their contracts: written by program (mk.py).
-/
import Derived.Test.YtcknjppeompbkaaGreatDoorMR
set_option linter.all false
namespace Ab
open Go
set_option maxRecDepth 100000
section
variable (F102:Dim->Int->(Option Bool)) (F103:Dim->Int->Int->(Option (Int×Bool))) (F106:LD->(Option Int)) (F123:LD->LI->(Option Int)) (F125:LD->(Option Int)) (F129:LD->LI->LI->(Option (Int×Bool))) (F130:LD->LI->(Option Bool)) (F142:LD->Int->(Option LI)) (F151:LI->LI->(Option Bool)) (F94:LD->(Option (Int×Int×Int)))
end
end Ab
