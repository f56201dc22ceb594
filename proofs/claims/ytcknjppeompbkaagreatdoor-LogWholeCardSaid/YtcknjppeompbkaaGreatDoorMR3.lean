/-
  Functions of the program as typed code, what they come to, and their contracts: written by program (mk.py).
-/
import Derived.Test.YtcknjppeompbkaaGreatDoorMR2
import Derived.Test.YtcknjppeompbkaaGreatDoorK17
set_option linter.all false
namespace Ab
open Go
set_option maxRecDepth 100000
section
variable (F122:LD->LY->(Option Int)) (F123:LD->LI->(Option Int)) (F130:LD->LI->(Option Bool)) (F135:LD->LY->Edit->(Option (LY×Int))) (F151:LI->LI->(Option Bool)) (F155:LY->LI->(Option (Int×Bool))) (F28:LI->LI->(Option Bool))
end
end Ab
