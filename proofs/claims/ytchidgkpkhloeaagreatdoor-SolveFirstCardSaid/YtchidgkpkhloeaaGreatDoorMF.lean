/-
  Functions of the program as typed code, what they come to, and their contracts: written by program (mk.py).
-/
import Derived.Test.YtchidgkpkhloeaaGreatDoorB2
import Derived.KernelRfl
namespace Ab
open Go
set_option linter.unusedVariables false
set_option maxRecDepth 100000
end Ab
