/-
  Functions of the program as typed code, what they come to, and their contracts: written by program (mk.py).
-/
import Derived.Test.YtchidgkpkhloeaaDoorB2
import Derived.KernelRfl
import Derived.Test.YtchidgkpkhloeaaDoorMFm
import Derived.Test.YtchidgkpkhloeaaDoorMSt
namespace Ab
open Go
set_option linter.unusedVariables false
set_option maxRecDepth 100000

/- tallyhall/formula.tight -/
/- tallyhall/formula.text -/
/- tallyhall/formula.Print -/
end Ab
