/-
  Functions of the program as typed code, what they come to, and their contracts: written by program (mk.py).
-/
import Derived.Test.YtchidgkpkhloeaaDoorB2
import Derived.KernelRfl
import Derived.Test.YtchidgkpkhloeaaDoorMC
import Derived.Test.YtchidgkpkhloeaaDoorMFm
namespace Ab
open Go
set_option linter.unusedVariables false
set_option maxRecDepth 100000

/- slices.Index[[]string,string] -/
/- slices.Contains[[]string,string] -/
/- tallyhall/reckon.Value$1 -/
/- tallyhall/reckon.By -/
/- tallyhall/reckon.Value -/
/- tallyhall/reckon.Const -/
end Ab
