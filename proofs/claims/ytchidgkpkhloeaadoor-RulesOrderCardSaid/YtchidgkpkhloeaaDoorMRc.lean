/-
  Functions of the program as typed code, what they come to, and their contracts: written by program (mk.py).
-/
import Derived.Test.YtchidgkpkhloeaaDoorB2
import Derived.KernelRfl
namespace Ab
open Go
set_option linter.unusedVariables false
set_option maxRecDepth 100000

/- tallyhall/tallyref1.Cell -/
/- tallyhall/tallyref1.Of -/
/- tallyhall/tallyref1.Digits -/
/- tallyhall/tallyref1.Show -/
/- tallyhall/tallyref1.Plus -/
/- tallyhall/tallyref1.size -/
/- tallyhall/tallyref1.Times -/
/- tallyhall/tallyref1.Over -/
/- tallyhall/tallyref1.Int -/
/- tallyhall/tallyref1.Read -/
end Ab
