/-
  Functions of the program as typed code, what they come to, and their contracts: written by program (mk.py).
-/
import Derived.Test.YtcabflannjeigaaGreatDoorB2
import Derived.KernelRfl
import Derived.Test.YtcabflannjeigaaGreatDoorMI
import Derived.Test.YtcabflannjeigaaGreatDoorC2
import Derived.Test.YtcabflannjeigaaGreatDoorMT
namespace Ab
open Go
set_option linter.unusedVariables false
set_option maxRecDepth 100000

/- tallyhall/roll.weight -/
/- tallyhall/roll.Value -/
/- tallyhall/roll.Weight -/
/- tallyhall/roll.Leafs -/
end Ab
