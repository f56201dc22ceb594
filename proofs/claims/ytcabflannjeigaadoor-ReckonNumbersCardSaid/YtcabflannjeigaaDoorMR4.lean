/-
  Functions of the program as typed code, what they come to, and their contracts: written by program (mk.py).
-/
import Derived.Test.YtcabflannjeigaaDoorB2
import Derived.KernelRfl
import Derived.Test.YtcabflannjeigaaDoorC3
import Derived.Test.YtcabflannjeigaaDoorMRc
namespace Ab
open Go
set_option linter.unusedVariables false
set_option maxRecDepth 100000

/- tallyhall/tallyref2.Formula -/
/- tallyhall/tallyref2.Refs -/
/- tallyhall/tallyref2.Named -/
/- tallyhall/tallyref2.Reckon -/
end Ab
