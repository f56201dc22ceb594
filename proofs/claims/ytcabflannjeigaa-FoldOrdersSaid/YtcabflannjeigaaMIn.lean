/-
  Functions of the program as typed code, what they come to, and their contracts: written by program (mk.py).
-/
import Derived.Test.YtcabflannjeigaaB2
import Derived.KernelRfl
import Derived.Test.YtcabflannjeigaaMCl
import Derived.Test.YtcabflannjeigaaMI
import Derived.Test.YtcabflannjeigaaC2
import Derived.Test.YtcabflannjeigaaMSl
namespace Ab
open Go
set_option linter.unusedVariables false
set_option maxRecDepth 100000

/- tallyhall/input.Own -/
/- tallyhall/input.do -/
/- tallyhall/input.one -/
/- tallyhall/input.Set -/
/- tallyhall/input.Clear -/
end Ab
