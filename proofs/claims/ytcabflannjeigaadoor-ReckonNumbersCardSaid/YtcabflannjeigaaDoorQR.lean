/-
  Plain laws: what the functions of package tallyref1 come to (names, dims, outlines, trees).
-/
import Derived.Test.YtcabflannjeigaaDoorC3
import Derived.Test.YtcabflannjeigaaDoorQT
namespace Ab
open Go
set_option linter.unusedVariables false
set_option linter.unusedSimpArgs false

end Ab
