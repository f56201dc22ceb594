/-
  Plain laws: the document's cells (Cell, Of, Plus).
-/
import Derived.Test.YtcabflannjeigaaGreatDoorMRc
import Derived.Test.YtcabflannjeigaaGreatDoorQC
namespace Ab
open Go
set_option linter.unusedVariables false
set_option linter.unusedSimpArgs false

end Ab
