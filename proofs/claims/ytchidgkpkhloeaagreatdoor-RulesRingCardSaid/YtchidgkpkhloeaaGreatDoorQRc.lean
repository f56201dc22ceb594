/-
  Plain laws: the document's cells (Cell, Of, Plus).
-/
import Derived.Test.YtchidgkpkhloeaaGreatDoorMRc
import Derived.Test.YtchidgkpkhloeaaGreatDoorQC
namespace Ab
open Go
set_option linter.unusedVariables false
set_option linter.unusedSimpArgs false
end Ab
