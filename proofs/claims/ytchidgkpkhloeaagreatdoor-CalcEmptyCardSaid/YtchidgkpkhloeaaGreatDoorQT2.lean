/-
  Plain laws: what the functions of package tallyref1 come to, of trees.
-/
import Derived.Test.YtchidgkpkhloeaaGreatDoorH9
namespace Ab
open Go
set_option linter.unusedVariables false
set_option linter.unusedSimpArgs false
end Ab
