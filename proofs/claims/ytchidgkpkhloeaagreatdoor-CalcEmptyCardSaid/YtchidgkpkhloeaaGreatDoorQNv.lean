/-
  Plain laws: a number that is read digit by digit is the one that strconv reads.
-/
import Derived.Test.YtchidgkpkhloeaaGreatDoorF2
namespace Ab
open Go
set_option linter.unusedVariables false
set_option linter.unusedSimpArgs false
end Ab
