/-
  Plain laws: the document's products and quotients.
-/
import Derived.Test.YtchidgkpkhloeaaGreatDoorQC
import Derived.Test.YtchidgkpkhloeaaGreatDoorMRc
import Derived.Test.YtchidgkpkhloeaaGreatDoorQRc
namespace Ab
open Go
set_option linter.unusedVariables false
set_option linter.unusedSimpArgs false
end Ab
