/-
  Plain laws: the document's products and quotients.
-/
import Derived.Test.YtchidgkpkhloeaaDoorQC
import Derived.Test.YtchidgkpkhloeaaDoorMRc
import Derived.Test.YtchidgkpkhloeaaDoorQRc
namespace Ab
open Go
set_option linter.unusedVariables false
set_option linter.unusedSimpArgs false

end Ab
