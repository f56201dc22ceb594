/-
  Plain laws: the document's products and quotients.
-/
import Derived.Test.YtcabflannjeigaaDoorQC
import Derived.Test.YtcabflannjeigaaDoorMRc
import Derived.Test.YtcabflannjeigaaDoorQRc
namespace Ab
open Go
set_option linter.unusedVariables false
set_option linter.unusedSimpArgs false

end Ab
