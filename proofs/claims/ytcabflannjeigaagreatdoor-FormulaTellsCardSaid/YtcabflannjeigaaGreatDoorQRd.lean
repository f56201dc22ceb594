/-
  Plain laws: the document's products and quotients.
-/
import Derived.Test.YtcabflannjeigaaGreatDoorQC
import Derived.Test.YtcabflannjeigaaGreatDoorMRc
import Derived.Test.YtcabflannjeigaaGreatDoorQRc
namespace Ab
open Go
set_option linter.unusedVariables false
set_option linter.unusedSimpArgs false

end Ab
