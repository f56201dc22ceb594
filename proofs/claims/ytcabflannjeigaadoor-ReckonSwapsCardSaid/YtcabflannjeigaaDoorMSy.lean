/-
  the document's Swapped, walked at this seat's program: any node.
-/
import Derived.Test.YtcabflannjeigaaDoorMSya
import Derived.Test.YtcabflannjeigaaDoorMSyb
set_option linter.unusedSimpArgs false
namespace Go.Proofs.TrydSwap
open Go Go.RowKit Ab
set_option linter.unusedVariables false

end Go.Proofs.TrydSwap
