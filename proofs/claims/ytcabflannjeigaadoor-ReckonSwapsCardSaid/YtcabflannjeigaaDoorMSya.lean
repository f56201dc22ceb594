/-
  the document's Swapped, walked at this seat's program: a node of two (plus, times).
-/
import Derived.Test.YtcabflannjeigaaDoorMSx
set_option linter.unusedSimpArgs false
namespace Go.Proofs.TrydSwap
open Go Go.RowKit Ab
set_option linter.unusedVariables false

end Go.Proofs.TrydSwap
