/-
  slices.Sort and slices.Compact of strings, as functions of the abstract machine that are handed rows, by what the seat's program is known to answer.
-/
import Derived.Test.YtchidgkpkhloeaaDoorB2
import Derived.Sort.OwnSorted
import Derived.Lib.SlicesCompact
namespace Ab
open Go Go.RowKit Go.Sort Go.Proofs
set_option linter.unusedVariables false
set_option linter.unusedSimpArgs false

end Ab
