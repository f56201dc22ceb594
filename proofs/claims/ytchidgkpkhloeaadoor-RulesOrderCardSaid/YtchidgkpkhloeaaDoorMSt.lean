/-
  strconv.Itoa and strconv.Atoi as functions of the abstract machine, by what the seat's program is known to answer.
-/
import Derived.Test.YtchidgkpkhloeaaDoorB2
import Derived.Lib.ItoaNum
import Derived.Lib.AtoiAll
namespace Ab
open Go Go.RowKit
set_option linter.unusedVariables false
set_option linter.unusedSimpArgs false

def atoiV (s : ByteArray) : Int × Err :=
  match Lib.atoiAll s.data.toList with
  | .ok v => (v, .nil)
  | .range => (Lib.atoiSat s.data.toList, .oth 4)
  | _ => (0, .oth 4)
end Ab
