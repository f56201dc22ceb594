/-
  The document's ReadFormula as a function of the abstract machine, by what the seat's program is known to answer.
-/
import Derived.Test.YtchidgkpkhloeaaDoorMPs
import Derived.Test.YtchidgkpkhloeaaDoorMSr
import Derived.Test.YtchidgkpkhloeaaDoorMR4
namespace Ab
open Go Go.RowKit
set_option linter.unusedVariables false
set_option linter.unusedSimpArgs false

noncomputable def P247 (s : ByteArray) : Option (List Node × Int × Int) :=
  if 100 < s.size then some ([], 0, 4) else
  match rd s 404 (.row true) 0 [] with
  | none => none
  | some (.bad b) => some ([], (b : Int), 2)
  | some (.ok i b l) => if b < s.size then some ([], (b : Int), 2) else bno (P240 l) fun e => some (if e = 0 then l else [], 0, e)
end Ab
