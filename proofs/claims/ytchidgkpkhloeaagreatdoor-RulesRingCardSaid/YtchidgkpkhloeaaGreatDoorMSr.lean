/-
  reckon.Swap, and the document's Swapped of nil, as functions of the abstract machine, by what the seat's program is known to answer.
-/
import Derived.Test.YtchidgkpkhloeaaGreatDoorF1
import Derived.Test.YtchidgkpkhloeaaGreatDoorMFm
namespace Ab
open Go Go.RowKit
set_option linter.unusedVariables false
set_option linter.unusedSimpArgs false
def ErrIs (S : Seat) (e : Err) (u : Value) : Prop :=
  match e with | .nil => u = .nilIface | .no n => ∃ T, u = .iface T (.int .i64 n) ∧ assoc T S.tys = some 1 | .oth k => ∃ T x, u = .iface T x ∧ assoc T S.tys = some k
end Ab
