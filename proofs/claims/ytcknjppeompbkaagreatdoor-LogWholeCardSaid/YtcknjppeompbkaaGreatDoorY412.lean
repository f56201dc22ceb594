/-
  The closed facts of a row, one by one.
-/
import Derived.Test.YtcknjppeompbkaaGreatDoorTie
import Derived.JoinedOf
import Derived.KernelRfl
set_option linter.all false
namespace Go.Proofs.YtcknjppeompbkaaGreatDoor.logWholeDone
open Go
def and_t {a b:Bool} (h1:a=true) (h2:b=true):(a && b)=true:=by rw[h1,h2];rfl
set_option maxRecDepth 100000 in
set_option maxHeartbeats 8000000 in
def closed:joinedFacts Tryz.prog 4 Tryz.f4 Rows.logWholeSpec Rows.logWholeRow=true:=by
 unfold joinedFacts
 iterate 31 refine and_t ?_ (by as_aux_lemma=>kernel_rfl)
 as_aux_lemma=>kernel_rfl
end Go.Proofs.YtcknjppeompbkaaGreatDoor.logWholeDone
