import Derived.Shelf.Bodies2
import Derived.Shelf.SlBodiesN
import Derived.Shelf.SlGeneric
import Derived.Shelf.RegionOpenPlain
import Derived.WalkKit
import Derived.Lib.Walk
import Derived.Lib.SliceRun
import Derived.Lib.JoinLaws
import Derived.Lib.AppendZerosOnto
import Derived.Lib.Overlaps
import Derived.Laws.Externs
import Derived.Laws.IdiomCopy
import Derived.Laws.NewBlocks
import Derived.Deep.RegionLaw
import Derived.Deep.AppendSrc
import Derived.Test.YtchidgkpkhloeaaGreatDoorB2
import Derived.KernelRfl
import Derived.Test.YtchidgkpkhloeaaGreatDoorHB
import Derived.Test.YtchidgkpkhloeaaGreatDoorHC
import Derived.Test.YtchidgkpkhloeaaGreatDoorC2
section
namespace Ab
open Go Go.RowKit Go.Shelf Go.Lib Go.Proofs
set_option linter.unusedVariables false
set_option linter.unusedSimpArgs false
variable {P:Program} {ρ:Ren}
structure SlL (P:Program) (ρ:Ren) (zc:Array Value):Prop where
 mixed:P.follows .mixedOrders=true
 t0:P.underlying (ρ.t 0)=some (.tuple #[])
 t3:P.underlying (ρ.t 3)=some (.int .i64)
 t4:P.underlying (ρ.t 4)=some .bool
 i0:(P.info? (ρ.t 0)).map (fun i=>(i.zero,i.size))=some (some (.tuple #[]),1)
 i3:(P.info? (ρ.t 3)).map (fun i=>(i.zero,i.size))=some (some (.int .i64 0),1)
 i4:(P.info? (ρ.t 4)).map (fun i=>(i.zero,i.size))=some (some (.bool false),1)
 z2:zc.size=2
 z1:∀ u∈zc.toList,u.oneCell'=true
structure InsL (P:Program) (ρ:Ren) (zc:Array Value):Prop extends SlL P ρ zc where
 f22:Bears P (ρ.f 22) (Body2.n22 ρ)
 ov:∀ (args:Array Value) (w:World),(callFunc (ρ.f 29) args).run P w=((Extern.SlicesOverlaps.overlaps #[ρ.t 24,ρ.t 24] #[ρ.t 4] args).run P w).andThen fun v w'=>.ok (.value v) w'
 t24:P.underlying (ρ.t 24)=some (.slice (ρ.t 9))
 i24:(P.info? (ρ.t 24)).map (fun i=>(i.zero,i.size))=some (some (.slice none 0 0),1)
 i9:(P.info? (ρ.t 9)).map (fun i=>(i.zero,i.size,i.bytes))=some (some (.agg zc),2,32)
structure DelL (P:Program) (ρ:Ren) (zc:Array Value):Prop extends SlL P ρ zc where
 f45:Bears P (ρ.f 45) (SlBodyN.n45 ρ)
 t22:P.underlying (ρ.t 22)=some (.slice (ρ.t 23))
 i22:(P.info? (ρ.t 22)).map (fun i=>(i.zero,i.size))=some (some (.slice none 0 0),1)
 i23:(P.info? (ρ.t 23)).map (fun i=>(i.zero,i.size,i.bytes))=some (some (.agg zc),2,32)
end Ab
end
section
namespace Ab
open Go Go.RowKit Go.Shelf
set_option linter.unusedVariables false
set_option linter.unusedSimpArgs false
section
variable {S:Seat} {A:Nat→Prop} {w:World} {ι:Nat→Option Nat}
end
end Ab
end
section
namespace Ab
open Go
set_option linter.unusedVariables false
set_option maxRecDepth 100000
end Ab
end
