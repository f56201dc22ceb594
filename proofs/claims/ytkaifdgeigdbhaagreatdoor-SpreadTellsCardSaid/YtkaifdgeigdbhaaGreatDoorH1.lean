import Derived.Shelf.Bodies2
import Derived.Shelf.SlBodiesN
import Derived.Shelf.SlGeneric
import Derived.Shelf.RegionOpenPlain
import Derived.WalkKit
import Derived.Lib.Walk
import Derived.Lib.SliceRun
import Derived.Lib.JoinLaws
import Derived.Lib.AppendZerosOnto
import Derived.Lib.Overlaps
import Derived.Laws.Externs
import Derived.Laws.IdiomCopy
import Derived.Laws.NewBlocks
import Derived.Deep.RegionLaw
import Derived.Deep.AppendSrc
import Derived.Test.YtkaifdgeigdbhaaGreatDoorHC
set_option linter.all false
namespace Ab
open Go
section
open Go Go.RowKit Go.Shelf Go.Lib Go.Proofs
variable {P:Program} {ρ:Ren}
structure SlL (P:Program) (ρ:Ren) (zc:Array Value):Prop where
 mixed:P.follows .mixedOrders=true
 t0:P.underlying (ρ.t 0)=some (.tuple #[])
 t3:P.underlying (ρ.t 3)=some (.int .i64)
 t4:P.underlying (ρ.t 4)=some .bool
 i0:(P.info? (ρ.t 0)).map (fun i=>(i.zero,i.size))=some (some (.tuple #[]),1)
 i3:(P.info? (ρ.t 3)).map (fun i=>(i.zero,i.size))=some (some (.int .i64 0),1)
 i4:(P.info? (ρ.t 4)).map (fun i=>(i.zero,i.size))=some (some (.bool false),1)
 z2:zc.size=2
 z1:∀ u∈zc.toList,u.oneCell'=true
structure InsL (P:Program) (ρ:Ren) (zc:Array Value):Prop extends SlL P ρ zc where
 f22:Bears P (ρ.f 22) (Body2.n22 ρ)
 ov:∀ (args:Array Value) (w:World),(callFunc (ρ.f 29) args).run P w=((Extern.SlicesOverlaps.overlaps #[ρ.t 24,ρ.t 24] #[ρ.t 4] args).run P w).andThen fun v w'=>.ok (.value v) w'
 t24:P.underlying (ρ.t 24)=some (.slice (ρ.t 9))
 i24:(P.info? (ρ.t 24)).map (fun i=>(i.zero,i.size))=some (some (.slice none 0 0),1)
 i9:(P.info? (ρ.t 9)).map (fun i=>(i.zero,i.size,i.bytes))=some (some (.agg zc),2,32)
structure DelL (P:Program) (ρ:Ren) (zc:Array Value):Prop extends SlL P ρ zc where
 f45:Bears P (ρ.f 45) (SlBodyN.n45 ρ)
 t22:P.underlying (ρ.t 22)=some (.slice (ρ.t 23))
 i22:(P.info? (ρ.t 22)).map (fun i=>(i.zero,i.size))=some (some (.slice none 0 0),1)
 i23:(P.info? (ρ.t 23)).map (fun i=>(i.zero,i.size,i.bytes))=some (some (.agg zc),2,32)
end
section
open Go Go.RowKit Go.Shelf
def Row2 (R:AV->Value->Prop):List (List AV)->List Value->Prop
 | [],[]=>True
 | [x,y] :: es,u :: v :: cs=>R x u∧R y v∧u.oneCell'=true∧v.oneCell'=true∧Row2 R es cs
 | _,_=>False
def Row2.cons_inv {R:AV->Value->Prop} {e:List AV} {es:List (List AV)} {cs:List Value} (h:Row2 R (e :: es) cs):∃ x y u v aK,e=[x,y]∧cs=u :: v :: aK∧R x u∧R y v∧u.oneCell'=true∧v.oneCell'=true∧Row2 R es aK:=by
 match e,cs,h with
 | [x,y],u :: v :: aK,h=>exact ⟨x,y,u,v,aK,rfl,rfl,h⟩
def Row2.nil_inv {R:AV->Value->Prop} {cs:List Value} (h:Row2 R [] cs):cs=[]:=by
 cases cs with
 | nil=>rfl
 | cons a l=>simp[Row2] at h
def Row2.length {R:AV->Value->Prop}:∀ {es:List (List AV)} {cs:List Value},Row2 R es cs->cs.length=es.length * 2
 | [],cs,h=>by rw[h.nil_inv];rfl
 | e :: es,cs,h=>by
  obtain ⟨x,y,u,v,aK,rfl,rfl,h1,h2,h3,h4,h5⟩:=h.cons_inv;have:=h5.length;simp only[Ax];omega
section
variable {S:Seat} {A:Nat->Prop} {w:World} {ι:Nat->Option Nat}
end
end
section
set_option maxRecDepth 100000
section
variable (F27:LD->LY->(Option Err)) (F55:LD->LY->Edit->(Option (LY×Err))) (F58:LD->LI->(Option Err)) (F59:LD->LI->(Option Bool)) (F60:Int->(Option Bool)) (F71:LD->LY->Edit->(Option (LY×Err))) (F72:LY->(Option LY)) (F73:LY->LI->(Option (Int×Bool))) (F76s:LI->(Option LI)) (F77:LY->Int->Int->(Option LY)) (F78:LY->Int->LY->(Option LY)) (F79:LY->(Option LY))
end
end
end Ab
