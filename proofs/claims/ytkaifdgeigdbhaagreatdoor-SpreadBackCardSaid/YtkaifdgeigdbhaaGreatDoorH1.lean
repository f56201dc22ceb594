import Derived.Shelf.Bodies2
import Derived.Shelf.SlBodiesN
import Derived.Shelf.SlGeneric
import Derived.Shelf.RegionOpenPlain
import Derived.WalkKit
import Derived.Lib.Walk
import Derived.Lib.SliceRun
import Derived.Lib.JoinLaws
import Derived.Lib.AppendZerosOnto
import Derived.Lib.Overlaps
import Derived.Laws.Externs
import Derived.Laws.IdiomCopy
import Derived.Laws.NewBlocks
import Derived.Deep.RegionLaw
import Derived.Deep.AppendSrc
import Derived.Test.YtkaifdgeigdbhaaGreatDoorHC
set_option linter.all false
namespace Ab
open Go
section
open Go Go.RowKit Go.Shelf Go.Lib Go.Proofs
variable {P:Program} {ρ:Ren}
structure SlL (P:Program) (ρ:Ren) (zc:Array Value):Prop where
 mixed:P.follows .mixedOrders=true
 t0:P.underlying (ρ.t 0)=some (.tuple #[])
 t3:P.underlying (ρ.t 3)=some (.int .i64)
 t4:P.underlying (ρ.t 4)=some .bool
 i0:(P.info? (ρ.t 0)).map (fun i=>(i.zero,i.size))=some (some (.tuple #[]),1)
 i3:(P.info? (ρ.t 3)).map (fun i=>(i.zero,i.size))=some (some (.int .i64 0),1)
 i4:(P.info? (ρ.t 4)).map (fun i=>(i.zero,i.size))=some (some (.bool false),1)
 z2:zc.size=2
 z1:∀ u∈zc.toList,u.oneCell'=true
structure InsL (P:Program) (ρ:Ren) (zc:Array Value):Prop extends SlL P ρ zc where
 f22:Bears P (ρ.f 22) (Body2.n22 ρ)
 ov:∀ (args:Array Value) (w:World),(callFunc (ρ.f 29) args).run P w=((Extern.SlicesOverlaps.overlaps #[ρ.t 24,ρ.t 24] #[ρ.t 4] args).run P w).andThen fun v w'=>.ok (.value v) w'
 t24:P.underlying (ρ.t 24)=some (.slice (ρ.t 9))
 i24:(P.info? (ρ.t 24)).map (fun i=>(i.zero,i.size))=some (some (.slice none 0 0),1)
 i9:(P.info? (ρ.t 9)).map (fun i=>(i.zero,i.size,i.bytes))=some (some (.agg zc),2,32)
structure DelL (P:Program) (ρ:Ren) (zc:Array Value):Prop extends SlL P ρ zc where
 f45:Bears P (ρ.f 45) (SlBodyN.n45 ρ)
 t22:P.underlying (ρ.t 22)=some (.slice (ρ.t 23))
 i22:(P.info? (ρ.t 22)).map (fun i=>(i.zero,i.size))=some (some (.slice none 0 0),1)
 i23:(P.info? (ρ.t 23)).map (fun i=>(i.zero,i.size,i.bytes))=some (some (.agg zc),2,32)
end
section
open Go Go.RowKit Go.Shelf
def zaL (R:AV->Value->Prop):List (List AV)->List Value->Prop
 | [],[]=>True
 | [x,y] :: es,u :: v :: cs=>R x u∧R y v∧u.oneCell'=true∧v.oneCell'=true∧zaL R es cs
 | _,_=>False
def zaL.cons_inv {R:AV->Value->Prop} {e:List AV} {es:List (List AV)} {cs:List Value} (h:zaL R (e :: es) cs):∃ x y u v aA,e=[x,y]∧cs=u :: v :: aA∧R x u∧R y v∧u.oneCell'=true∧v.oneCell'=true∧zaL R es aA:=by
 match e,cs,h with
 | [x,y],u :: v :: aA,h=>exact ⟨x,y,u,v,aA,rfl,rfl,h⟩
def zaL.nil_inv {R:AV->Value->Prop} {cs:List Value} (h:zaL R [] cs):cs=[]:=by
 cases cs with
 | nil=>rfl
 | cons a l=>simp[zaL] at h
def zaL.append {R:AV->Value->Prop}:∀ {es:List (List AV)} {cs:List Value} {fs:List (List AV)} {ds:List Value},zaL R es cs->zaL R fs ds->zaL R (es++fs) (cs++ds)
 | [],cs,fs,ds,h,k=>by rw[h.nil_inv];exact k
 | e :: es,cs,fs,ds,h,k=>by
  obtain ⟨x,y,u,v,aA,rfl,rfl,h1,h2,h3,h4,h5⟩:=h.cons_inv;exact ⟨h1,h2,h3,h4,h5.append k⟩
def zaL.take {R:AV->Value->Prop}:∀ {es:List (List AV)} {cs:List Value} (i:Nat),zaL R es cs->zaL R (es.take i) (cs.take (i * 2))
 | [],cs,i,h=>by rw[h.nil_inv];simp[zaL]
 | e :: es,cs,0,h=>by simp[zaL]
 | e :: es,cs,i+1,h=>by
  obtain ⟨x,y,u,v,aA,rfl,rfl,h1,h2,h3,h4,h5⟩:=h.cons_inv;rw[show (i+1) * 2=i * 2+2 by omega];exact ⟨h1,h2,h3,h4,h5.take i⟩
def zaL.drop {R:AV->Value->Prop}:∀ {es:List (List AV)} {cs:List Value} (i:Nat),zaL R es cs->zaL R (es.drop i) (cs.drop (i * 2))
 | [],cs,i,h=>by rw[h.nil_inv];simp[zaL]
 | e :: es,cs,0,h=>by simpa using h
 | e :: es,cs,i+1,h=>by
  obtain ⟨x,y,u,v,aA,rfl,rfl,h1,h2,h3,h4,h5⟩:=h.cons_inv;rw[show (i+1) * 2=i * 2+2 by omega];exact h5.drop i
def zaL.length {R:AV->Value->Prop}:∀ {es:List (List AV)} {cs:List Value},zaL R es cs->cs.length=es.length * 2
 | [],cs,h=>by rw[h.nil_inv];rfl
 | e :: es,cs,h=>by
  obtain ⟨x,y,u,v,aA,rfl,rfl,h1,h2,h3,h4,h5⟩:=h.cons_inv;have:=h5.length;simp only[Au];omega
def zaL.one {R:AV->Value->Prop}:∀ {es:List (List AV)} {cs:List Value},zaL R es cs->∀ u∈cs,u.oneCell'=true
 | [],cs,h,u,hu=>by rw[h.nil_inv] at hu;cases hu
 | e :: es,cs,h,u',hu=>by
  obtain ⟨x,y,u,v,aA,rfl,rfl,h1,h2,h3,h4,h5⟩:=h.cons_inv;rcases Ap.1 hu with rfl | hu
  ·exact h3
  ·rcases Ap.1 hu with rfl | hu
   ·exact h4
   ·exact h5.one u' hu
def zaL.get {R:AV->Value->Prop}:∀ {es:List (List AV)} {cs:List Value} (rest:List Value),zaL R es cs->∀ (i:Nat) (e:List AV) (c:Nat) (x:AV),es[i]? = some e->e[c]? = some x->R x ((cs++rest).getD (i * 2+c) undef)
 | [],cs,rest,h,i,e,c,x,hi,hc=>by cases hi
 | e0 :: es,cs,rest,h,i,e,c,x,hi,hc=>by
  obtain ⟨x0,y0,u,v,aA,rfl,rfl,h1,h2,h3,h4,h5⟩:=h.cons_inv;cases i with
  | zero =>
   cases hi
   match c,hc with
   | 0,hc=>cases hc;exact h1
   | 1,hc=>cases hc;exact h2
   | c+2,hc=>simp at hc
  | succ i =>have:=h5.get rest i e c x (by simpa using hi) hc;rw[show (i+1) * 2+c=(i * 2+c)+1+1 by omega];simpa using this
def zaL.of {R:AV->Value->Prop}:∀ {es:List (List AV)} {cs:List Value},es.length * 2<=cs.length->(∀ e∈es,e.length=2)->(∀ j,j < es.length * 2->(cs.getD j undef).oneCell'=true) ->
  (∀ (i:Nat) (e:List AV) (c:Nat) (x:AV),es[i]? = some e->e[c]? = some x->R x (cs.getD (i * 2+c) undef))->zaL R es (cs.take (es.length * 2))
 | [],cs,h1,h2,h3,h4=>by simp[zaL]
 | e :: es,cs,h1,h2,h3,h4=>by
  simp only[Au] at h1
  match cs,h1 with
  | [],h1=>simp at h1
  | [u],h1=>simp at h1;omega
  | u :: v :: cs,h1 =>
   obtain ⟨x,y,rfl⟩:∃ x y,e=[x,y]:=by
    have:=h2 e Ai
    match e,this with
    | [x,y],_=>exact ⟨x,y,rfl⟩
   have k3:∀ j,j < es.length * 2->(cs.getD j undef).oneCell'=true:=fun j hj=>(by have:=h3 (j+1+1) (by simp only[Au];omega);simpa using this);have k4:∀ (i:Nat) (e:List AV) (c:Nat) (x:AV),es[i]? = some e->e[c]? = some x->R x (cs.getD (i * 2+c) undef):=fun i e c z hi hc=>(by have:=h4 (i+1) e c z (by simpa using hi) hc;rw[show (i+1) * 2+c=(i * 2+c)+1+1 by omega] at this;simpa using this);have:=zaL.of (R:=R) (es:=es) (cs:=cs) (by simp only[Au] at h1;omega) (fun e he=>h2 e (Ae _ he)) k3 k4;rw[show ([x,y] :: es).length * 2=es.length * 2+2 by simp only[Au];omega];refine ⟨?_, ?_, ?_, ?_,this⟩
   ·simpa using h4 0 [x,y] 0 x rfl rfl
   ·simpa using h4 0 [x,y] 1 y rfl rfl
   ·simpa using h3 0 (by simp)
   ·simpa using h3 1 (by simp only[Au];omega)
section
variable {S:Seat} {A:Nat->Prop} {w:World} {ι:Nat->Option Nat}
end
end
section
set_option maxRecDepth 100000
section
variable (F27:LD->LY->(Option Err)) (F55:LD->LY->Edit->(Option (LY×Err))) (F58:LD->LI->(Option Err)) (F59:LD->LI->(Option Bool)) (F60:Int->(Option Bool)) (F71:LD->LY->Edit->(Option (LY×Err))) (F72:LY->(Option LY)) (F73:LY->LI->(Option (Int×Bool))) (F76s:LI->(Option LI)) (F77:LY->Int->Int->(Option LY)) (F78:LY->Int->LY->(Option LY)) (F79:LY->(Option LY))
end
end
end Ab
