import Derived.Test.YtchidgkpkhloeaaGreatDoorH3
set_option linter.unusedVariables false
set_option linter.unusedSimpArgs false
noncomputable section
namespace Ab
open Go
section
open Go Go.RowKit
open Classical in
def P351w (J:JP) (s:Solver) (p:List Int):Option Cell:=if s=J.s∧J.fit p then some (J.U (J.num p)) else none
def k351w (J:JP):CSpec:=⟨351,[.bx .solver,.sl .int],.st .cell,fun x=>P351w J x.1 x.2,false,[]⟩
theorem yd {S:Seat} (hP:Plain S) {g id:Nat} (hg:zX g S.fns=some id) {args:List AV} {r:AV} (h:(za S).ret id args r []) (hno:∀ x∈args,zm x=false) {A:Nat->Prop} {w X:World} {vs:Array Value} (hl:vs.size=args.length)
  (hA:(∀ b,A b->b < w.heap.size)∧Inv S w) (hk:KeepO (fun _=>False) w X) (ha:∀ (i:Nat) (x:AV),args[i]? = some x->VR0 S A w x (vs.getD i undef)) :
  Calls S.P g vs X fun e Y=>∃ v,e=.returned v∧KeepO (fun _=>False) X Y∧zcV S A X Y r v:=by
 refine (((h g hg).old0 hP hno) A X vs hl ⟨fun b hb=>Nat.lt_of_lt_of_le (hA.1 b hb) hk.size,hA.2.keep (fun _ _ h=>h) hk⟩ fun i x hx=>(ha i x hx).mono (fun _ h=>h) fun b hb=>hk.block b (hA.1 b hb) fun h=>h)
theorem zgp {S:Seat} {A:Nat->Prop} {w:World} {v:Value} (h:VR0 S A w (Err.av .nil) v):v=.nilIface:=VR.v_inv (σ:=fun _=>none) (.of0 h)
theorem zhk {S:Seat} {A:Nat->Prop} {w:World} {e:Err} {v:Value} (he:e≠.nil) (h:VR0 S A w e.av v):∃ T u,v=.iface T u:=by
 cases e with
 | nil=>exact absurd rfl he
 | no n=>obtain ⟨T,u,rfl,_⟩:=VR.ifc_inv (σ:=fun _=>none) (.of0 (show VR0 S A w (.ifc 1 (aI n)) v from h));exact ⟨T,u,rfl⟩
 | oth t=>obtain ⟨T,u,rfl,_⟩:=VR.ifc_inv (σ:=fun _=>none) (.of0 (show VR0 S A w (.ifc t .bot) v from h));exact ⟨T,u,rfl⟩
theorem ret_err {S:Seat} {A:Nat->Prop} {X Y:World} {e:Err} {v:Value} (h:zcV S A X Y e.av v):VR0 S (zI A (fun _=>none) X Y) Y e.av v:=by
 obtain ⟨β,h1,_,hp⟩:=h;have:wM S (zI A β X Y) Y (β 0) e.av v:=by cases e<;>exact hp
 have:VR0 S (zI A β X Y) Y e.av v:=by cases e<;>exact this.2
 exact this.mono (fun b hb=>⟨hb.1,hb.2.1,by simp⟩) fun _ _=>rfl
abbrev K0' (W X:World):Prop:=KeepO (fun _=>False) W X
theorem zf9 {S:Seat} {A:Nat->Prop} {w X Z:World} {x:AV} {e:Err} {a b:Value} (hx:zm x=false) (ha:VR0 S (zI A (fun _=>none) w Z) Z x a) (he:VR0 S (zI A (fun _=>none) w Z) Z e.av b):zcV S A w Z (.tup [x,e.av]) (.tuple #[a,b]):=by
 refine ⟨fun _=>none,by simp,by simp,#[a,b],rfl,rfl,fun i y hy => ?_⟩
 match i,hy with
 | 0,hy=>cases hy;exact qO ha
 | 1,hy=>cases hy;exact qO he
 | i+2,hy=>simp at hy
theorem zfI {A:Nat->Prop} {w X Z:World} (h1:w.heap.size<=X.heap.size):∀ b,zI A (fun _=>none) X Z b->zI A (fun _=>none) w Z b:=fun b ⟨h,h2,h3⟩=>⟨h.imp id (Nat.le_trans h1),h2,h3⟩
end
section
theorem zdm {e:Int}:zp e=.nil↔e=0:=by unfold zp;split<;>simp_all
theorem zdy {α:Type} {L:List α} {i:Nat} {a:α} (h:L[i]? = some a):L.take i++[a]=L.take (i+1):=by obtain ⟨hi,rfl⟩:=List.getElem?_eq_some_iff.1 h;rw[List.take_succ_eq_append_getElem hi]
section
variable {o:List Dim} {l:List Entry} (ok:RightC o l)
include ok
end
end
section
open Go Go.RowKit
structure JKnows (S:Seat) (J:JP):Prop where
 at_:Rt (seatJ S J) (k351w J)
 size:Rt (seatJ S J) k40
 place:Rt (seatJ S J) k69
theorem arg_o {S:Seat} {A:Nat->Prop} {w:World} {o:List Dim} {v:Value} (h:VR0 S A w (.agg [.sl 3 (o.map Dim.cs)]) v):∃ u,v=.agg #[u]∧VR0 S A w (.sl 3 (o.map Dim.cs)) u∧u.oneCell'=true:=by
 obtain ⟨us,rfl,hl,hu⟩:=VR.agg_inv (σ:=fun _=>none) (.of0 h);have h0:=hu 0 _ rfl;obtain ⟨u,rfl⟩:∃ u,us=#[u]:=⟨us[0]'(by simp at hl;omega),by
  apply Array.ext
  ·simpa using hl.symm
  ·intro i h1 h2;obtain rfl:i=0:=by simp at h2;omega
   rfl⟩
 exact ⟨u,rfl,h0.to0 rfl,VR.cell1 h0 rfl⟩
section
variable {S:Seat} (hS:qh S) (hP:Plain S) (h349:Rt S k349) (h355:Rt S k355) (h40:Rt S k40)
include hS hP h349 h355 h40
end
end
section
set_option maxRecDepth 100000
section
variable (F332:LD->LY->(Option (LC×Err))) (F69:LD->Int->(Option LI))
end
end
end Ab
