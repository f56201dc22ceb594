import Derived.Test.YtkaifdgeigdbhaaGreatDoorH3
open Nat (le_succ)
set_option linter.unusedVariables false
set_option linter.unusedSimpArgs false
noncomputable section
namespace Ab
open Go
section
open Go Go.RowKit
open Classical in
def zjf (J:JP) (s:Solver) (p:List Int):Option Cell:=if s=J.s∧J.fit p then some (J.U (J.num p)) else none
def k351w (J:JP):CSpec:=⟨351,[.bx .solver,.sl .int],.st .cell,fun x=>zjf J x.1 x.2,false,[]⟩
theorem r351w {S:Seat} {J:JP} (h:∀ n,Rt S (k351 J n)):Rt S (k351w J):=fun (x:Solver×List Int) (y:Cell) hy=>by
 have hy2:zjf J x.1 x.2=some y:=hy;refine h (J.rk x.2+1) x y ?_;show zjk J (J.rk x.2+1) x.1 x.2=some y;unfold zjf at hy2;unfold zjk;split at hy2
 ·rename_i c;rw[if_pos ⟨c.1,c.2,Nat.lt_succ_self _⟩];exact hy2
 ·cases hy2
theorem ziw {o:List Dim} {l:List Entry} (ok:RightC o l) {kb cb kc cc:Nat} {p:List Int} (hf:Fit o p):zjf (JS o l kb cb kc cc) (JS o l kb cb kc cc).s p=some (sol o l p):=by unfold zjf;rw[if_pos ⟨rfl,hf⟩];show some (sol o l (zdt o (zgU o p)).1)=_;rw[zbQ ok.pos hf]
theorem zat {S:Seat} (hP:Plain S) {g id:Nat} (hg:zV g S.fns=some id) {args:List AV} {r:AV} (h:(za S).ret id args r []) (hno:∀ x∈args,zp x=false) {A:Nat->Prop} {w X:World} {vs:Array Value} (hl:vs.size=args.length)
  (hA:(∀ b,A b->b < w.heap.size)∧Inv S w) (hk:KeepO (fun _=>False) w X) (ha:∀ (i:Nat) (x:AV),args[i]? = some x->VR0 S A w x (vs.getD i undef)) :
  Calls S.P g vs X fun e Y=>∃ v,e=.returned v∧KeepO (fun _=>False) X Y∧zbl S A X Y r v:=by
 refine (((h g hg).old0 hP hno) A X vs hl ⟨fun b hb=>Nat.lt_of_lt_of_le (hA.1 b hb) hk.size,hA.2.keep (fun _ _ h=>h) hk⟩ fun i x hx=>(ha i x hx).mono (fun _ h=>h) fun b hb=>hk.block b (hA.1 b hb) fun h=>h)
theorem za8 {S:Seat} {A:Nat->Prop} {w:World} {v:Value} (h:VR0 S A w (Err.av .nil) v):v=.nilIface:=VR.v_inv (σ:=fun _=>none) (.of0 h)
theorem zh9 {S:Seat} {A:Nat->Prop} {w:World} {e:Err} {v:Value} (he:e≠.nil) (h:VR0 S A w e.av v):∃ T u,v=.iface T u:=by
 cases e with
 | nil=>exact absurd rfl he
 | no n=>obtain ⟨T,u,rfl,_⟩:=VR.ifc_inv (σ:=fun _=>none) (.of0 (show VR0 S A w (.ifc 1 (aI n)) v from h));exact ⟨T,u,rfl⟩
 | oth t=>obtain ⟨T,u,rfl,_⟩:=VR.ifc_inv (σ:=fun _=>none) (.of0 (show VR0 S A w (.ifc t .bot) v from h));exact ⟨T,u,rfl⟩
theorem err_any {S:Seat} {A A':Nat->Prop} {w w':World} {e:Err} {v:Value} (h:VR0 S A w e.av v):VR0 S A' w' e.av v:=by
 cases e with
 | nil=>rw[za8 h];exact .v _
 | no n =>
  cases (show VR0 S A w (.ifc 1 (aI n)) v from h) with
  | ifc h0 h1=>cases h1;exact .ifc h0 (.v _)
 | oth t =>
  cases (show VR0 S A w (.ifc t .bot) v from h) with
  | ifc h0 h1=>exact .ifc h0 (.bot _)
theorem zac {S:Seat} {A:Nat->Prop} {X Y:World} {e:Err} {v:Value} (h:zbl S A X Y e.av v):VR0 S (qv A (fun _=>none) X Y) Y e.av v:=by
 obtain ⟨β,h1,_,hp⟩:=h;have:yY S (qv A β X Y) Y (β 0) e.av v:=by cases e<;>exact hp
 have:VR0 S (qv A β X Y) Y e.av v:=by cases e<;>exact this.2
 exact this.mono (fun b hb=>⟨hb.1,hb.2.1,by simp⟩) fun _ _=>rfl
open Classical in
def P332 (o:List Dim) (l:List Entry):Option (List Cell×Err) :=
 if Lst Entry.gd l then (match P349 o l with
  | some .nil=>some ((List.range (sizeN o)).map fun k=>sol o l (zdt o k).1,.nil)
  | some e=>some ([],e)
  | none=>none) else none
abbrev K0' (W X:World):Prop:=KeepO (fun _=>False) W X
open Classical in
def P330 (o:List Dim) (l:List Entry) (p:List Int):Option (Cell×Err) :=
 if Lst Entry.gd l∧p.length<=9223372036854775807 then (match P349 o l with
  | some .nil=>(match P58 o p with
   | some .nil=>some (sol o l p,.nil)
   | some e=>some (⟨0,0⟩,e)
   | none=>none)
  | some e=>some (⟨0,0⟩,e)
  | none=>none) else none
def k330:CSpec:=⟨330,[.st .outl,.sl .entry,.sl .int],.tp [.st .cell,.err],fun x=>P330 x.1 x.2.1 x.2.2,false,[]⟩
def ValueAt (S:Seat):Prop:=∀ g,zV g S.fns=some 330->∃ g349 g58 g350 g351 fn350,zV g349 S.fns=some 349∧zV g58 S.fns=some 58∧zV g351 S.fns=some 351∧S.P.funcs[g350]? = some fn350∧zan S 350 fn350=some tf350.er∧fn350.results=#[.tmp 4,.tmp 5] ∧
 (∀ {u0 l p:Value} {W:World} {R:Ending->World->Prop} {N:World->World->Value->Prop},u0.oneCell'=true ->
  (∀ X,K0' W X->Calls S.P g349 #[.agg #[u0],l] X fun e Y=>e=.returned .nilIface∧K0' X Y) ->
  (∀ X,K0' W X->Calls S.P g58 #[.agg #[u0],p] X fun e Y=>e=.returned .nilIface∧K0' X Y) ->
  (∀ X,K0' W X->W.heap.size < X.heap.size->Calls S.P g350 #[.agg #[u0],l] X fun e Y=>∃ pv,e=.returned (.tuple #[pv,.nilIface])∧K0' X Y∧N X Y pv) ->
  (∀ X Y pv,K0' W X->W.heap.size+1 < X.heap.size->K0' X Y->N X Y pv->Calls S.P g351 #[pv,p] Y fun e Z=>∃ k n,e=.returned (.agg #[.int .i64 k,.int .i64 n])∧(∀ b,b < X.heap.size->Z.heap[b]? = Y.heap[b]?) ∧
   R (.returned (.tuple #[.agg #[.int .i64 k,.int .i64 n],.nilIface])) ((Z.setCell ⟨W.heap.size+1,0,none⟩ (.int .i64 k)).setCell ⟨W.heap.size+1,1,none⟩ (.int .i64 n)))->Calls S.P g #[.agg #[u0],l,p] W R) ∧
 (∀ {u0 l p:Value} {W:World} {R:Ending->World->Prop},u0.oneCell'=true ->
  (∀ X,K0' W X->Calls S.P g349 #[.agg #[u0],l] X fun e Y=>∃ T v,e=.returned (.iface T v)∧K0' X Y∧R (.returned (.tuple #[.agg #[.int .i64 0,.int .i64 0],.iface T v])) ((Y.setCell ⟨W.heap.size+1,0,none⟩ (.int .i64 0)).setCell ⟨W.heap.size+1,1,none⟩ (.int .i64 0)))->Calls S.P g #[.agg #[u0],l,p] W R) ∧
 (∀ {u0 l p:Value} {W:World} {R:Ending->World->Prop},u0.oneCell'=true ->
  (∀ X,K0' W X->Calls S.P g349 #[.agg #[u0],l] X fun e Y=>e=.returned .nilIface∧K0' X Y) ->
  (∀ X,K0' W X->Calls S.P g58 #[.agg #[u0],p] X fun e Y=>∃ T v,e=.returned (.iface T v)∧K0' X Y∧R (.returned (.tuple #[.agg #[.int .i64 0,.int .i64 0],.iface T v])) ((Y.setCell ⟨W.heap.size+1,0,none⟩ (.int .i64 0)).setCell ⟨W.heap.size+1,1,none⟩ (.int .i64 0)))->Calls S.P g #[.agg #[u0],l,p] W R)
theorem zhY {W Z:World} {p:Addr} {v:Value} (h:K0' W Z) (hp:W.heap.size<=p.block):K0' W (Z.setCell p v) :=
 ⟨h.os,h.tape,h.output,by simpa[World.setCell] using h.size,fun b hb _=>(Below.heap_setCell Z p v b (by omega)).trans (h.block b hb fun e=>e)⟩
theorem ret_two {S:Seat} {A:Nat->Prop} {w X Z:World} {x:AV} {e:Err} {a b:Value} (hx:zp x=false) (ha:VR0 S (qv A (fun _=>none) w Z) Z x a) (he:VR0 S (qv A (fun _=>none) w Z) Z e.av b):zbl S A w Z (.tup [x,e.av]) (.tuple #[a,b]):=by
 refine ⟨fun _=>none,by simp,by simp,#[a,b],rfl,rfl,fun i y hy => ?_⟩
 match i,hy with
 | 0,hy=>cases hy;exact qW ha
 | 1,hy=>cases hy;exact qW he
 | i+2,hy=>simp at hy
end
section
def zbc (o:List Dim) (l:List Entry):Int:=if (allE o).2.2=0 then entsE o l else (allE o).2.2
theorem zbm {o:List Dim} {l:List Entry} (hl:Lst Entry.gd l):P349 o l=some (zq (zbc o l)):=by
 simp only[P349,S349,P352_eq,zl,zZ,P27_eq o l hl];unfold zbc;by_cases h:(allE o).2.2=0
 ·rw[if_pos h,decide_eq_true h];rfl
 ·rw[if_neg h,decide_eq_false h];rfl
theorem zeN {o:List Dim} {l:List Entry} (hl:Lst Entry.gd l):zbc o l=0↔RightC o l:=by
 unfold zbc;by_cases h:(allE o).2.2=0
 ·rw[if_pos h];exact ⟨fun h2=>⟨zgn.1 h,ents_ok.1 h2,hl⟩,fun h2=>ents_ok.2 h2.ents⟩
 ·rw[if_neg h];exact ⟨fun h2=>absurd h2 h,fun h2=>absurd (zgn.2 h2.cube) h⟩
theorem za9 {e:Int}:zq e=.nil↔e=0:=by unfold zq;split<;>simp_all
theorem zhE {α:Type} {L:List α} {i:Nat} {a:α} (h:L[i]? = some a):L.take i++[a]=L.take (i+1):=by obtain ⟨hi,rfl⟩:=List.getElem?_eq_some_iff.1 h;rw[List.take_succ_eq_append_getElem hi]
section
variable {o:List Dim} {l:List Entry} (ok:RightC o l)
include ok
theorem new_inner {γ:Type} {d:Dim} (hd:d∈o):lpO (zc9 zjj d) (([]:List (Option (List Node))),(0:Int))=some (.inl ((List.range d.members.length).map (fmM d),(d.members.length:Int))):=by
 have hlen:=ok.most d hd;have hru:=ok.cube.rules d hd;generalize hL:(List.range d.members.length).map (fmM d)=L;have hLl:L.length=d.members.length:=by rw[← hL];simp
 have hs:=zJ (B:=zc9 zjj d) (fun j=>(L.take j,(j:Int))) d.members.length (fun j hj=>by
  have hm:=List.getElem?_eq_getElem hj;have e4:wi ((j:Int)+1)=((j+1:Nat):Int):=by rw[ju (by omega) (by omega)];omega
  have hlj:L[j]? = some (fmM d j):=by rw[← hL,List.getElem?_map,List.getElem?_range hj];rfl
  have hp:zjj d (j:Int)=some (fmM d j,.nil):=by
   rw[P355_eq hm];unfold fmM;rw[hm];simp only;split
   ·rfl
   ·rename_i hfo;rw[zdC hru hm hfo];rfl
  simp only[zc9];rw[zu,if_pos (by omega)];have hck:(L.take j).length+[fmM d j].length<=zF:=by simp only[List.length_take,List.length_singleton];unfold zF;omega
  simp only[hp,zl,jd,Bool.not_true,zg,zC hck,wn,e4,zhE hlj])
 rw[show (([]:List (Option (List Node))),(0:Int))=(L.take 0,((0:Nat):Int)) by rfl,hs,qm (y:=(L.take d.members.length,(d.members.length:Int))) (by simp only[zc9];rw[zu,if_neg (by omega)];rfl)];rw[← hLl,List.take_length]
theorem S350_eq:S350 zjj P40 o l=some (o,l,fmL o,List.replicate (sizeN o) false,List.replicate (sizeN o) ⟨0,0⟩):=by
 have hlen:=ok.cube.out.len;obtain ⟨h1,h2⟩:=ok.cube.out.sizeN;simp only[S350,P40_eq o (by omega),h1,zl];have hr:(0:Int)<=((sizeN o:Nat):Int)∧((sizeN o:Nat):Int)<=((sizeN o:Nat):Int)∧((sizeN o:Nat):Int)<=zF:=⟨by omega,Int.le_refl _,by unfold zF;omega⟩;simp only[zC hr,Int.toNat_natCast];generalize hK:List.replicate (sizeN o) false=K;generalize hC:List.replicate (sizeN o) (Cell.mk (0:Int) (0:Int))=C;have hfl:(fmL o).length=o.length:=by unfold fmL;simp
 have hs:=zJ (B:=ze4 zjj o) (fun i=>((i:Int),(o,l,(fmL o).take i,K,C))) o.length (fun i hi=>by
  have hd:=List.getElem?_eq_getElem hi;have e4:wi ((i:Int)+1)=((i+1:Nat):Int):=by rw[ju (by omega) (by omega)];omega
  simp only[ze4];rw[zu,if_pos (by omega)];simp only[zh,hd,zl];rw[qY,new_inner (γ:=Unit) ok (List.getElem_mem hi)];have hck:((fmL o).take i).length+[(List.range (o[i]).members.length).map (fmM o[i])].length<=zF:=by simp only[List.length_take,List.length_singleton];unfold zF;omega
  simp only[ji,zC hck,wn,e4,zhE (fmL_get hd)])
 rw[qY,show ((0:Int),(o,l,([]:List (List (Option (List Node)))),K,C))=(((0:Nat):Int),(o,l,(fmL o).take 0,K,C)) from rfl,hs,qm (y:=((o.length:Int),(o,l,(fmL o).take o.length,K,C))) (by simp only[ze4];rw[zu,if_neg (by omega)];rfl)];simp only[ji];rw[← hfl,List.take_length]
end
end
section
open Go Go.RowKit
structure JKnows (S:Seat) (J:JP):Prop where
 at_:Rt (zw S J) (k351w J)
 size:Rt (zw S J) k40
 place:Rt (zw S J) k69
theorem arg_o {S:Seat} {A:Nat->Prop} {w:World} {o:List Dim} {v:Value} (h:VR0 S A w (.agg [.sl 3 (o.map Dim.cs)]) v):∃ u,v=.agg #[u]∧VR0 S A w (.sl 3 (o.map Dim.cs)) u∧u.oneCell'=true:=by
 obtain ⟨us,rfl,hl,hu⟩:=VR.agg_inv (σ:=fun _=>none) (.of0 h);have h0:=hu 0 _ rfl;obtain ⟨u,rfl⟩:∃ u,us=#[u]:=⟨us[0]'(by simp at hl;omega),by
  apply Array.ext
  ·simpa using hl.symm
  ·intro i h1 h2;obtain rfl:i=0:=by simp at h2;omega
   rfl⟩
 exact ⟨u,rfl,h0.to0 rfl,VR.cell1 h0 rfl⟩
section
variable {S:Seat} (hS:zO S) (hP:Plain S) (h349:Rt S k349) (h355:Rt S k355) (h40:Rt S k40)
include hS hP h349 h355 h40
omit h349 in
theorem zfL {o:List Dim} {l:List Entry} (ok:RightC o l) {g350:Nat} {fn350:Func} (hg:S.P.funcs[g350]? = some fn350) (hc:zan S 350 fn350=some tf350.er) (hres:fn350.results=#[.tmp 4,.tmp 5]) {A AX:Nat->Prop} {w X:World} {u0 v1:Value} (hA:(∀ b,A b->b < w.heap.size)∧Inv S w)
  (a0:VR0 S A w (.sl 3 (o.map Dim.cs)) u0) (a1:VR0 S A w (.sl 2 (l.map Entry.cs)) v1) (hX:KeepO (fun _=>False) w X) (hAX:∀ b,A b->AX b) (hlt:∀ b,AX b->b < X.heap.size) :
  Calls S.P g350 #[.agg #[u0],v1] X fun e Y=>∃ pv,e=.returned (.tuple #[pv,.nilIface])∧KeepO (fun _=>False) X Y∧∃ kb cb kc cc A',kb≠cb∧Inv S X∧NewIs S AX X Y pv (JS o l kb cb kc cc).s A' (List.replicate (sizeN o) false) (List.replicate (sizeN o) ⟨0,0⟩):=by
 have hw:∀ b,A b->X.heap[b]? = w.heap[b]?:=fun b hb=>hX.block b (hA.1 b hb) fun e=>e;have hi:Inv S X:=hA.2.keep (fun _ _ h=>h) hX;have hn:0 < sizeN o:=(by have:=digs_fit ok.cube.out 0;exact Nat.lt_of_le_of_lt (Nat.zero_le _) (zfF this));refine (new_sound hS h355 h40 hg hc hres (S350_eq ok) (by simpa using hn) (by simp) (A:=AX) (w:=X) (vs:=#[.agg #[u0],v1]) rfl ⟨hlt,hi⟩ (.none hP.g hP.n _ _ _) fun i z hz => ?_).mono ?_
 ·match i,hz with
  | 0,hz =>
   cases hz;exact .agg rfl fun j y hy=>by
    match j,hy with
    | 0,hy=>cases hy;exact a0.mono hAX hw
    | j+1,hy=>have hy:([AV.sl 3 (o.map Dim.cs)]:List AV)[j+1]? = some y:=hy;simp at hy
  | 1,hz=>cases hz;exact a1.mono hAX hw
  | i+2,hz=>simp[encAL] at hz
 ·rintro e Y ⟨v,s,A',he,hk,_,rfl,rfl,hf,hsn,hnew⟩;have hk0:KeepO (fun _=>False) X Y:=⟨hk.os,hk.tape,hk.output,hk.size,fun b hb _=>hk.block b hb (hP.g b)⟩;refine ⟨v,he,hk0,s.kb,s.cb,s.kc,s.cc,A',hnew.ne,hi, ?_⟩;have:(JS s.o s.l s.kb s.cb s.kc s.cc).s=s:=(by obtain ⟨so,sl,sf,kb,cb,kc,cc,n⟩:=s;have hn':n=(List.replicate (sizeN so) false).length:=hsn;rw[List.length_replicate] at hn';subst hn';simp only at hf;subst hf;rfl);rw[this];exact hnew
omit h349 in
theorem r330 (h349:Rt S k349) (h58:Rt S k58) (hJ:∀ J,JOk J->JKnows S J) (hat:ValueAt S):Rt S k330:=fun (x:List Dim×List Entry×List Int) (y:Cell×Err) hy=>by
 obtain ⟨o,l,p⟩:=x;have hy2:P330 o l p=some y:=hy;clear hy;unfold P330 at hy2;split at hy2
 ·rename_i hlp;obtain ⟨hl,hp⟩:=hlp;rw[zbm hl,zdd o p hp] at hy2;intro g hg;obtain ⟨g349,g58,g350,g351,fn350,hg349,hg58,hg351,hg350,hc350,hres350,walk,err1,err2⟩:=hat g hg;have ar:∀ {z:Err},P349 o l=some z->(za S).ret 349 [.agg [.sl 3 (o.map Dim.cs)],.sl 2 (l.map Entry.cs)] z.av []:=fun {z} hz=>h349 (o,l) z hz;have ar2:∀ {z:Err},P58 o p=some z->(za S).ret 58 [.agg [.sl 3 (o.map Dim.cs)],.sl 1 (p.map fun n=>[aI n])] z.av []:=fun {z} hz=>h58 (o,p) z hz;show yT S g [.agg [.sl 3 (o.map Dim.cs)],.sl 2 (l.map Entry.cs),.sl 1 (p.map fun n=>[aI n])] (.tup [.agg (Cell.cs y.1),y.2.av]) [];refine jM (fun A w vs hvl hA hJR ha => ?_) (by simp[zp]);obtain ⟨v0,v1,v2,rfl⟩:∃ x0 x1 x2,vs=#[x0,x1,x2]:=by
   obtain ⟨r⟩:=vs
   match r,hvl with
   | [x0,x1,x2],_=>exact ⟨x0,x1,x2,rfl⟩
  obtain ⟨u0,rfl,a0,one⟩:=arg_o (show VR0 S A w (.agg [.sl 3 (o.map Dim.cs)]) v0 from ha 0 _ rfl);have a1:VR0 S A w (.sl 2 (l.map Entry.cs)) v1:=ha 1 _ rfl;have a2:VR0 S A w (.sl 1 (p.map fun n=>[aI n])) v2:=ha 2 _ rfl;have use:=fun {z:Err} (hz:P349 o l=some z) (X:World) (hX:KeepO (fun _=>False) w X)=>zat hP hg349 (ar hz) (by simp[zp]) (A:=A) (w:=w) (X:=X) (vs:=#[.agg #[u0],v1]) rfl hA hX fun i x hx=>by
   match i,hx with
   | 0,hx=>exact ha 0 x hx
   | 1,hx=>exact ha 1 x hx
   | i+2,hx=>simp at hx
  have use2:=fun {z:Err} (hz:P58 o p=some z) (X:World) (hX:KeepO (fun _=>False) w X)=>zat hP hg58 (ar2 hz) (by simp[zp]) (A:=A) (w:=w) (X:=X) (vs:=#[.agg #[u0],v2]) rfl hA hX fun i x hx=>by
   match i,hx with
   | 0,hx=>exact ha 0 x hx
   | 1,hx=>exact ha 2 x hx
   | i+2,hx=>simp at hx
  have fin:∀ {Z:World},KeepO (fun _=>False) w Z->KeepO S.jg w Z∧S.jn Z:=fun h=>⟨⟨h.os,h.tape,h.output,h.size,fun b hb _=>h.block b hb fun e=>e⟩,hP.n _⟩;have nilw:∀ {z:Int},z=0->zq z=Err.nil:=fun h=>za9.2 h
  have zero:∀ {Z:World} {e:Err} {v:Value} {A1:Nat->Prop} {w1:World},KeepO (fun _=>False) w Z->VR0 S A1 w1 e.av v->y=(⟨0,0⟩,e)->∀ a b:Value,∃ r,Ending.returned (.tuple #[.agg #[.int .i64 0,.int .i64 0],v])=.returned r∧KeepO S.jg w ((Z.setCell ⟨w.heap.size+1,0,none⟩ a).setCell ⟨w.heap.size+1,1,none⟩ b)∧S.jn ((Z.setCell ⟨w.heap.size+1,0,none⟩ a).setCell ⟨w.heap.size+1,1,none⟩ b) ∧
    zbl S A w ((Z.setCell ⟨w.heap.size+1,0,none⟩ a).setCell ⟨w.heap.size+1,1,none⟩ b) (.tup [.agg (Cell.cs y.1),y.2.av]) r:=by
   rintro Z e v A1 w1 hZ hv rfl a b;have hk:=zhY (v:=b) (p:=⟨w.heap.size+1,1,none⟩) (zhY (v:=a) (p:=⟨w.heap.size+1,0,none⟩) hZ (le_succ _)) (le_succ _);exact ⟨_,rfl,(fin hk).1,(fin hk).2,ret_two (X:=Z) rfl (zeP ⟨0,0⟩) (err_any hv)⟩
  by_cases hz:zbc o l=0
  ·have ok:=(zeN hl).1 hz;have hn:P349 o l=some .nil:=by rw[zbm hl,hz];rfl
   rw[hz,show zq 0=Err.nil from rfl] at hy2;by_cases hf0:yx o p=0
   ·have hf:=zam.1 hf0;have hn2:P58 o p=some .nil:=by rw[zdd o p hp,hf0];rfl
    rw[hf0,show zq 0=Err.nil from rfl] at hy2;obtain rfl:=Option.some.inj hy2;refine walk (N:=fun X Y pv=>∃ kb cb kc cc A',kb≠cb∧Inv S X∧KeepO (fun _=>False) w X∧KeepO (fun _=>False) X Y∧NewIs S (fun b=>A b∨b=w.heap.size) X Y pv (JS o l kb cb kc cc).s A' (List.replicate (sizeN o) false) (List.replicate (sizeN o) ⟨0,0⟩)) one (fun X hX=>(use hn X hX).mono ?_) (fun X hX=>(use2 hn2 X hX).mono ?_) (fun X hX hlt => ?_) ?_
    ·rintro e Y ⟨v,rfl,hk,hr⟩;exact ⟨by rw[za8 (zac hr)],hk⟩
    ·rintro e Y ⟨v,rfl,hk,hr⟩;exact ⟨by rw[za8 (zac hr)],hk⟩
    ·refine (zfL hS hP h355 h40 ok hg350 hc350 hres350 (AX:=fun b=>A b∨b=w.heap.size) hA a0 a1 hX (fun b hb=>.inl hb) fun b hb=>by
      rcases hb with hb | rfl
      ·exact Nat.lt_of_lt_of_le (hA.1 b hb) hX.size
      ·exact hlt).mono ?_
     rintro e Y ⟨pv,he,hk,kb,cb,kc,cc,A',h1,h2,h3⟩;exact ⟨pv,he,hk,kb,cb,kc,cc,A',h1,h2,hX,hk,h3⟩
    ·rintro X Y pv hX hlt hXY ⟨kb,cb,kc,cc,A',hne,hi,_,_,hnew⟩;have jk:=hJ (JS o l kb cb kc cc) (jok ok hne);obtain ⟨jr,jA,jI⟩:=hnew.jr (J:=JS o l kb cb kc cc) rfl (by simp[JS]) hi hXY;have hret:(za (zw S (JS o l kb cb kc cc))).ret 351 [.ep (Solver.cs (JS o l kb cb kc cc).s) 0,.sl 1 (p.map fun n=>[aI n])] (.agg (Cell.cs (sol o l p))) []:=jk.at_ ((JS o l kb cb kc cc).s,p) (sol o l p) (ziw ok hf);refine ((hret g351 hg351).old (by simp[zp]) A' Y #[pv,v2] rfl ⟨jA,jI⟩ jr fun i x hx => ?_).mono ?_
     ·match i,hx with
      | 0,hx=>cases hx;exact hnew.rel.toJ
      | 1,hx =>cases hx;exact (a2.mono (fun b hb=>hnew.sub b (.inl hb)) fun b hb=>(hXY.block b (Nat.lt_of_lt_of_le (hA.1 b hb) hX.size) fun e=>e).trans (hX.block b (hA.1 b hb) fun e=>e)).toJ
      | i+2,hx=>simp at hx
     ·rintro e Z ⟨v,rfl,hk,hj,hr⟩;have hZ:=keep_end (J:=JS o l kb cb kc cc) (hX.trans hXY) hk (Nat.le_trans hX.size hnew.bk.1) (Nat.le_trans hX.size hnew.bc.1);refine ⟨(sol o l p).k,(sol o l p).n,by rw[zhI hr];rfl,fun b hb=>hk.block b (Nat.lt_of_lt_of_le hb hXY.size) fun e => ?_, ?_⟩
      ·rcases e with rfl | rfl
       ·exact absurd hb (Nat.not_lt.2 hnew.bk.1)
       ·exact absurd hb (Nat.not_lt.2 hnew.bc.1)
      ·have hk2:=zhY (v:=.int .i64 (sol o l p).n) (p:=⟨w.heap.size+1,1,none⟩) (zhY (v:=.int .i64 (sol o l p).k) (p:=⟨w.heap.size+1,0,none⟩) hZ (le_succ _)) (le_succ _);exact ⟨_,rfl,(fin hk2).1,(fin hk2).2,ret_two (X:=Z) (e:=.nil) rfl (zeP _) (.v _)⟩
   ·have he:zq (yx o p)≠.nil:=fun h=>hf0 (za9.1 h);have hy3:y=(⟨0,0⟩,zq (yx o p)):=(by revert hy2;generalize zq (yx o p)=e at he;cases e<;>simp_all);refine err2 one (fun X hX=>(use hn X hX).mono ?_) fun X hX=>(use2 (zdd o p hp) X hX).mono ?_
    ·rintro e Y ⟨v,rfl,hk,hr⟩;exact ⟨by rw[za8 (zac hr)],hk⟩
    ·rintro e Z ⟨v,rfl,hk,hr⟩;have hv:=zac hr;obtain ⟨T,u,rfl⟩:=zh9 he hv;exact ⟨T,u,rfl,hk,zero (hX.trans hk) hv hy3 _ _⟩
  ·have he:zq (zbc o l)≠.nil:=fun h=>hz (za9.1 h);have hy3:y=(⟨0,0⟩,zq (zbc o l)):=(by revert hy2;generalize zq (zbc o l)=e at he;cases e<;>simp_all);refine err1 one fun X hX=>(use (zbm hl) X hX).mono ?_;rintro e Z ⟨v,rfl,hk,hr⟩;have hv:=zac hr;obtain ⟨T,u,rfl⟩:=zh9 he hv;exact ⟨T,u,rfl,hk,zero (hX.trans hk) hv hy3 _ _⟩
 ·cases hy2
end
end
section
set_option maxRecDepth 100000
section
variable (F332:LD->LY->(Option (LC×Err))) (F69:LD->Int->(Option LI))
end
end
end Ab
