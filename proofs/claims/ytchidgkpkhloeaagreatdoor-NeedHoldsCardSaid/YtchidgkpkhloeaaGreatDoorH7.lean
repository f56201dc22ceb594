import Derived.Test.YtchidgkpkhloeaaGreatDoorH3
open List (length_take take_length)
open Nat (le_trans)
set_option linter.unusedVariables false
set_option linter.unusedSimpArgs false
noncomputable section
namespace Ab
open Go
section
open Go Go.RowKit
open Classical in
def zkl (J:JP) (s:Solver) (p:List Int):Option Cell:=if s=J.s∧J.fit p then some (J.U (J.num p)) else none
def k351w (J:JP):CSpec:=⟨351,[.bx .solver,.sl .int],.st .cell,fun x=>zkl J x.1 x.2,false,[]⟩
theorem r351w {S:Seat} {J:JP} (h:∀ n,Rt S (k351 J n)):Rt S (k351w J):=fun (x:Solver×List Int) (y:Cell) hy=>by
 have hy2:zkl J x.1 x.2=some y:=hy;refine h (J.rk x.2+1) x y ?_;show zkr J (J.rk x.2+1) x.1 x.2=some y;unfold zkl at hy2;unfold zkr;split at hy2
 ·rename_i c;rw[if_pos ⟨c.1,c.2,Nat.lt_succ_self _⟩];exact hy2
 ·cases hy2
theorem P351w_JS {o:List Dim} {l:List Entry} (ok:RightC o l) {kb cb kc cc:Nat} {p:List Int} (hf:Fit o p):zkl (JS o l kb cb kc cc) (JS o l kb cb kc cc).s p=some (sol o l p):=by unfold zkl;rw[if_pos ⟨rfl,hf⟩];show some (sol o l (qq o (qA o p)).1)=_;rw[yq ok.pos hf]
theorem jX {S:Seat} (hP:Plain S) {g id:Nat} (hg:zP g S.fns=some id) {args:List AV} {r:AV} (h:(za S).ret id args r []) (hno:∀ x∈args,zp x=false) {A:Nat->Prop} {w X:World} {vs:Array Value} (hl:vs.size=args.length)
  (hA:(∀ b,A b->b < w.heap.size)∧Inv S w) (hk:KeepO (fun _=>False) w X) (ha:∀ (i:Nat) (x:AV),args[i]? = some x->VR0 S A w x (vs.getD i undef)) :
  Calls S.P g vs X fun e Y=>∃ v,e=.returned v∧KeepO (fun _=>False) X Y∧zb1 S A X Y r v:=by
 refine (((h g hg).old0 hP hno) A X vs hl ⟨fun b hb=>Nat.lt_of_lt_of_le (hA.1 b hb) hk.size,hA.2.keep (fun _ _ h=>h) hk⟩ fun i x hx=>(ha i x hx).mono (fun _ h=>h) fun b hb=>hk.block b (hA.1 b hb) fun h=>h)
theorem zfq {S:Seat} {A:Nat->Prop} {w:World} {v:Value} (h:VR0 S A w (Err.av .nil) v):v=.nilIface:=VR.v_inv (σ:=fun _=>none) (.of0 h)
theorem zfp {S:Seat} {A:Nat->Prop} {w:World} {e:Err} {v:Value} (he:e≠.nil) (h:VR0 S A w e.av v):∃ T u,v=.iface T u:=by
 cases e with
 | nil=>exact absurd rfl he
 | no n=>obtain ⟨T,u,rfl,_⟩:=VR.ifc_inv (σ:=fun _=>none) (.of0 (show VR0 S A w (.ifc 1 (aI n)) v from h));exact ⟨T,u,rfl⟩
 | oth t=>obtain ⟨T,u,rfl,_⟩:=VR.ifc_inv (σ:=fun _=>none) (.of0 (show VR0 S A w (.ifc t .bot) v from h));exact ⟨T,u,rfl⟩
theorem zeT {S:Seat} {A:Nat->Prop} {X Y:World} {e:Err} {v:Value} (h:zb1 S A X Y e.av v):VR0 S (zO A (fun _=>none) X Y) Y e.av v:=by
 obtain ⟨β,h1,_,hp⟩:=h;have:wa S (zO A β X Y) Y (β 0) e.av v:=by cases e<;>exact hp
 have:VR0 S (zO A β X Y) Y e.av v:=by cases e<;>exact this.2
 exact this.mono (fun b hb=>⟨hb.1,hb.2.1,by simp⟩) fun _ _=>rfl
open Classical in
def P332 (o:List Dim) (l:List Entry):Option (List Cell×Err) :=
 if Lst Entry.gd l then (match P349 o l with
  | some .nil=>some ((List.range (sizeN o)).map fun k=>sol o l (qq o k).1,.nil)
  | some e=>some ([],e)
  | none=>none) else none
def k332:CSpec:=⟨332,[.st .outl,.sl .entry],.tp [.sl .cell,.err],fun x=>P332 x.1 x.2,false,[]⟩
abbrev K0' (W X:World):Prop:=KeepO (fun _=>False) W X
def AllAt (S:Seat):Prop:=∀ g,zP g S.fns=some 332->∃ g349 g350 fn350 fn rest,zP g349 S.fns=some 349∧S.P.funcs[g350]? = some fn350∧zbt S 350 fn350=some tf350.er∧fn350.results=#[.tmp 4,.tmp 5]∧(∀ J,jH (zy S J) fn.ntmps rest=some zix.body.er) ∧
 zb (cRes S.P) fn.results.toList=some zix.res∧fn.ntmps=41 ∧
 (∀ {u0 l:Value} {W:World} {R:Ending->World->Prop} {N:World->World->Value->Prop},u0.oneCell'=true ->
  (∀ X,K0' W X->Calls S.P g349 #[.agg #[u0],l] X fun e Y=>e=.returned .nilIface∧K0' X Y) ->
  (∀ X,K0' W X->W.heap.size < X.heap.size->Calls S.P g350 #[.agg #[u0],l] X fun e Y=>∃ pv,e=.returned (.tuple #[pv,.nilIface])∧K0' X Y∧N X Y pv) ->
  (∀ X Y pv tm,K0' W X->W.heap.size < X.heap.size->K0' X Y->N X Y pv->X.cell? ⟨W.heap.size,0,none⟩=some u0->tm.size=41->tm.getD 2 undef=.pointer (some ⟨W.heap.size,0,none⟩)->tm.getD 1 undef=l->tm.getD 7 undef=pv ->
   rest.wp S.P (bodyPost S.P fn R) { tmps:=tm,defers:=[] } Y)->Calls S.P g #[.agg #[u0],l] W R) ∧
 (∀ {u0 l:Value} {W:World} {R:Ending->World->Prop},u0.oneCell'=true ->
  (∀ X,K0' W X->Calls S.P g349 #[.agg #[u0],l] X fun e Y=>∃ T v,e=.returned (.iface T v)∧K0' X Y∧R (.returned (.tuple #[.slice none 0 0,.iface T v])) Y)->Calls S.P g #[.agg #[u0],l] W R)
theorem zeS {S:Seat} {A:Nat->Prop} {w X Z:World} {x:AV} {e:Err} {a b:Value} (hx:zp x=false) (ha:VR0 S (zO A (fun _=>none) w Z) Z x a) (he:VR0 S (zO A (fun _=>none) w Z) Z e.av b):zb1 S A w Z (.tup [x,e.av]) (.tuple #[a,b]):=by
 refine ⟨fun _=>none,by simp,by simp,#[a,b],rfl,rfl,fun i y hy => ?_⟩
 match i,hy with
 | 0,hy=>cases hy;exact jd ha
 | 1,hy=>cases hy;exact jd he
 | i+2,hy=>simp at hy
theorem zdH {A:Nat->Prop} {w X Z:World} (h1:w.heap.size<=X.heap.size):∀ b,zO A (fun _=>none) X Z b->zO A (fun _=>none) w Z b:=fun b ⟨h,h2,h3⟩=>⟨h.imp id (le_trans h1),h2,h3⟩
end
section
def wu (o:List Dim) (l:List Entry):Int:=if (zaD o).2.2=0 then zfs o l else (zaD o).2.2
theorem zf3 {o:List Dim} {l:List Entry} (hl:Lst Entry.gd l):P349 o l=some (zm (wu o l)):=by
 simp only[P349,S349,P352_eq,zj,zB,P27_eq o l hl];unfold wu;by_cases h:(zaD o).2.2=0
 ·rw[if_pos h,decide_eq_true h];rfl
 ·rw[if_neg h,decide_eq_false h];rfl
theorem zh5 {o:List Dim} {l:List Entry} (hl:Lst Entry.gd l):wu o l=0↔RightC o l:=by
 unfold wu;by_cases h:(zaD o).2.2=0
 ·rw[if_pos h];exact ⟨fun h2=>⟨je.1 h,zfr.1 h2,hl⟩,fun h2=>zfr.2 h2.ents⟩
 ·rw[if_neg h];exact ⟨fun h2=>absurd h2 h,fun h2=>absurd (je.2 h2.cube) h⟩
theorem zah {e:Int}:zm e=.nil↔e=0:=by unfold zm;split<;>simp_all
theorem wX {α:Type} {L:List α} {i:Nat} {a:α} (h:L[i]? = some a):L.take i++[a]=L.take (i+1):=by obtain ⟨hi,rfl⟩:=List.getElem?_eq_some_iff.1 h;rw[List.take_succ_eq_append_getElem hi]
section
variable {o:List Dim} {l:List Entry} (ok:RightC o l)
include ok
theorem new_inner {γ:Type} {d:Dim} (hd:d∈o):lpO (zdN zkq d) (([]:List (Option (List Node))),(0:Int))=some (.inl ((List.range d.members.length).map (fmM d),(d.members.length:Int))):=by
 have hlen:=ok.most d hd;have hru:=ok.cube.rules d hd;generalize hL:(List.range d.members.length).map (fmM d)=L;have hLl:L.length=d.members.length:=by rw[← hL];simp
 have hs:=zU (B:=zdN zkq d) (fun j=>(L.take j,(j:Int))) d.members.length (fun j hj=>by
  have hm:=List.getElem?_eq_getElem hj;have e4:wi ((j:Int)+1)=((j+1:Nat):Int):=by rw[jv (by omega) (by omega)];omega
  have hlj:L[j]? = some (fmM d j):=by rw[← hL,List.getElem?_map,List.getElem?_range hj];rfl
  have hp:zkq d (j:Int)=some (fmM d j,.nil):=by
   rw[P355_eq hm];unfold fmM;rw[hm];simp only;split
   ·rfl
   ·rename_i hfo;rw[zec hru hm hfo];rfl
  simp only[zdN];rw[zt,if_pos (by omega)];have hck:(L.take j).length+[fmM d j].length<=zH:=by simp only[length_take,List.length_singleton];unfold zH;omega
  simp only[hp,zj,qZ,Bool.not_true,zg,zw hck,yG,e4,wX hlj])
 rw[show (([]:List (Option (List Node))),(0:Int))=(L.take 0,((0:Nat):Int)) by rfl,hs,qw (y:=(L.take d.members.length,(d.members.length:Int))) (by simp only[zdN];rw[zt,if_neg (by omega)];rfl)];rw[← hLl,take_length]
theorem S350_eq:S350 zkq P40 o l=some (o,l,fmL o,List.replicate (sizeN o) false,List.replicate (sizeN o) ⟨0,0⟩):=by
 have hlen:=ok.cube.out.len;obtain ⟨h1,h2⟩:=ok.cube.out.sizeN;simp only[S350,zjw o (by omega),h1,zj];have hr:(0:Int)<=((sizeN o:Nat):Int)∧((sizeN o:Nat):Int)<=((sizeN o:Nat):Int)∧((sizeN o:Nat):Int)<=zH:=⟨by omega,Int.le_refl _,by unfold zH;omega⟩;simp only[zw hr,Int.toNat_natCast];generalize hK:List.replicate (sizeN o) false=K;generalize hC:List.replicate (sizeN o) (Cell.mk (0:Int) (0:Int))=C;have hfl:(fmL o).length=o.length:=by unfold fmL;simp
 have hs:=zU (B:=zfN zkq o) (fun i=>((i:Int),(o,l,(fmL o).take i,K,C))) o.length (fun i hi=>by
  have hd:=List.getElem?_eq_getElem hi;have e4:wi ((i:Int)+1)=((i+1:Nat):Int):=by rw[jv (by omega) (by omega)];omega
  simp only[zfN];rw[zt,if_pos (by omega)];simp only[zh,hd,zj];rw[jh,new_inner (γ:=Unit) ok (List.getElem_mem hi)];have hck:((fmL o).take i).length+[(List.range (o[i]).members.length).map (fmM o[i])].length<=zH:=by simp only[length_take,List.length_singleton];unfold zH;omega
  simp only[q8,zw hck,yG,e4,wX (fmL_get hd)])
 rw[jh,show ((0:Int),(o,l,([]:List (List (Option (List Node)))),K,C))=(((0:Nat):Int),(o,l,(fmL o).take 0,K,C)) from rfl,hs,qw (y:=((o.length:Int),(o,l,(fmL o).take o.length,K,C))) (by simp only[zfN];rw[zt,if_neg (by omega)];rfl)];simp only[q8];rw[← hfl,take_length]
theorem S1332_eq {F:Solver->List Int->Option Cell} {s:Solver} (hF:∀ p,Fit o p->F s p=some (sol o l p)):S1332 F P40 P69 o s=some ((List.range (sizeN o)).map fun k=>sol o l (qq o k).1,.nil):=by
 have hlen:=ok.cube.out.len;obtain ⟨h1,h2⟩:=ok.cube.out.sizeN;simp only[S1332,zjw o (by omega),h1,zj];generalize hL:(List.range (sizeN o)).map (fun k=>sol o l (qq o k).1)=L;have hLl:L.length=sizeN o:=by rw[← hL];simp
 have hs:=zU (B:=zcL F P69 o s ((sizeN o:Nat):Int)) (fun i=>(L.take i,(i:Int))) (sizeN o) (fun i hi=>by
  have e4:wi ((i:Int)+1)=((i+1:Nat):Int):=by rw[jv (by omega) (by omega)];omega
  have hlj:L[i]? = some (sol o l (qq o i).1):=by rw[← hL,List.getElem?_map,List.getElem?_range hi];rfl
  simp only[zcL];rw[zt,if_pos (by omega)];have hck:(L.take i).length+[sol o l (qq o i).1].length<=zH:=by simp only[length_take,List.length_singleton];unfold zH;omega
  have hp:=P69_eq o i (by omega) (by omega) (fun d hd=>⟨ok.pos d hd,by have:=ok.most d hd;omega⟩);simp only[hp,zj,hF _ (wt ok.cube.out i),zw hck,yG,e4,wX hlj])
 rw[jh,show (([]:List Cell),(0:Int))=(L.take 0,((0:Nat):Int)) from rfl,hs,qw (y:=(L.take (sizeN o),((sizeN o:Nat):Int))) (by simp only[zcL];rw[zt,if_neg (by omega)];rfl)];simp only[q8];rw[← hLl,take_length]
end
end
section
open Go Go.RowKit
structure JKnows (S:Seat) (J:JP):Prop where
 at_:Rt (zy S J) (k351w J)
 size:Rt (zy S J) k40
 place:Rt (zy S J) k69
theorem arg_o {S:Seat} {A:Nat->Prop} {w:World} {o:List Dim} {v:Value} (h:VR0 S A w (.agg [.sl 3 (o.map Dim.cs)]) v):∃ u,v=.agg #[u]∧VR0 S A w (.sl 3 (o.map Dim.cs)) u∧u.oneCell'=true:=by
 obtain ⟨us,rfl,hl,hu⟩:=VR.agg_inv (σ:=fun _=>none) (.of0 h);have h0:=hu 0 _ rfl;obtain ⟨u,rfl⟩:∃ u,us=#[u]:=⟨us[0]'(by simp at hl;omega),by
  apply Array.ext
  ·simpa using hl.symm
  ·intro i h1 h2;obtain rfl:i=0:=by simp at h2;omega
   rfl⟩
 exact ⟨u,rfl,h0.to0 rfl,VR.cell1 h0 rfl⟩
section
variable {S:Seat} (hS:zY S) (hP:Plain S) (h349:Rt S k349) (h355:Rt S k355) (h40:Rt S k40)
include hS hP h349 h355 h40
omit h349 in
theorem new_plain {o:List Dim} {l:List Entry} (ok:RightC o l) {g350:Nat} {fn350:Func} (hg:S.P.funcs[g350]? = some fn350) (hc:zbt S 350 fn350=some tf350.er) (hres:fn350.results=#[.tmp 4,.tmp 5]) {A AX:Nat->Prop} {w X:World} {u0 v1:Value} (hA:(∀ b,A b->b < w.heap.size)∧Inv S w)
  (a0:VR0 S A w (.sl 3 (o.map Dim.cs)) u0) (a1:VR0 S A w (.sl 2 (l.map Entry.cs)) v1) (hX:KeepO (fun _=>False) w X) (hAX:∀ b,A b->AX b) (hlt:∀ b,AX b->b < X.heap.size) :
  Calls S.P g350 #[.agg #[u0],v1] X fun e Y=>∃ pv,e=.returned (.tuple #[pv,.nilIface])∧KeepO (fun _=>False) X Y∧∃ kb cb kc cc A',kb≠cb∧Inv S X∧NewIs S AX X Y pv (JS o l kb cb kc cc).s A' (List.replicate (sizeN o) false) (List.replicate (sizeN o) ⟨0,0⟩):=by
 have hw:∀ b,A b->X.heap[b]? = w.heap[b]?:=fun b hb=>hX.block b (hA.1 b hb) fun e=>e;have hi:Inv S X:=hA.2.keep (fun _ _ h=>h) hX;have hn:0 < sizeN o:=(by have:=wt ok.cube.out 0;exact Nat.lt_of_le_of_lt (Nat.zero_le _) (yp this));refine (new_sound hS h355 h40 hg hc hres (S350_eq ok) (by simpa using hn) (by simp) (A:=AX) (w:=X) (vs:=#[.agg #[u0],v1]) rfl ⟨hlt,hi⟩ (.none hP.g hP.n _ _ _) fun i z hz => ?_).mono ?_
 ·match i,hz with
  | 0,hz =>
   cases hz;exact .agg rfl fun j y hy=>by
    match j,hy with
    | 0,hy=>cases hy;exact a0.mono hAX hw
    | j+1,hy=>have hy:([AV.sl 3 (o.map Dim.cs)]:List AV)[j+1]? = some y:=hy;simp at hy
  | 1,hz=>cases hz;exact a1.mono hAX hw
  | i+2,hz=>simp[encAL] at hz
 ·rintro e Y ⟨v,s,A',he,hk,_,rfl,rfl,hf,hsn,hnew⟩;have hk0:KeepO (fun _=>False) X Y:=⟨hk.os,hk.tape,hk.output,hk.size,fun b hb _=>hk.block b hb (hP.g b)⟩;refine ⟨v,he,hk0,s.kb,s.cb,s.kc,s.cc,A',hnew.ne,hi, ?_⟩;have:(JS s.o s.l s.kb s.cb s.kc s.cc).s=s:=(by obtain ⟨so,sl,sf,kb,cb,kc,cc,n⟩:=s;have hn':n=(List.replicate (sizeN so) false).length:=hsn;rw[List.length_replicate] at hn';subst hn';simp only at hf;subst hf;rfl);rw[this];exact hnew
theorem r332 (hJ:∀ J,JOk J->JKnows S J) (hat:AllAt S):Rt S k332:=fun (x:List Dim×List Entry) (y:List Cell×Err) hy=>by
 obtain ⟨o,l⟩:=x;have hy2:P332 o l=some y:=hy;clear hy;unfold P332 at hy2;split at hy2
 ·rename_i hl;rw[zf3 hl] at hy2;intro g hg;obtain ⟨g349,g350,fn350,fn,rest,hg349,hg350,hc350,hres350,hcode,hres,hnt,walk,err⟩:=hat g hg;have ar:∀ {z:Err},P349 o l=some z->(za S).ret 349 [.agg [.sl 3 (o.map Dim.cs)],.sl 2 (l.map Entry.cs)] z.av []:=fun {z} hz=>h349 (o,l) z hz;show yX S g [.agg [.sl 3 (o.map Dim.cs)],.sl 2 (l.map Entry.cs)] (.tup [.sl 2 (y.1.map Cell.cs),y.2.av]) [];refine j8 (fun A w vs hvl hA hJR ha => ?_) (by simp[zp]);obtain ⟨v0,v1,rfl⟩:=za3 hvl;obtain ⟨u0,rfl,a0,one⟩:=arg_o (show VR0 S A w (.agg [.sl 3 (o.map Dim.cs)]) v0 from ha 0 _ rfl);have a1:VR0 S A w (.sl 2 (l.map Entry.cs)) v1:=ha 1 _ rfl;have use:=fun {z:Err} (hz:P349 o l=some z) (X:World) (hX:KeepO (fun _=>False) w X)=>jX hP hg349 (ar hz) (by simp[zp]) (A:=A) (w:=w) (X:=X) (vs:=#[.agg #[u0],v1]) rfl hA hX ha;have fin:∀ {Z:World} {v:Value},KeepO (fun _=>False) w Z->KeepO S.jg w Z∧S.jn Z:=fun h=>⟨⟨h.os,h.tape,h.output,h.size,fun b hb _=>h.block b hb fun e=>e⟩,hP.n _⟩;by_cases hz:wu o l=0
  ·have ok:=(zh5 hl).1 hz;have hn:P349 o l=some .nil:=by rw[zf3 hl,hz];rfl
   rw[hz,show zm 0=Err.nil from rfl] at hy2;obtain rfl:=Option.some.inj hy2;refine walk (N:=fun X Y pv=>∃ kb cb kc cc A',kb≠cb∧Inv S X∧NewIs S (fun b=>A b∨b=w.heap.size) X Y pv (JS o l kb cb kc cc).s A' (List.replicate (sizeN o) false) (List.replicate (sizeN o) ⟨0,0⟩)) one (fun X hX=>(use hn X hX).mono ?_) (fun X hX hlt => ?_) ?_
   ·rintro e Y ⟨v,rfl,hk,hr⟩;exact ⟨by rw[zfq (zeT hr)],hk⟩
   ·exact new_plain hS hP h355 h40 ok hg350 hc350 hres350 hA a0 a1 hX (fun b hb=>.inl hb) fun b hb=>by
     rcases hb with hb | rfl
     ·exact Nat.lt_of_lt_of_le (hA.1 b hb) hX.size
     ·exact hlt
   ·rintro X Y pv tm hX hlt hXY ⟨kb,cb,kc,cc,A',hne,hi,hnew⟩ hc0 hsz t2 t1 t7;have jk:=hJ (JS o l kb cb kc cc) (jok ok hne);obtain ⟨jr,jA,jI⟩:=hnew.jr (J:=JS o l kb cb kc cc) rfl (by simp[JS]) hi hXY
    have hrun:zix.runFrom [k351w (JS o l kb cb kc cc),k40,k69] { fr:=[(2,enc (.bx .outl) o),(7,enc (.bx .solver) (JS o l kb cb kc cc).s)],hp:=[],ctr:=1 } (.tp [.sl .cell,.err])=some ((List.range (sizeN o)).map fun k=>sol o l (qq o k).1,.nil) :=
     (s1332 (zkl (JS o l kb cb kc cc)) P40 P69 o (JS o l kb cb kc cc).s).trans (S1332_eq ok fun p hf=>P351w_JS ok hf)
    refine wp_mono (zjR (S:=zy S (JS o l kb cb kc cc)) (C:=[k351w (JS o l kb cb kc cc),k40,k69]) hS (.cons jk.at_ (.cons jk.size (.cons jk.place .nil))) (hcode _) hres rfl rfl rfl hrun (by rw[hsz,hnt]) ⟨jA,jI⟩ jr fun k => ?_) fun ex a Z h=>h.body fun v hk hj hr=>⟨v,rfl,(fin (v:=v) ?_).1,(fin (Z:=Z) (v:=v) ?_).2,ret_end hr (fun x hx => ?_) ?_⟩
    ·by_cases k2:k=2
     ·subst k2;rw[t2];show VR0 _ A' Y (.ep [.sl 3 (o.map Dim.cs)] 0) _;refine .ep (b:=w.heap.size) (o:=0) (u:=fun _=>u0) (hnew.sub _ (.inr rfl)) (fun j hj => ?_) fun j x hx => ?_
      ·obtain rfl:j=0:=by simp at hj;omega
       exact (World.cell?_of_block (a:=⟨w.heap.size,0,none⟩) (hXY.block _ hlt fun e=>e)).trans hc0
      ·match j,hx with
       | 0,hx =>cases hx;exact (a0.mono (fun b hb=>hnew.sub b (.inl hb)) fun b hb=>(hXY.block b (Nat.lt_of_lt_of_le (hA.1 b hb) hX.size) fun e=>e).trans (hX.block b (hA.1 b hb) fun e=>e)).toJ
       | j+1,hx=>simp at hx
     ·by_cases k7:k=7
      ·subst k7;rw[t7];exact hnew.rel.toJ
      ·have:look k TV.bot [(2,enc (.bx .outl) o),(7,enc (.bx .solver) (JS o l kb cb kc cc).s)]=.bot:=(by simp only[look];rw[show Nat.beq 2 k=false from by rw[← Bool.not_eq_true];exact fun e=>k2 (Nat.eq_of_beq_eq_true e).symm,show Nat.beq 7 k=false from by rw[← Bool.not_eq_true];exact fun e=>k7 (Nat.eq_of_beq_eq_true e).symm]);show VR0 _ A' Y (av [] (lv [] (look k TV.bot [(2,enc (.bx .outl) o),(7,enc (.bx .solver) (JS o l kb cb kc cc).s)]))) _;rw[this];exact .bot _
    ·exact ziS (J:=JS o l kb cb kc cc) (hX.trans hXY) hk (le_trans hX.size hnew.bk.1) (le_trans hX.size hnew.bc.1)
    ·exact ziS (J:=JS o l kb cb kc cc) (hX.trans hXY) hk (le_trans hX.size hnew.bk.1) (le_trans hX.size hnew.bc.1)
    ·rcases (hnew.lt x hx).2 with (h | rfl) | h
     ·exact .inl h
     ·exact .inr (Nat.le_refl _)
     ·exact .inr (le_trans hX.size h)
    ·exact le_trans hX.size hXY.size
  ·have he:zm (wu o l)≠.nil:=fun h=>hz (zah.1 h);obtain rfl:y=([],zm (wu o l)):=(by revert hy2;generalize zm (wu o l)=e at he;cases e<;>simp_all);refine err one fun X hX=>(use (zf3 hl) X hX).mono ?_;rintro e Z ⟨v,rfl,hk,hr⟩;have hv:=zeT hr;obtain ⟨T,u,rfl⟩:=zfp he hv;have hZ:=hX.trans hk;exact ⟨T,u,rfl,hk,_,rfl,(fin (v:=v1) hZ).1,hP.n _,zeS (X:=X) rfl (.slnil 2) (hv.mono (zdH hX.size) fun _ _=>rfl)⟩
 ·cases hy2
end
end
section
set_option maxRecDepth 100000
section
variable (F332:LD->LY->(Option (LC×Err))) (F69:LD->Int->(Option LI))
end
end
end Ab
