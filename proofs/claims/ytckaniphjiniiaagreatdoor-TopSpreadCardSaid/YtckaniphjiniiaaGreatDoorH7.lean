import Derived.Test.YtckaniphjiniiaaGreatDoorH3
set_option linter.all false
noncomputable section
namespace Ab
open Go
section
open Go Go.RowKit
open Classical in
def zkF (J:JP) (s:Solver) (p:List Int):Option Cell:=if s=J.s∧J.fit p then some (J.U (J.num p)) else none
def zms (J:JP):CSpec:=⟨351,[.bx .solver,.sl .int],.st .cell,fun x=>zkF J x.1 x.2,false,[]⟩
def r351w {S:Seat} {J:JP} (h:∀n,Rt S (k351 J n)):Rt S (zms J):=fun (x:Solver×List Int) (y:Cell) hy=>by
 have cm:zkF J x.1 x.2=some y:=hy;refine h (J.rk x.2+1) x y ?_;show zmR J (J.rk x.2+1) x.1 x.2=some y;unfold zkF at cm;unfold zmR;split at cm
 ·rename_i c;rw[if_pos ⟨c.1,c.2,Nat.lt_succ_self _⟩];exact cm
 ·cases cm
def zlV {o:List Dim} {l:List Entry} (ok:RightC o l) {kb cb kc cc:Nat} {p:List Int} (hf:Fit o p):zkF (JS o l kb cb kc cc) (JS o l kb cb kc cc).s p=some (sol o l p):=by unfold zkF;rw[if_pos ⟨rfl,hf⟩];show some (sol o l (jw o (zci o p)).1)=_;rw[yd ok.pos hf]
def ow {S:Seat} (hP:Plain S) {g id:Nat} (hg:ql g S.fns=some id) {args:List AV} {r:AV} (h:(zb S).ret id args r []) (cq:∀x∈args,zG x=false) {A:Nat->Prop} {w X:World} {vs:Array Value} (hl:vs.size=args.length)
  (hA:(∀b,A b->b<w.heap.size)∧Inv S w) (hk:KeepO (fun _=>False) w X) (ha:∀(i:Nat) (x:AV),args[i]? = some x->VR0 S A w x (vs.getD i undef)) :
  Calls S.P g vs X fun e Y=>∃v,e=.returned v∧KeepO (fun _=>False) X Y∧zdm S A X Y r v:=by
 refine (((h g hg).old0 hP cq) A X vs hl ⟨fun b hb=>AE (hA.1 b hb) hk.size,hA.2.keep (fun _ _ h=>h) hk⟩ fun i x hx=>(ha i x hx).mono (fun _ h=>h) fun b hb=>hk.block b (hA.1 b hb) fun h=>h)
def zkc {S:Seat} {A:Nat->Prop} {w:World} {v:Value} (h:VR0 S A w (Err.av .nil) v):v=.nilIface:=VR.v_inv (σ:=fun _=>none) (.of0 h)
def err_some {S:Seat} {A:Nat->Prop} {w:World} {e:Err} {v:Value} (he:e≠.nil) (h:VR0 S A w e.av v):∃T u,v=.iface T u:=by
 cases e with
 | nil=>exact absurd rfl he
 | no n=>obtain⟨T,u,rfl,_⟩:=VR.ifc_inv (σ:=fun _=>none) (.of0 (show VR0 S A w (.ifc 1 (aI n)) v from h));exact⟨T,u,rfl⟩
 | oth t=>obtain⟨T,u,rfl,_⟩:=VR.ifc_inv (σ:=fun _=>none) (.of0 (show VR0 S A w (.ifc t .bot) v from h));exact⟨T,u,rfl⟩
def zgF {S:Seat} {A:Nat->Prop} {X Y:World} {e:Err} {v:Value} (h:zdm S A X Y e.av v):VR0 S (qy A (fun _=>none) X Y) Y e.av v:=by
 obtain⟨β,h1,_,hp⟩:=h;have:zap S (qy A β X Y) Y (β 0) e.av v:=by cases e<;>exact hp
 have:VR0 S (qy A β X Y) Y e.av v:=by cases e<;>exact this.2
 exact this.mono (fun b hb=>⟨hb.1,hb.2.1,by simp⟩) fun _ _=>rfl
open Classical in
def P332 (o:List Dim) (l:List Entry):Option (List Cell×Err) :=
 if Lst Entry.gd l then (match P349 o l with
  | some .nil=>some ((List.range (sizeN o)).map fun k=>sol o l (jw o k).1,.nil)
  | some e=>some ([],e)
  | none=>none) else none
def k332:CSpec:=⟨332,[.st .outl,.sl .entry],.tp [.sl .cell,.err],fun x=>P332 x.1 x.2,false,[]⟩
abbrev K0' (W X:World):Prop:=KeepO (fun _=>False) W X
def AllAt (S:Seat):Prop:=∀g,ql g S.fns=some 332->∃dL cK bf fn rest,ql dL S.fns=some 349∧S.P.funcs[cK]? = some bf∧zbw S 350 bf=some tf350.er∧bf.results=#[.tmp 4,.tmp 5]∧(∀J,jF (zH S J) fn.ntmps rest=some zkP.body.er) ∧
 zd (zmG S.P) fn.results.toList=some zkP.res∧fn.ntmps=41 ∧
 (∀ {u0 l:Value} {W:World} {R:Ending->World->Prop} {N:World->World->Value->Prop},u0.oneCell'=true ->
  (∀X,K0' W X->Calls S.P dL #[.agg #[u0],l] X fun e Y=>e=.returned .nilIface∧K0' X Y) ->
  (∀X,K0' W X->W.heap.size<X.heap.size->Calls S.P cK #[.agg #[u0],l] X fun e Y=>∃pv,e=.returned (.tuple #[pv,.nilIface])∧K0' X Y∧N X Y pv) ->
  (∀X Y pv tm,K0' W X->W.heap.size<X.heap.size->K0' X Y->N X Y pv->X.cell? ⟨W.heap.size,0,none⟩=some u0->tm.size=41->tm.getD 2 undef=.pointer (some ⟨W.heap.size,0,none⟩)->tm.getD 1 undef=l->tm.getD 7 undef=pv ->
   rest.wp S.P (bodyPost S.P fn R) { tmps:=tm,defers:=[] } Y)->Calls S.P g #[.agg #[u0],l] W R) ∧
 (∀ {u0 l:Value} {W:World} {R:Ending->World->Prop},u0.oneCell'=true ->
  (∀X,K0' W X->Calls S.P dL #[.agg #[u0],l] X fun e Y=>∃T v,e=.returned (.iface T v)∧K0' X Y∧R (.returned (.tuple #[.slice none 0 0,.iface T v])) Y)->Calls S.P g #[.agg #[u0],l] W R)
def ret_two {S:Seat} {A:Nat->Prop} {w X Z:World} {x:AV} {e:Err} {a b:Value} (hx:zG x=false) (ha:VR0 S (qy A (fun _=>none) w Z) Z x a) (he:VR0 S (qy A (fun _=>none) w Z) Z e.av b):zdm S A w Z (.tup [x,e.av]) (.tuple #[a,b]):=by
 refine⟨fun _=>none,by simp,by simp,#[a,b],rfl,rfl,fun i y hy => ?_⟩
 match i,hy with
 | 0,hy=>cases hy;exact qY ha
 | 1,hy=>cases hy;exact qY he
 | i+2,hy=>simp at hy
def after_ext {A:Nat->Prop} {w X Z:World} (h1:w.heap.size<=X.heap.size):∀b,qy A (fun _=>none) X Z b->qy A (fun _=>none) w Z b:=fun b ⟨h,h2,h3⟩=>⟨h.imp id (AD h1),h2,h3⟩
end
section
def zhl {o:List Dim} {l:List Entry} (hl:Lst Entry.gd l):jj o l=0↔RightC o l:=by
 unfold jj;by_cases h:(allE o).2.2=0
 ·rw[if_pos h];exact⟨fun h2=>⟨zfb.1 h,zaG.1 h2,hl⟩,fun h2=>zaG.2 h2.ents⟩
 ·rw[if_neg h];exact⟨fun h2=>absurd h2 h,fun h2=>absurd (zfb.2 h2.cube) h⟩
def sJ {e:Int}:zn e=.nil↔e=0:=by unfold zn;split<;>simp_all
def zgu {α:Type} {L:List α} {i:Nat} {a:α} (h:L[i]? = some a):L.take i++[a]=L.take (i+1):=by obtain⟨hi,rfl⟩:=Ac.1 h;rw[Cd hi]
section
variable {o:List Dim} {l:List Entry} (ok:RightC o l)
include ok
def new_inner {γ:Type} {d:Dim} (hd:d∈o):lpO (zfj zmQ d) (([]:List (Option (List Node))),(0:Int))=some (.inl ((List.range d.members.length).map (fmM d),(d.members.length:Int))):=by
 have hlen:=ok.most d hd;have nD:=ok.cube.rules d hd;generalize hL:(List.range d.members.length).map (fmM d)=L;have rJ:L.length=d.members.length:=by rw[←hL];simp
 have hs:=zP (B:=zfj zmQ d) (fun j=>(L.take j,(j:Int))) d.members.length (fun j hj=>by
  have hm:=Aa hj;have e4:wi ((j:Int)+1)=((j+1:Nat):Int):=by rw[zR (by omega) (by omega)];omega
  have pG:L[j]? = some (fmM d j):=by rw[←hL,As,BU hj];rfl
  have hp:zmQ d (j:Int)=some (fmM d j,.nil):=by
   rw[P355_eq hm];unfold fmM;rw[hm];simp only;split
   ·rfl
   ·rename_i eQ;rw[zfQ nD hm eQ];rfl
  simp only[zfj];rw[zJ,if_pos (by omega)];have bd:(L.take j).length+[fmM d j].length<=zC:=by simp only[A3,Bj];unfold zC;omega
  simp only[hp,zj,yC,AW,za,zm bd,ji,e4,zgu pG])
 rw[show (([]:List (Option (List Node))),(0:Int))=(L.take 0,((0:Nat):Int)) by rfl,hs,zF (y:=(L.take d.members.length,(d.members.length:Int))) (by simp only[zfj];rw[zJ,if_neg (by omega)];rfl)];rw[←rJ,BA]
def S350_eq:S350 zmQ P40 o l=some (o,l,fmL o,List.replicate (sizeN o) false,List.replicate (sizeN o) ⟨0,0⟩):=by
 have hlen:=ok.cube.out.len;obtain⟨h1,h2⟩:=ok.cube.out.sizeN;simp only[S350,P40_eq o (by omega),h1,zj];have hr:(0:Int)<=((sizeN o:Nat):Int)∧((sizeN o:Nat):Int)<=((sizeN o:Nat):Int)∧((sizeN o:Nat):Int)<=zC:=⟨by omega,C4 _,by unfold zC;omega⟩;simp only[zm hr,Ap];generalize hK:List.replicate (sizeN o) false=K;generalize hC:List.replicate (sizeN o) (Cell.mk (0:Int) (0:Int))=C;have lj:(fmL o).length=o.length:=by unfold fmL;simp
 have hs:=zP (B:=zhN zmQ o) (fun i=>((i:Int),(o,l,(fmL o).take i,K,C))) o.length (fun i hi=>by
  have hd:=Aa hi;have e4:wi ((i:Int)+1)=((i+1:Nat):Int):=by rw[zR (by omega) (by omega)];omega
  simp only[zhN];rw[zJ,if_pos (by omega)];simp only[zg,hd,zj];rw[zW,new_inner (γ:=Unit) ok (Ay hi)];have bd:((fmL o).take i).length+[(List.range (o[i]).members.length).map (fmM o[i])].length<=zC:=by simp only[A3,Bj];unfold zC;omega
  simp only[zY,zm bd,ji,e4,zgu (fmL_get hd)])
 rw[zW,show ((0:Int),(o,l,([]:List (List (Option (List Node)))),K,C))=(((0:Nat):Int),(o,l,(fmL o).take 0,K,C)) from rfl,hs,zF (y:=((o.length:Int),(o,l,(fmL o).take o.length,K,C))) (by simp only[zhN];rw[zJ,if_neg (by omega)];rfl)];simp only[zY];rw[←lj,BA]
def S1332_eq {F:Solver->List Int->Option Cell} {s:Solver} (hF:∀p,Fit o p->F s p=some (sol o l p)):S1332 F P40 P69 o s=some ((List.range (sizeN o)).map fun k=>sol o l (jw o k).1,.nil):=by
 have hlen:=ok.cube.out.len;obtain⟨h1,h2⟩:=ok.cube.out.sizeN;simp only[S1332,P40_eq o (by omega),h1,zj];generalize hL:(List.range (sizeN o)).map (fun k=>sol o l (jw o k).1)=L;have rJ:L.length=sizeN o:=by rw[←hL];simp
 have hs:=zP (B:=zdX F P69 o s ((sizeN o:Nat):Int)) (fun i=>(L.take i,(i:Int))) (sizeN o) (fun i hi=>by
  have e4:wi ((i:Int)+1)=((i+1:Nat):Int):=by rw[zR (by omega) (by omega)];omega
  have pG:L[i]? = some (sol o l (jw o i).1):=by rw[←hL,As,BU hi];rfl
  simp only[zdX];rw[zJ,if_pos (by omega)];have bd:(L.take i).length+[sol o l (jw o i).1].length<=zC:=by simp only[A3,Bj];unfold zC;omega
  have hp:=P69_eq o i (by omega) (by omega) (fun d hd=>⟨ok.pos d hd,by have:=ok.most d hd;omega⟩);simp only[hp,zj,hF _ (zhh ok.cube.out i),zm bd,ji,e4,zgu pG])
 rw[zW,show (([]:List Cell),(0:Int))=(L.take 0,((0:Nat):Int)) from rfl,hs,zF (y:=(L.take (sizeN o),((sizeN o:Nat):Int))) (by simp only[zdX];rw[zJ,if_neg (by omega)];rfl)];simp only[zY];rw[←rJ,BA]
end
end
section
open Go Go.RowKit
structure JKnows (S:Seat) (J:JP):Prop where
 at_:Rt (zH S J) (zms J)
 size:Rt (zH S J) k40
 place:Rt (zH S J) k69
def arg_o {S:Seat} {A:Nat->Prop} {w:World} {o:List Dim} {v:Value} (h:VR0 S A w (.agg [.sl 3 (o.map Dim.cs)]) v):∃u,v=.agg #[u]∧VR0 S A w (.sl 3 (o.map Dim.cs)) u∧u.oneCell'=true:=by
 obtain⟨us,rfl,hl,hu⟩:=VR.agg_inv (σ:=fun _=>none) (.of0 h);have h0:=hu 0 _ rfl;obtain⟨u,rfl⟩:∃u,us=#[u]:=⟨us[0]'(by simp at hl;omega),by
  apply Array.ext
  ·simpa using hl.symm
  ·intro i h1 h2;obtain rfl:i=0:=by simp at h2;omega
   rfl⟩
 exact⟨u,rfl,h0.to0 rfl,VR.cell1 h0 rfl⟩
section
variable {S:Seat} (hS:zZ S) (hP:Plain S) (ct:Rt S k349) (dK:Rt S k355) (dQ:Rt S k40)
include hS hP ct dK dQ
omit ct in
def ziy {o:List Dim} {l:List Entry} (ok:RightC o l) {cK:Nat} {bf:Func} (hg:S.P.funcs[cK]? = some bf) (hc:zbw S 350 bf=some tf350.er) (aD:bf.results=#[.tmp 4,.tmp 5]) {A AX:Nat->Prop} {w X:World} {u0 v1:Value} (hA:(∀b,A b->b<w.heap.size)∧Inv S w)
  (a0:VR0 S A w (.sl 3 (o.map Dim.cs)) u0) (a1:VR0 S A w (.sl 2 (l.map Entry.cs)) v1) (hX:KeepO (fun _=>False) w X) (uq:∀b,A b->AX b) (aj:∀b,AX b->b<X.heap.size) :
  Calls S.P cK #[.agg #[u0],v1] X fun e Y=>∃pv,e=.returned (.tuple #[pv,.nilIface])∧KeepO (fun _=>False) X Y∧∃kb cb kc cc A',kb≠cb∧Inv S X∧NewIs S AX X Y pv (JS o l kb cb kc cc).s A' (List.replicate (sizeN o) false) (List.replicate (sizeN o) ⟨0,0⟩):=by
 have hw:∀b,A b->X.heap[b]? = w.heap[b]?:=fun b hb=>hX.block b (hA.1 b hb) fun e=>e;have hi:Inv S X:=hA.2.keep (fun _ _ h=>h) hX;have hn:0<sizeN o:=(by have:=zhh ok.cube.out 0;exact Cz (BM _) (zdc this));refine (new_sound hS dK dQ hg hc aD (S350_eq ok) (by simpa using hn) (by simp) (A:=AX) (w:=X) (vs:=#[.agg #[u0],v1]) rfl ⟨aj,hi⟩ (.none hP.g hP.n _ _ _) fun i z hz => ?_).mono ?_
 ·match i,hz with
  | 0,hz =>
   cases hz;exact .agg rfl fun j y hy=>by
    match j,hy with
    | 0,hy=>cases hy;exact a0.mono uq hw
    | j+1,hy=>have hy:([AV.sl 3 (o.map Dim.cs)]:List AV)[j+1]? = some y:=hy;simp at hy
  | 1,hz=>cases hz;exact a1.mono uq hw
  | i+2,hz=>simp[encAL] at hz
 ·rintro e Y ⟨v,s,A',he,hk,_,rfl,rfl,hf,nA,au⟩;have bX:KeepO (fun _=>False) X Y:=⟨hk.os,hk.tape,hk.output,hk.size,fun b hb _=>hk.block b hb (hP.g b)⟩;refine⟨v,he,bX,s.kb,s.cb,s.kc,s.cc,A',au.ne,hi, ?_⟩;have:(JS s.o s.l s.kb s.cb s.kc s.cc).s=s:=(by obtain⟨so,sl,sf,kb,cb,kc,cc,n⟩:=s;have e8:n=(List.replicate (sizeN so) false).length:=nA;rw[BV] at e8;subst e8;simp only at hf;subst hf;rfl);rw[this];exact au
def r332 (hJ:∀J,JOk J->JKnows S J) (ba:AllAt S):Rt S k332:=fun (x:List Dim×List Entry) (y:List Cell×Err) hy=>by
 obtain⟨o,l⟩:=x;have cm:P332 o l=some y:=hy;clear hy;unfold P332 at cm;split at cm
 ·rename_i hl;rw[zbD hl] at cm;intro g hg;obtain⟨dL,cK,bf,fn,rest,fS,fR,fV,cS,cF,aD,ez,walk,err⟩:=ba g hg;have ar:∀ {z:Err},P349 o l=some z->(zb S).ret 349 [.agg [.sl 3 (o.map Dim.cs)],.sl 2 (l.map Entry.cs)] z.av []:=fun {z} hz=>ct (o,l) z hz;show wY S g [.agg [.sl 3 (o.map Dim.cs)],.sl 2 (l.map Entry.cs)] (.tup [.sl 2 (y.1.map Cell.cs),y.2.av]) [];refine yB (fun A w vs eX hA hJR ha => ?_) (by simp[zG]);obtain⟨v0,v1,rfl⟩:=zgr eX;obtain⟨u0,rfl,a0,one⟩:=arg_o (show VR0 S A w (.agg [.sl 3 (o.map Dim.cs)]) v0 from ha 0 _ rfl);have a1:VR0 S A w (.sl 2 (l.map Entry.cs)) v1:=ha 1 _ rfl;have use:=fun {z:Err} (hz:P349 o l=some z) (X:World) (hX:KeepO (fun _=>False) w X)=>ow hP fS (ar hz) (by simp[zG]) (A:=A) (w:=w) (X:=X) (vs:=#[.agg #[u0],v1]) rfl hA hX ha;have fin:∀ {Z:World} {v:Value},KeepO (fun _=>False) w Z->KeepO S.jg w Z∧S.jn Z:=fun h=>⟨⟨h.os,h.tape,h.output,h.size,fun b hb _=>h.block b hb fun e=>e⟩,hP.n _⟩;by_cases hz:jj o l=0
  ·have ok:=(zhl hl).1 hz;have hn:P349 o l=some .nil:=by rw[zbD hl,hz];rfl
   rw[hz,show zn 0=Err.nil from rfl] at cm;obtain rfl:=Option.some.inj cm;refine walk (N:=fun X Y pv=>∃kb cb kc cc A',kb≠cb∧Inv S X∧NewIs S (fun b=>A b∨b=w.heap.size) X Y pv (JS o l kb cb kc cc).s A' (List.replicate (sizeN o) false) (List.replicate (sizeN o) ⟨0,0⟩)) one (fun X hX=>(use hn X hX).mono ?_) (fun X hX aj => ?_) ?_
   ·rintro e Y ⟨v,rfl,hk,hr⟩;exact⟨by rw[zkc (zgF hr)],hk⟩
   ·exact ziy hS hP dK dQ ok fR fV cS hA a0 a1 hX (fun b hb=>.inl hb) fun b hb=>by
     rcases hb with hb|rfl
     ·exact AE (hA.1 b hb) hX.size
     ·exact aj
   ·rintro X Y pv tm hX aj fj ⟨kb,cb,kc,cc,A',ah,hi,au⟩ eE aF t2 t1 t7;have jk:=hJ (JS o l kb cb kc cc) (jok ok ah);obtain⟨jr,jA,jI⟩:=au.jr (J:=JS o l kb cb kc cc) rfl (by simp[JS]) hi fj
    have ax:zkP.runFrom [zms (JS o l kb cb kc cc),k40,k69] { fr:=[(2,enc (.bx .outl) o),(7,enc (.bx .solver) (JS o l kb cb kc cc).s)],hp:=[],ctr:=1 } (.tp [.sl .cell,.err])=some ((List.range (sizeN o)).map fun k=>sol o l (jw o k).1,.nil) :=
     (s1332 (zkF (JS o l kb cb kc cc)) P40 P69 o (JS o l kb cb kc cc).s).trans (S1332_eq ok fun p hf=>zlV ok hf)
    refine wp_mono (zmf (S:=zH S (JS o l kb cb kc cc)) (C:=[zms (JS o l kb cb kc cc),k40,k69]) hS (.cons jk.at_ (.cons jk.size (.cons jk.place .nil))) (cF _) aD rfl rfl rfl ax (by rw[aF,ez]) ⟨jA,jI⟩ jr fun k => ?_) fun ex a Z h=>h.body fun v hk hj hr=>⟨v,rfl,(fin (v:=v) ?_).1,(fin (Z:=Z) (v:=v) ?_).2,ret_end hr (fun x hx => ?_) ?_⟩
    ·by_cases k2:k=2
     ·subst k2;rw[t2];show VR0 _ A' Y (.ep [.sl 3 (o.map Dim.cs)] 0) _;refine .ep (b:=w.heap.size) (o:=0) (u:=fun _=>u0) (au.sub _ (.inr rfl)) (fun j hj => ?_) fun j x hx => ?_
      ·obtain rfl:j=0:=by simp at hj;omega
       exact (World.cell?_of_block (a:=⟨w.heap.size,0,none⟩) (fj.block _ aj fun e=>e)).trans eE
      ·match j,hx with
       | 0,hx =>cases hx;exact (a0.mono (fun b hb=>au.sub b (.inl hb)) fun b hb=>(fj.block b (AE (hA.1 b hb) hX.size) fun e=>e).trans (hX.block b (hA.1 b hb) fun e=>e)).toJ
       | j+1,hx=>simp at hx
     ·by_cases k7:k=7
      ·subst k7;rw[t7];exact au.rel.toJ
      ·have:look k TV.bot [(2,enc (.bx .outl) o),(7,enc (.bx .solver) (JS o l kb cb kc cc).s)]=.bot:=(by simp only[look];rw[show Nat.beq 2 k=false from by rw[←BZ];exact fun e=>k2 (Bt e).symm,show Nat.beq 7 k=false from by rw[←BZ];exact fun e=>k7 (Bt e).symm]);show VR0 _ A' Y (av [] (lv [] (look k TV.bot [(2,enc (.bx .outl) o),(7,enc (.bx .solver) (JS o l kb cb kc cc).s)]))) _;rw[this];exact .bot _
    ·exact zli (J:=JS o l kb cb kc cc) (hX.trans fj) hk (AD hX.size au.bk.1) (AD hX.size au.bc.1)
    ·exact zli (J:=JS o l kb cb kc cc) (hX.trans fj) hk (AD hX.size au.bk.1) (AD hX.size au.bc.1)
    ·rcases (au.lt x hx).2 with (h|rfl)|h
     ·exact .inl h
     ·exact .inr (Az _)
     ·exact .inr (AD hX.size h)
    ·exact AD hX.size fj.size
  ·have he:zn (jj o l)≠.nil:=fun h=>hz (sJ.1 h);obtain rfl:y=([],zn (jj o l)):=(by revert cm;generalize zn (jj o l)=e at he;cases e<;>simp_all);refine err one fun X hX=>(use (zbD hl) X hX).mono ?_;rintro e Z ⟨v,rfl,hk,hr⟩;have hv:=zgF hr;obtain⟨T,u,rfl⟩:=err_some he hv;have hZ:=hX.trans hk;exact⟨T,u,rfl,hk,_,rfl,(fin (v:=v1) hZ).1,hP.n _,ret_two (X:=X) rfl (.slnil 2) (hv.mono (after_ext hX.size) fun _ _=>rfl)⟩
 ·cases cm
end
end
section
set_option maxRecDepth 100000
section
variable (F332:LD->LY->(Option (LC×Err))) (F69:LD->Int->(Option LI))
end
end
end Ab
