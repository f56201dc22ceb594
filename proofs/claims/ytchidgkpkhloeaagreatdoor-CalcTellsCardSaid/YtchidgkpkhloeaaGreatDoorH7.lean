import Derived.Test.YtchidgkpkhloeaaGreatDoorH3
set_option linter.all false
noncomputable section
namespace Ab
open Go
section
open Go Go.RowKit
open Classical in
def zlb (J:JP) (s:Solver) (p:List Int):Option Cell:=if s=J.s∧J.fit p then some (J.U (J.num p)) else none
def k351w (J:JP):CSpec:=⟨351,[.bx .solver,.sl .int],.st .cell,fun x=>zlb J x.1 x.2,false,[]⟩
def r351w {S:Seat} {J:JP} (h:∀ n,Rt S (k351 J n)):Rt S (k351w J):=fun (x:Solver×List Int) (y:Cell) hy=>by
 have dh:zlb J x.1 x.2=some y:=hy;refine h (J.rk x.2+1) x y ?_;show zli J (J.rk x.2+1) x.1 x.2=some y;unfold zlb at dh;unfold zli;split at dh
 ·rename_i c;rw[if_pos ⟨c.1,c.2,Nat.lt_succ_self _⟩];exact dh
 ·cases dh
def P351w_JS {o:List Dim} {l:List Entry} (ok:RightC o l) {kb cb kc cc:Nat} {p:List Int} (hf:Fit o p):zlb (JS o l kb cb kc cc) (JS o l kb cb kc cc).s p=some (sol o l p):=by unfold zlb;rw[if_pos ⟨rfl,hf⟩];show some (sol o l (qJ o (wn o p)).1)=_;rw[wy ok.pos hf]
def use_plain {S:Seat} (hP:Plain S) {g id:Nat} (hg:qr g S.fns=some id) {args:List AV} {r:AV} (h:(zg S).ret id args r []) (bR:∀ x∈args,zD x=false) {A:Nat->Prop} {w X:World} {vs:Array Value} (hl:vs.size=args.length)
  (hA:(∀ b,A b->b < w.heap.size)∧Inv S w) (hk:KeepO (fun _=>False) w X) (ha:∀ (i:Nat) (x:AV),args[i]? = some x->VR0 S A w x (vs.getD i undef)) :
  Calls S.P g vs X fun e Y=>∃ v,e=.returned v∧KeepO (fun _=>False) X Y∧zc1 S A X Y r v:=by
 refine (((h g hg).old0 hP bR) A X vs hl ⟨fun b hb=>AG (hA.1 b hb) hk.size,hA.2.keep (fun _ _ h=>h) hk⟩ fun i x hx=>(ha i x hx).mono (fun _ h=>h) fun b hb=>hk.block b (hA.1 b hb) fun h=>h)
def err_nil {S:Seat} {A:Nat->Prop} {w:World} {v:Value} (h:VR0 S A w (Err.av .nil) v):v=.nilIface:=VR.v_inv (σ:=fun _=>none) (.of0 h)
def err_some {S:Seat} {A:Nat->Prop} {w:World} {e:Err} {v:Value} (he:e≠.nil) (h:VR0 S A w e.av v):∃ T u,v=.iface T u:=by
 cases e with
 | nil=>exact absurd rfl he
 | no n=>obtain ⟨T,u,rfl,_⟩:=VR.ifc_inv (σ:=fun _=>none) (.of0 (show VR0 S A w (.ifc 1 (aI n)) v from h));exact ⟨T,u,rfl⟩
 | oth t=>obtain ⟨T,u,rfl,_⟩:=VR.ifc_inv (σ:=fun _=>none) (.of0 (show VR0 S A w (.ifc t .bot) v from h));exact ⟨T,u,rfl⟩
def ret_err {S:Seat} {A:Nat->Prop} {X Y:World} {e:Err} {v:Value} (h:zc1 S A X Y e.av v):VR0 S (qE A (fun _=>none) X Y) Y e.av v:=by
 obtain ⟨β,h1,_,hp⟩:=h;have:wP S (qE A β X Y) Y (β 0) e.av v:=by cases e<;>exact hp
 have:VR0 S (qE A β X Y) Y e.av v:=by cases e<;>exact this.2
 exact this.mono (fun b hb=>⟨hb.1,hb.2.1,by simp⟩) fun _ _=>rfl
open Classical in
def P332 (o:List Dim) (l:List Entry):Option (List Cell×Err) :=
 if Lst Entry.gd l then (match P349 o l with
  | some .nil=>some ((List.range (sizeN o)).map fun k=>sol o l (qJ o k).1,.nil)
  | some e=>some ([],e)
  | none=>none) else none
def k332:CSpec:=⟨332,[.st .outl,.sl .entry],.tp [.sl .cell,.err],fun x=>P332 x.1 x.2,false,[]⟩
abbrev K0' (W X:World):Prop:=KeepO (fun _=>False) W X
def AllAt (S:Seat):Prop:=∀ g,qr g S.fns=some 332->∃ gy eB bQ fn rest,qr gy S.fns=some 349∧S.P.funcs[eB]? = some bQ∧zbL S 350 bQ=some tf350.er∧bQ.results=#[.tmp 4,.tmp 5]∧(∀ J,jR (zG S J) fn.ntmps rest=some zjk.body.er) ∧
 zk (cRes S.P) fn.results.toList=some zjk.res∧fn.ntmps=41 ∧
 (∀ {u0 l:Value} {W:World} {R:Ending->World->Prop} {N:World->World->Value->Prop},u0.oneCell'=true ->
  (∀ X,K0' W X->Calls S.P gy #[.agg #[u0],l] X fun e Y=>e=.returned .nilIface∧K0' X Y) ->
  (∀ X,K0' W X->W.heap.size < X.heap.size->Calls S.P eB #[.agg #[u0],l] X fun e Y=>∃ pv,e=.returned (.tuple #[pv,.nilIface])∧K0' X Y∧N X Y pv) ->
  (∀ X Y pv tm,K0' W X->W.heap.size < X.heap.size->K0' X Y->N X Y pv->X.cell? ⟨W.heap.size,0,none⟩=some u0->tm.size=41->tm.getD 2 undef=.pointer (some ⟨W.heap.size,0,none⟩)->tm.getD 1 undef=l->tm.getD 7 undef=pv ->
   rest.wp S.P (bodyPost S.P fn R) { tmps:=tm,defers:=[] } Y)->Calls S.P g #[.agg #[u0],l] W R) ∧
 (∀ {u0 l:Value} {W:World} {R:Ending->World->Prop},u0.oneCell'=true ->
  (∀ X,K0' W X->Calls S.P gy #[.agg #[u0],l] X fun e Y=>∃ T v,e=.returned (.iface T v)∧K0' X Y∧R (.returned (.tuple #[.slice none 0 0,.iface T v])) Y)->Calls S.P g #[.agg #[u0],l] W R)
def ret_two {S:Seat} {A:Nat->Prop} {w X Z:World} {x:AV} {e:Err} {a b:Value} (hx:zD x=false) (ha:VR0 S (qE A (fun _=>none) w Z) Z x a) (he:VR0 S (qE A (fun _=>none) w Z) Z e.av b):zc1 S A w Z (.tup [x,e.av]) (.tuple #[a,b]):=by
 refine ⟨fun _=>none,by simp,by simp,#[a,b],rfl,rfl,fun i y hy => ?_⟩
 match i,hy with
 | 0,hy=>cases hy;exact jw ha
 | 1,hy=>cases hy;exact jw he
 | i+2,hy=>simp at hy
def after_ext {A:Nat->Prop} {w X Z:World} (h1:w.heap.size<=X.heap.size):∀ b,qE A (fun _=>none) X Z b->qE A (fun _=>none) w Z b:=fun b ⟨h,h2,h3⟩=>⟨h.imp id (Aw h1),h2,h3⟩
end
section
def wI (o:List Dim) (l:List Entry):Int:=if (zaZ o).2.2=0 then ziA o l else (zaZ o).2.2
def zgE {o:List Dim} {l:List Entry} (hl:Lst Entry.gd l):P349 o l=some (zB (wI o l)):=by
 simp only[P349,S349,P352_eq,zi,zW,P27_eq o l hl];unfold wI;by_cases h:(zaZ o).2.2=0
 ·rw[if_pos h,decide_eq_true h];rfl
 ·rw[if_neg h,decide_eq_false h];rfl
def ziH {o:List Dim} {l:List Entry} (hl:Lst Entry.gd l):wI o l=0↔RightC o l:=by
 unfold wI;by_cases h:(zaZ o).2.2=0
 ·rw[if_pos h];exact ⟨fun h2=>⟨jK.1 h,ents_ok.1 h2,hl⟩,fun h2=>ents_ok.2 h2.ents⟩
 ·rw[if_neg h];exact ⟨fun h2=>absurd h2 h,fun h2=>absurd (jK.2 h2.cube) h⟩
def ze6 {e:Int}:zB e=.nil↔e=0:=by unfold zB;split<;>simp_all
def jV {α:Type} {L:List α} {i:Nat} {a:α} (h:L[i]? = some a):L.take i++[a]=L.take (i+1):=by obtain ⟨hi,rfl⟩:=Ac.1 h;rw[Cn hi]
section
variable {o:List Dim} {l:List Entry} (ok:RightC o l)
include ok
def new_inner {γ:Type} {d:Dim} (hd:d∈o):lpO (zef zlh d) (([]:List (Option (List Node))),(0:Int))=some (.inl ((List.range d.members.length).map (fmM d),(d.members.length:Int))):=by
 have hlen:=ok.most d hd;have eX:=ok.cube.rules d hd;generalize hL:(List.range d.members.length).map (fmM d)=L;have cY:L.length=d.members.length:=by rw[← hL];simp
 have hs:=zH (B:=zef zlh d) (fun j=>(L.take j,(j:Int))) d.members.length (fun j hj=>by
  have hm:=Aa hj;have e4:wi ((j:Int)+1)=((j+1:Nat):Int):=by rw[qp (by omega) (by omega)];omega
  have cF:L[j]? = some (fmM d j):=by rw[← hL,Ah,A4 hj];rfl
  have hp:zlh d (j:Int)=some (fmM d j,.nil):=by
   rw[P355_eq hm];unfold fmM;rw[hm];simp only;split
   ·rfl
   ·rename_i cX;rw[zbY eX hm cX];rfl
  simp only[zef];rw[zh,if_pos (by omega)];have aH:(L.take j).length+[fmM d j].length<=zu:=by simp only[AP,AD];unfold zu;omega
  simp only[hp,zi,ym,Bm,zd,zp aH,qQ,e4,jV cF])
 rw[show (([]:List (Option (List Node))),(0:Int))=(L.take 0,((0:Nat):Int)) by rfl,hs,zI (y:=(L.take d.members.length,(d.members.length:Int))) (by simp only[zef];rw[zh,if_neg (by omega)];rfl)];rw[← cY,AZ]
def S350_eq:S350 zlh P40 o l=some (o,l,fmL o,List.replicate (sizeN o) false,List.replicate (sizeN o) ⟨0,0⟩):=by
 have hlen:=ok.cube.out.len;obtain ⟨h1,h2⟩:=ok.cube.out.sizeN;simp only[S350,zki o (by omega),h1,zi];have hr:(0:Int)<=((sizeN o:Nat):Int)∧((sizeN o:Nat):Int)<=((sizeN o:Nat):Int)∧((sizeN o:Nat):Int)<=zu:=⟨by omega,Ca _,by unfold zu;omega⟩;simp only[zp hr,Aj];generalize hK:List.replicate (sizeN o) false=K;generalize hC:List.replicate (sizeN o) (Cell.mk (0:Int) (0:Int))=C;have kI:(fmL o).length=o.length:=by unfold fmL;simp
 have hs:=zH (B:=zgd zlh o) (fun i=>((i:Int),(o,l,(fmL o).take i,K,C))) o.length (fun i hi=>by
  have hd:=Aa hi;have e4:wi ((i:Int)+1)=((i+1:Nat):Int):=by rw[qp (by omega) (by omega)];omega
  simp only[zgd];rw[zh,if_pos (by omega)];simp only[za,hd,zi];rw[zV,new_inner (γ:=Unit) ok (Ay hi)];have aH:((fmL o).take i).length+[(List.range (o[i]).members.length).map (fmM o[i])].length<=zu:=by simp only[AP,AD];unfold zu;omega
  simp only[zX,zp aH,qQ,e4,jV (fmL_get hd)])
 rw[zV,show ((0:Int),(o,l,([]:List (List (Option (List Node)))),K,C))=(((0:Nat):Int),(o,l,(fmL o).take 0,K,C)) from rfl,hs,zI (y:=((o.length:Int),(o,l,(fmL o).take o.length,K,C))) (by simp only[zgd];rw[zh,if_neg (by omega)];rfl)];simp only[zX];rw[← kI,AZ]
def S1332_eq {F:Solver->List Int->Option Cell} {s:Solver} (hF:∀ p,Fit o p->F s p=some (sol o l p)):S1332 F P40 P69 o s=some ((List.range (sizeN o)).map fun k=>sol o l (qJ o k).1,.nil):=by
 have hlen:=ok.cube.out.len;obtain ⟨h1,h2⟩:=ok.cube.out.sizeN;simp only[S1332,zki o (by omega),h1,zi];generalize hL:(List.range (sizeN o)).map (fun k=>sol o l (qJ o k).1)=L;have cY:L.length=sizeN o:=by rw[← hL];simp
 have hs:=zH (B:=zdc F P69 o s ((sizeN o:Nat):Int)) (fun i=>(L.take i,(i:Int))) (sizeN o) (fun i hi=>by
  have e4:wi ((i:Int)+1)=((i+1:Nat):Int):=by rw[qp (by omega) (by omega)];omega
  have cF:L[i]? = some (sol o l (qJ o i).1):=by rw[← hL,Ah,A4 hi];rfl
  simp only[zdc];rw[zh,if_pos (by omega)];have aH:(L.take i).length+[sol o l (qJ o i).1].length<=zu:=by simp only[AP,AD];unfold zu;omega
  have hp:=zkg o i (by omega) (by omega) (fun d hd=>⟨ok.pos d hd,by have:=ok.most d hd;omega⟩);simp only[hp,zi,hF _ (j9 ok.cube.out i),zp aH,qQ,e4,jV cF])
 rw[zV,show (([]:List Cell),(0:Int))=(L.take 0,((0:Nat):Int)) from rfl,hs,zI (y:=(L.take (sizeN o),((sizeN o:Nat):Int))) (by simp only[zdc];rw[zh,if_neg (by omega)];rfl)];simp only[zX];rw[← cY,AZ]
end
end
section
open Go Go.RowKit
structure JKnows (S:Seat) (J:JP):Prop where
 at_:Rt (zG S J) (k351w J)
 size:Rt (zG S J) k40
 place:Rt (zG S J) k69
def arg_o {S:Seat} {A:Nat->Prop} {w:World} {o:List Dim} {v:Value} (h:VR0 S A w (.agg [.sl 3 (o.map Dim.cs)]) v):∃ u,v=.agg #[u]∧VR0 S A w (.sl 3 (o.map Dim.cs)) u∧u.oneCell'=true:=by
 obtain ⟨us,rfl,hl,hu⟩:=VR.agg_inv (σ:=fun _=>none) (.of0 h);have h0:=hu 0 _ rfl;obtain ⟨u,rfl⟩:∃ u,us=#[u]:=⟨us[0]'(by simp at hl;omega),by
  apply Array.ext
  ·simpa using hl.symm
  ·intro i h1 h2;obtain rfl:i=0:=by simp at h2;omega
   rfl⟩
 exact ⟨u,rfl,h0.to0 rfl,VR.cell1 h0 rfl⟩
section
variable {S:Seat} (hS:qh S) (hP:Plain S) (dO:Rt S k349) (fB:Rt S k355) (cC:Rt S k40)
include hS hP dO fB cC
omit dO in
def new_plain {o:List Dim} {l:List Entry} (ok:RightC o l) {eB:Nat} {bQ:Func} (hg:S.P.funcs[eB]? = some bQ) (hc:zbL S 350 bQ=some tf350.er) (aV:bQ.results=#[.tmp 4,.tmp 5]) {A AX:Nat->Prop} {w X:World} {u0 v1:Value} (hA:(∀ b,A b->b < w.heap.size)∧Inv S w)
  (a0:VR0 S A w (.sl 3 (o.map Dim.cs)) u0) (a1:VR0 S A w (.sl 2 (l.map Entry.cs)) v1) (hX:KeepO (fun _=>False) w X) (uk:∀ b,A b->AX b) (ae:∀ b,AX b->b < X.heap.size) :
  Calls S.P eB #[.agg #[u0],v1] X fun e Y=>∃ pv,e=.returned (.tuple #[pv,.nilIface])∧KeepO (fun _=>False) X Y∧∃ kb cb kc cc A',kb≠cb∧Inv S X∧NewIs S AX X Y pv (JS o l kb cb kc cc).s A' (List.replicate (sizeN o) false) (List.replicate (sizeN o) ⟨0,0⟩):=by
 have hw:∀ b,A b->X.heap[b]? = w.heap[b]?:=fun b hb=>hX.block b (hA.1 b hb) fun e=>e;have hi:Inv S X:=hA.2.keep (fun _ _ h=>h) hX;have hn:0 < sizeN o:=(by have:=j9 ok.cube.out 0;exact Cl (BB _) (zbt this));refine (new_sound hS fB cC hg hc aV (S350_eq ok) (by simpa using hn) (by simp) (A:=AX) (w:=X) (vs:=#[.agg #[u0],v1]) rfl ⟨ae,hi⟩ (.none hP.g hP.n _ _ _) fun i z hz => ?_).mono ?_
 ·match i,hz with
  | 0,hz =>
   cases hz;exact .agg rfl fun j y hy=>by
    match j,hy with
    | 0,hy=>cases hy;exact a0.mono uk hw
    | j+1,hy=>have hy:([AV.sl 3 (o.map Dim.cs)]:List AV)[j+1]? = some y:=hy;simp at hy
  | 1,hz=>cases hz;exact a1.mono uk hw
  | i+2,hz=>simp[encAL] at hz
 ·rintro e Y ⟨v,s,A',he,hk,_,rfl,rfl,hf,hsn,aG⟩;have bC:KeepO (fun _=>False) X Y:=⟨hk.os,hk.tape,hk.output,hk.size,fun b hb _=>hk.block b hb (hP.g b)⟩;refine ⟨v,he,bC,s.kb,s.cb,s.kc,s.cc,A',aG.ne,hi, ?_⟩;have:(JS s.o s.l s.kb s.cb s.kc s.cc).s=s:=(by obtain ⟨so,sl,sf,kb,cb,kc,cc,n⟩:=s;have ow:n=(List.replicate (sizeN so) false).length:=hsn;rw[BN] at ow;subst ow;simp only at hf;subst hf;rfl);rw[this];exact aG
def r332 (hJ:∀ J,JOk J->JKnows S J) (aq:AllAt S):Rt S k332:=fun (x:List Dim×List Entry) (y:List Cell×Err) hy=>by
 obtain ⟨o,l⟩:=x;have dh:P332 o l=some y:=hy;clear hy;unfold P332 at dh;split at dh
 ·rename_i hl;rw[zgE hl] at dh;intro g hg;obtain ⟨gy,eB,bQ,fn,rest,nI,nH,nR,gi,fu,aV,fh,walk,err⟩:=aq g hg;have ar:∀ {z:Err},P349 o l=some z->(zg S).ret 349 [.agg [.sl 3 (o.map Dim.cs)],.sl 2 (l.map Entry.cs)] z.av []:=fun {z} hz=>dO (o,l) z hz;show wO S g [.agg [.sl 3 (o.map Dim.cs)],.sl 2 (l.map Entry.cs)] (.tup [.sl 2 (y.1.map Cell.cs),y.2.av]) [];refine wc (fun A w vs hvl hA hJR ha => ?_) (by simp[zD]);obtain ⟨v0,v1,rfl⟩:=zfi hvl;obtain ⟨u0,rfl,a0,one⟩:=arg_o (show VR0 S A w (.agg [.sl 3 (o.map Dim.cs)]) v0 from ha 0 _ rfl);have a1:VR0 S A w (.sl 2 (l.map Entry.cs)) v1:=ha 1 _ rfl;have use:=fun {z:Err} (hz:P349 o l=some z) (X:World) (hX:KeepO (fun _=>False) w X)=>use_plain hP nI (ar hz) (by simp[zD]) (A:=A) (w:=w) (X:=X) (vs:=#[.agg #[u0],v1]) rfl hA hX ha;have fin:∀ {Z:World} {v:Value},KeepO (fun _=>False) w Z->KeepO S.jg w Z∧S.jn Z:=fun h=>⟨⟨h.os,h.tape,h.output,h.size,fun b hb _=>h.block b hb fun e=>e⟩,hP.n _⟩;by_cases hz:wI o l=0
  ·have ok:=(ziH hl).1 hz;have hn:P349 o l=some .nil:=by rw[zgE hl,hz];rfl
   rw[hz,show zB 0=Err.nil from rfl] at dh;obtain rfl:=Option.some.inj dh;refine walk (N:=fun X Y pv=>∃ kb cb kc cc A',kb≠cb∧Inv S X∧NewIs S (fun b=>A b∨b=w.heap.size) X Y pv (JS o l kb cb kc cc).s A' (List.replicate (sizeN o) false) (List.replicate (sizeN o) ⟨0,0⟩)) one (fun X hX=>(use hn X hX).mono ?_) (fun X hX ae => ?_) ?_
   ·rintro e Y ⟨v,rfl,hk,hr⟩;exact ⟨by rw[err_nil (ret_err hr)],hk⟩
   ·exact new_plain hS hP fB cC ok nH nR gi hA a0 a1 hX (fun b hb=>.inl hb) fun b hb=>by
     rcases hb with hb | rfl
     ·exact AG (hA.1 b hb) hX.size
     ·exact ae
   ·rintro X Y pv tm hX ae kM ⟨kb,cb,kc,cc,A',ai,hi,aG⟩ cy aQ t2 t1 t7;have jk:=hJ (JS o l kb cb kc cc) (jok ok ai);obtain ⟨jr,jA,jI⟩:=aG.jr (J:=JS o l kb cb kc cc) rfl (by simp[JS]) hi kM
    have aC:zjk.runFrom [k351w (JS o l kb cb kc cc),k40,k69] { fr:=[(2,enc (.bx .outl) o),(7,enc (.bx .solver) (JS o l kb cb kc cc).s)],hp:=[],ctr:=1 } (.tp [.sl .cell,.err])=some ((List.range (sizeN o)).map fun k=>sol o l (qJ o k).1,.nil) :=
     (s1332 (zlb (JS o l kb cb kc cc)) P40 P69 o (JS o l kb cb kc cc).s).trans (S1332_eq ok fun p hf=>P351w_JS ok hf)
    refine wp_mono (zkF (S:=zG S (JS o l kb cb kc cc)) (C:=[k351w (JS o l kb cb kc cc),k40,k69]) hS (.cons jk.at_ (.cons jk.size (.cons jk.place .nil))) (fu _) aV rfl rfl rfl aC (by rw[aQ,fh]) ⟨jA,jI⟩ jr fun k => ?_) fun ex a Z h=>h.body fun v hk hj hr=>⟨v,rfl,(fin (v:=v) ?_).1,(fin (Z:=Z) (v:=v) ?_).2,ret_end hr (fun x hx => ?_) ?_⟩
    ·by_cases k2:k=2
     ·subst k2;rw[t2];show VR0 _ A' Y (.ep [.sl 3 (o.map Dim.cs)] 0) _;refine .ep (b:=w.heap.size) (o:=0) (u:=fun _=>u0) (aG.sub _ (.inr rfl)) (fun j hj => ?_) fun j x hx => ?_
      ·obtain rfl:j=0:=by simp at hj;omega
       exact (World.cell?_of_block (a:=⟨w.heap.size,0,none⟩) (kM.block _ ae fun e=>e)).trans cy
      ·match j,hx with
       | 0,hx =>cases hx;exact (a0.mono (fun b hb=>aG.sub b (.inl hb)) fun b hb=>(kM.block b (AG (hA.1 b hb) hX.size) fun e=>e).trans (hX.block b (hA.1 b hb) fun e=>e)).toJ
       | j+1,hx=>simp at hx
     ·by_cases k7:k=7
      ·subst k7;rw[t7];exact aG.rel.toJ
      ·have:look k TV.bot [(2,enc (.bx .outl) o),(7,enc (.bx .solver) (JS o l kb cb kc cc).s)]=.bot:=(by simp only[look];rw[show Nat.beq 2 k=false from by rw[← BA];exact fun e=>k2 (Bs e).symm,show Nat.beq 7 k=false from by rw[← BA];exact fun e=>k7 (Bs e).symm]);show VR0 _ A' Y (av [] (lv [] (look k TV.bot [(2,enc (.bx .outl) o),(7,enc (.bx .solver) (JS o l kb cb kc cc).s)]))) _;rw[this];exact .bot _
    ·exact zjG (J:=JS o l kb cb kc cc) (hX.trans kM) hk (Aw hX.size aG.bk.1) (Aw hX.size aG.bc.1)
    ·exact zjG (J:=JS o l kb cb kc cc) (hX.trans kM) hk (Aw hX.size aG.bk.1) (Aw hX.size aG.bc.1)
    ·rcases (aG.lt x hx).2 with (h | rfl) | h
     ·exact .inl h
     ·exact .inr (AO _)
     ·exact .inr (Aw hX.size h)
    ·exact Aw hX.size kM.size
  ·have he:zB (wI o l)≠.nil:=fun h=>hz (ze6.1 h);obtain rfl:y=([],zB (wI o l)):=(by revert dh;generalize zB (wI o l)=e at he;cases e<;>simp_all);refine err one fun X hX=>(use (zgE hl) X hX).mono ?_;rintro e Z ⟨v,rfl,hk,hr⟩;have hv:=ret_err hr;obtain ⟨T,u,rfl⟩:=err_some he hv;have hZ:=hX.trans hk;exact ⟨T,u,rfl,hk,_,rfl,(fin (v:=v1) hZ).1,hP.n _,ret_two (X:=X) rfl (.slnil 2) (hv.mono (after_ext hX.size) fun _ _=>rfl)⟩
 ·cases dh
end
end
section
set_option maxRecDepth 100000
section
variable (F332:LD->LY->(Option (LC×Err))) (F69:LD->Int->(Option LI))
def mb:TCode:=.seq (rg [oq 2 (.box 0),om 4 cn,om 5 cz]) (.seq (rg [oq 12 (.load (some 1) 2),om 13 1,oq 14 (.call true [] 332 [12,13]),om 11 14,oq 15 (.ext 11 0),oq 16 (.ext 11 1),om 6 15,om 7 16]) (.seq (.seq (rg [om 17 7,oq 18 (.eqn false true 17)]) (.cond 18 (.seq (rg [om 19 7,om 4 cn,om 5 19]) (.ret)) (.skip))) (.seq (rg [om 8 cn]) (.seq (.seq (rg [om 20 6,oq 21 (.len false 20),om 22 (ci 0)]) (.loop ⟨[.row 8 35 (.sl .int),.slot 22 .int],[9,10,23,24,25,26,27,28,29,30,31,32,33,34,35,36],[10,34],[]⟩ 0 (.seq (rg [oq 23 (.bin .int .lss 22 21)]) (.seq (.cond 23 (.skip) (.exit 0)) (.seq (.block 1 (.seq (rg [om 24 22,oq 25 (.ia 2 20 22),oq 26 (.load (some 2) 25),oq 10 (.alloc [.int .i64 0,.int .i64 0]),om 9 24,on (.store 2 10 26)]) (.seq (rg [oq 27 (.fa 0 10),oq 28 (.load none 27),oq 29 (.bin .int .eql 28 (ci 2))]) (.condJ ⟨[.row 8 35 (.sl .int)],[30,31,32,33,34,35],[34],[]⟩ 29 (.region [om 30 8,oq 31 (.load (some 1) 2),om 32 9,oq 33 (.call true [] 69 [31,32]),oq 34 (.bslice true 1 [.slice none 0 0] 1 [(0,33)]),oq 35 (.app 1 30 34),om 8 35] [.int,.int,.int,.int,(.sl .int),(.sl .int)] false) (.skip))))) (rg [oq 36 (.bin .int .add 22 (ci 1)),om 22 36])))))) (.seq (rg [om 37 8,om 4 37,om 5 cz]) (.ret)))))) 
def lb:TFunc:=⟨2,38,[.tmp 4,.tmp 5],false,mb,[]⟩
def zgo (a0:LD) (y1:(LC×Err)) (x2:((List LI)×Int)):Option (LR ((List LI)×Int) ((List LI)×Err)) :=
 br (decide (x2.2 < (y1.1.length:Int)))
 (bno (zl y1.1 x2.2) fun y3 =>
 jn (σ:=(List (List Int))) (α:=(LR ((List (List Int))×Int) ((List (List Int))×Err))) (br (decide ((Cell.k y3)=(2:Int)))
 (bno (F69 a0 x2.2) fun y4 =>
 ck (decide (List.length x2.1+List.length ([y4]:List (List Int))<=zu)) <|
 zt (some (x2.1++([y4]:List (List Int)))))
 (zt (some x2.1))) fun x5 =>
 nxO (some (x5,wi (x2.2+(1:Int)))))
 (dnO (some (x2.1,x2.2)))
def S333 (a0:LD) (a1:LY):Option ((List LI)×Err) :=
 bno (F332 a0 a1) fun y1 =>
 br (!(Err.isNil y1.2))
 (some (([]:List (List Int)),y1.2))
 (lp (zgo F69 a0 y1) (([]:List (List Int)),(0:Int)) fun x6 =>
 some (x6.1,Err.nil))
def P333:=S333 P332 P69
def ik:CSpec:=⟨333,[(.st .outl),(.sl .entry)],(.tp [(.sl (.sl .int)),.err]),fun x=>P333 x.1 x.2,false,[]⟩
def pA {S:Seat} (h:Ok1 S 333 lb):RtF S [k332,k69] (Rt S ik):=okr h rfl fun x=>by kernel_rfl
end
end
end Ab
