import Derived.Test.YtkaifdgeigdbhaaGreatDoorH3
set_option linter.unusedVariables false
set_option linter.unusedSimpArgs false
noncomputable section
namespace Ab
open Go
section
open Go Go.RowKit
open Classical in
def ziO (J:JP) (s:Solver) (p:List Int):Option Cell:=if s=J.s∧J.fit p then some (J.U (J.num p)) else none
def k351w (J:JP):CSpec:=⟨351,[.bx .solver,.sl .int],.st .cell,fun x=>ziO J x.1 x.2,false,[]⟩
theorem r351w {S:Seat} {J:JP} (h:∀ n,Rt S (k351 J n)):Rt S (k351w J):=fun (x:Solver×List Int) (y:Cell) hy=>by
 have hy2:ziO J x.1 x.2=some y:=hy;refine h (J.rk x.2+1) x y ?_;show ziT J (J.rk x.2+1) x.1 x.2=some y;unfold ziO at hy2;unfold ziT;split at hy2
 ·rename_i c;rw[if_pos ⟨c.1,c.2,Nat.lt_succ_self _⟩];exact hy2
 ·cases hy2
theorem P351w_JS {o:List Dim} {l:List Entry} (ok:RightC o l) {kb cb kc cc:Nat} {p:List Int} (hf:Fit o p):ziO (JS o l kb cb kc cc) (JS o l kb cb kc cc).s p=some (sol o l p):=by unfold ziO;rw[if_pos ⟨rfl,hf⟩];show some (sol o l (zdD o (zgz o p)).1)=_;rw[zbD ok.pos hf]
theorem zeW {S:Seat} (hP:Plain S) {g id:Nat} (hg:z8 g S.fns=some id) {args:List AV} {r:AV} (h:(za S).ret id args r []) (hno:∀ x∈args,zx x=false) {A:Nat->Prop} {w X:World} {vs:Array Value} (hl:vs.size=args.length)
  (hA:(∀ b,A b->b < w.heap.size)∧Inv S w) (hk:KeepO (fun _=>False) w X) (ha:∀ (i:Nat) (x:AV),args[i]? = some x->VR0 S A w x (vs.getD i undef)) :
  Calls S.P g vs X fun e Y=>∃ v,e=.returned v∧KeepO (fun _=>False) X Y∧zbN S A X Y r v:=by
 refine (((h g hg).old0 hP hno) A X vs hl ⟨fun b hb=>Nat.lt_of_lt_of_le (hA.1 b hb) hk.size,hA.2.keep (fun _ _ h=>h) hk⟩ fun i x hx=>(ha i x hx).mono (fun _ h=>h) fun b hb=>hk.block b (hA.1 b hb) fun h=>h)
theorem err_nil {S:Seat} {A:Nat->Prop} {w:World} {v:Value} (h:VR0 S A w (Err.av .nil) v):v=.nilIface:=VR.v_inv (σ:=fun _=>none) (.of0 h)
theorem ret_err {S:Seat} {A:Nat->Prop} {X Y:World} {e:Err} {v:Value} (h:zbN S A X Y e.av v):VR0 S (qy A (fun _=>none) X Y) Y e.av v:=by
 obtain ⟨β,h1,_,hp⟩:=h;have:yR S (qy A β X Y) Y (β 0) e.av v:=by cases e<;>exact hp
 have:VR0 S (qy A β X Y) Y e.av v:=by cases e<;>exact this.2
 exact this.mono (fun b hb=>⟨hb.1,hb.2.1,by simp⟩) fun _ _=>rfl
abbrev K0' (W X:World):Prop:=KeepO (fun _=>False) W X
end
section
def zfV (o:List Dim) (l:List Entry):Int:=if (allE o).2.2=0 then entsE o l else (allE o).2.2
theorem P349_eq {o:List Dim} {l:List Entry} (hl:Lst Entry.gd l):P349 o l=some (zy (zfV o l)):=by
 simp only[P349,S349,P352_eq,zl,z7,P27_eq o l hl];unfold zfV;by_cases h:(allE o).2.2=0
 ·rw[if_pos h,decide_eq_true h];rfl
 ·rw[if_neg h,decide_eq_false h];rfl
theorem zgW {o:List Dim} {l:List Entry} (hl:Lst Entry.gd l):zfV o l=0↔RightC o l:=by
 unfold zfV;by_cases h:(allE o).2.2=0
 ·rw[if_pos h];exact ⟨fun h2=>⟨zf4.1 h,ents_ok.1 h2,hl⟩,fun h2=>ents_ok.2 h2.ents⟩
 ·rw[if_neg h];exact ⟨fun h2=>absurd h2 h,fun h2=>absurd (zf4.2 h2.cube) h⟩
theorem zhl {α:Type} {L:List α} {i:Nat} {a:α} (h:L[i]? = some a):L.take i++[a]=L.take (i+1):=by obtain ⟨hi,rfl⟩:=List.getElem?_eq_some_iff.1 h;rw[List.take_succ_eq_append_getElem hi]
section
variable {o:List Dim} {l:List Entry} (ok:RightC o l)
include ok
theorem new_inner {γ:Type} {d:Dim} (hd:d∈o):lpO (zcR ziS d) (([]:List (Option (List Node))),(0:Int))=some (.inl ((List.range d.members.length).map (fmM d),(d.members.length:Int))):=by
 have hlen:=ok.most d hd;have hru:=ok.cube.rules d hd;generalize hL:(List.range d.members.length).map (fmM d)=L;have hLl:L.length=d.members.length:=by rw[← hL];simp
 have hs:=zK (B:=zcR ziS d) (fun j=>(L.take j,(j:Int))) d.members.length (fun j hj=>by
  have hm:=List.getElem?_eq_getElem hj;have e4:wi ((j:Int)+1)=((j+1:Nat):Int):=by rw[jo (by omega) (by omega)];omega
  have hlj:L[j]? = some (fmM d j):=by rw[← hL,List.getElem?_map,List.getElem?_range hj];rfl
  have hp:ziS d (j:Int)=some (fmM d j,.nil):=by
   rw[P355_eq hm];unfold fmM;rw[hm];simp only;split
   ·rfl
   ·rename_i hfo;rw[zdi hru hm hfo];rfl
  simp only[zcR];rw[zn,if_pos (by omega)];have hck:(L.take j).length+[fmM d j].length<=zE:=by simp only[List.length_take,List.length_singleton];unfold zE;omega
  simp only[hp,zl,qO,Bool.not_true,zg,zA hck,we,e4,zhl hlj])
 rw[show (([]:List (Option (List Node))),(0:Int))=(L.take 0,((0:Nat):Int)) by rfl,hs,ql (y:=(L.take d.members.length,(d.members.length:Int))) (by simp only[zcR];rw[zn,if_neg (by omega)];rfl)];rw[← hLl,List.take_length]
theorem S350_eq:S350 ziS P40 o l=some (o,l,fmL o,List.replicate (sizeN o) false,List.replicate (sizeN o) ⟨0,0⟩):=by
 have hlen:=ok.cube.out.len;obtain ⟨h1,h2⟩:=ok.cube.out.sizeN;simp only[S350,P40_eq o (by omega),h1,zl];have hr:(0:Int)<=((sizeN o:Nat):Int)∧((sizeN o:Nat):Int)<=((sizeN o:Nat):Int)∧((sizeN o:Nat):Int)<=zE:=⟨by omega,Int.le_refl _,by unfold zE;omega⟩;simp only[zA hr,Int.toNat_natCast];generalize hK:List.replicate (sizeN o) false=K;generalize hC:List.replicate (sizeN o) (Cell.mk (0:Int) (0:Int))=C;have hfl:(fmL o).length=o.length:=by unfold fmL;simp
 have hs:=zK (B:=zeK ziS o) (fun i=>((i:Int),(o,l,(fmL o).take i,K,C))) o.length (fun i hi=>by
  have hd:=List.getElem?_eq_getElem hi;have e4:wi ((i:Int)+1)=((i+1:Nat):Int):=by rw[jo (by omega) (by omega)];omega
  simp only[zeK];rw[zn,if_pos (by omega)];simp only[zh,hd,zl];rw[qS,new_inner (γ:=Unit) ok (List.getElem_mem hi)];have hck:((fmL o).take i).length+[(List.range (o[i]).members.length).map (fmM o[i])].length<=zE:=by simp only[List.length_take,List.length_singleton];unfold zE;omega
  simp only[qU,zA hck,we,e4,zhl (fmL_get hd)])
 rw[qS,show ((0:Int),(o,l,([]:List (List (Option (List Node)))),K,C))=(((0:Nat):Int),(o,l,(fmL o).take 0,K,C)) from rfl,hs,ql (y:=((o.length:Int),(o,l,(fmL o).take o.length,K,C))) (by simp only[zeK];rw[zn,if_neg (by omega)];rfl)];simp only[qU];rw[← hfl,List.take_length]
end
end
section
open Go Go.RowKit
structure JKnows (S:Seat) (J:JP):Prop where
 at_:Rt (zq S J) (k351w J)
 size:Rt (zq S J) k40
 place:Rt (zq S J) k69
theorem arg_o {S:Seat} {A:Nat->Prop} {w:World} {o:List Dim} {v:Value} (h:VR0 S A w (.agg [.sl 3 (o.map Dim.cs)]) v):∃ u,v=.agg #[u]∧VR0 S A w (.sl 3 (o.map Dim.cs)) u∧u.oneCell'=true:=by
 obtain ⟨us,rfl,hl,hu⟩:=VR.agg_inv (σ:=fun _=>none) (.of0 h);have h0:=hu 0 _ rfl;obtain ⟨u,rfl⟩:∃ u,us=#[u]:=⟨us[0]'(by simp at hl;omega),by
  apply Array.ext
  ·simpa using hl.symm
  ·intro i h1 h2;obtain rfl:i=0:=by simp at h2;omega
   rfl⟩
 exact ⟨u,rfl,h0.to0 rfl,VR.cell1 h0 rfl⟩
section
variable {S:Seat} (hS:zN S) (hP:Plain S) (h349:Rt S k349) (h355:Rt S k355) (h40:Rt S k40)
include hS hP h349 h355 h40
omit h349 in
theorem new_plain {o:List Dim} {l:List Entry} (ok:RightC o l) {g350:Nat} {fn350:Func} (hg:S.P.funcs[g350]? = some fn350) (hc:zaC S 350 fn350=some tf350.er) (hres:fn350.results=#[.tmp 4,.tmp 5]) {A AX:Nat->Prop} {w X:World} {u0 v1:Value} (hA:(∀ b,A b->b < w.heap.size)∧Inv S w)
  (a0:VR0 S A w (.sl 3 (o.map Dim.cs)) u0) (a1:VR0 S A w (.sl 2 (l.map Entry.cs)) v1) (hX:KeepO (fun _=>False) w X) (hAX:∀ b,A b->AX b) (hlt:∀ b,AX b->b < X.heap.size) :
  Calls S.P g350 #[.agg #[u0],v1] X fun e Y=>∃ pv,e=.returned (.tuple #[pv,.nilIface])∧KeepO (fun _=>False) X Y∧∃ kb cb kc cc A',kb≠cb∧Inv S X∧NewIs S AX X Y pv (JS o l kb cb kc cc).s A' (List.replicate (sizeN o) false) (List.replicate (sizeN o) ⟨0,0⟩):=by
 have hw:∀ b,A b->X.heap[b]? = w.heap[b]?:=fun b hb=>hX.block b (hA.1 b hb) fun e=>e;have hi:Inv S X:=hA.2.keep (fun _ _ h=>h) hX;have hn:0 < sizeN o:=(by have:=digs_fit ok.cube.out 0;exact Nat.lt_of_le_of_lt (Nat.zero_le _) (zfl this));refine (new_sound hS h355 h40 hg hc hres (S350_eq ok) (by simpa using hn) (by simp) (A:=AX) (w:=X) (vs:=#[.agg #[u0],v1]) rfl ⟨hlt,hi⟩ (.none hP.g hP.n _ _ _) fun i z hz => ?_).mono ?_
 ·match i,hz with
  | 0,hz =>
   cases hz;exact .agg rfl fun j y hy=>by
    match j,hy with
    | 0,hy=>cases hy;exact a0.mono hAX hw
    | j+1,hy=>have hy:([AV.sl 3 (o.map Dim.cs)]:List AV)[j+1]? = some y:=hy;simp at hy
  | 1,hz=>cases hz;exact a1.mono hAX hw
  | i+2,hz=>simp[encAL] at hz
 ·rintro e Y ⟨v,s,A',he,hk,_,rfl,rfl,hf,hsn,hnew⟩;have hk0:KeepO (fun _=>False) X Y:=⟨hk.os,hk.tape,hk.output,hk.size,fun b hb _=>hk.block b hb (hP.g b)⟩;refine ⟨v,he,hk0,s.kb,s.cb,s.kc,s.cc,A',hnew.ne,hi, ?_⟩;have:(JS s.o s.l s.kb s.cb s.kc s.cc).s=s:=(by obtain ⟨so,sl,sf,kb,cb,kc,cc,n⟩:=s;have hn':n=(List.replicate (sizeN so) false).length:=hsn;rw[List.length_replicate] at hn';subst hn';simp only at hf;subst hf;rfl);rw[this];exact hnew
end
end
section
set_option maxRecDepth 100000
section
variable (F332:LD->LY->(Option (LC×Err))) (F69:LD->Int->(Option LI))
end
end
end Ab
