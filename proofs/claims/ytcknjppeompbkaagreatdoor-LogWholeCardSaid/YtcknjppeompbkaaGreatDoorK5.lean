import Derived.Test.YtcknjppeompbkaaGreatDoorK18
open List (getElem?_eq_getElem getElem_mem length_append length_cons length_map length_nil mem_map)
open Nat (le_refl le_trans zero_le)
set_option linter.all false
set_option maxRecDepth 100000
set_option maxHeartbeats 4000000
section
namespace Ab
open Go
structure CubeOk (o:List Dim):Prop where
 out:OutOk o
 rules:∀ d∈o,(yj d).2=0
def allE_zero {o:List Dim}:(allE o).2.2=0↔CubeOk o:=by
 unfold allE;by_cases h0:(jD o).2.2=0
 ·rw[if_neg (fun h=>h h0)];cases hs:(List.range o.length).findSome? (zep o) with
  | some r =>
   obtain ⟨i,hi,hr⟩:=List.exists_of_findSome?_eq_some hs;refine ⟨fun h=>absurd h (ruleF_ne hr),fun h => ?_⟩;unfold zep at hr;split at hr
   ·rename_i d hd;rw[if_neg (fun c=>c (h.rules d (List.mem_of_getElem? hd)))] at hr;cases hr
   ·cases hr
  | none =>
   refine ⟨fun _=>⟨zcu.1 h0,fun d hd => ?_⟩,fun _=>rfl⟩;obtain ⟨i,hi,rfl⟩:=List.getElem_of_mem hd;have:=List.findSome?_eq_none_iff.1 hs i (List.mem_range.2 hi);unfold zep at this;rw[getElem?_eq_getElem hi] at this;simp only at this;split at this
   ·cases this
   ·rename_i c;exact Classical.byContradiction c
 ·rw[if_pos h0];exact ⟨fun h=>absurd h h0,fun h=>absurd (zcu.2 h.out) h0⟩
def noForm (o:List Dim):Prop:=∀ d∈o,∀ m∈d.members,m.formula=⟨#[]⟩
def zgX {d:Dim} (ok:DimOk d) (h:∀ m∈d.members,m.formula=⟨#[]⟩):(yj d).2=0:=by
 have h0:=zih.2 ok;have hl:=ok.len;have iP:∀ i x,x∈rawN d i->∃ k:Nat,x=k∧i < k∧k < d.members.length:=by
  intro i x hx;unfold rawN at hx;split at hx
  ·rename_i m hm;rw[if_pos (h m (List.mem_of_getElem? hm))] at hx;have:=parts_up ok.rooted (List.mem_filter.1 hx).1;exact ⟨x.toNat,by omega,by omega,by omega⟩
  ·cases hx
 have bj:∀ i,i < d.members.length->cY d i=none:=(by intro i hi;have hm:=getElem?_eq_getElem hi;unfold cY;rw[hm];simp only;rw[if_neg (fun c=>c.1 (h _ (getElem_mem hi))),if_neg];intro c;have:=nU.1 c;obtain ⟨k,hk,_⟩:=iP i _ ((zgS _).2 _ |>.1 this);omega);have dh:=zit bj;have hnd:∀ a b,b∈nd (zfn d) a->a < b:=by
  intro a b hb;obtain ⟨x,hx,rfl⟩:=mem_map.1 hb;by_cases ha:a < d.members.length
  ·rw[List.getD_eq_getElem?_getD,allN_get ha] at hx;obtain ⟨k,rfl,hk,_⟩:=iP a x ((zgS _).2 _ |>.1 hx);omega
  ·rw[List.getD_eq_getElem?_getD,List.getElem?_eq_none (by rw[allN_len];omega)] at hx;cases hx
 have gj:∀ a b,Reach (zfn d) a b->a < b:=by
  intro a b hr
  induction hr with
  | one h=>exact hnd _ _ h
  | more h _ ih=>exact Nat.lt_trans (hnd _ _ h) ih
 rw[show yj d=zfz d from if_neg (fun c=>c h0)];unfold zfz;rw[List.findSome?_eq_none_iff.2 (fun i hi=>by rw[bj i (List.mem_range.1 hi)];rfl)];simp only;rw[List.findSome?_eq_none_iff.2 (fun i hi=>by
  unfold ziS;rw[if_neg (fun c=>Nat.lt_irrefl _ (gj i i ((selfN_iff dh i).1 c)))]
  rfl)]
def zjc {o:List Dim} (ok:OutOk o) (h:noForm o):CubeOk o:=⟨ok,fun d hd=>zgX (ok.dims d hd) (h d hd)⟩
end Ab
end
section
namespace Ab
open Go
@[simp] def P92_nil (e:Int):P92 .nil e=some (decide (0=e)):=rfl
@[simp] def P92_no (k e:Int):P92 (.no k) e=some (decide (k=e)):=rfl
@[simp] def P92_errOf (k e:Int):P92 (zp k) e=some (decide (k=e)):=by
 unfold zp;split
 ·subst k;rfl
 ·rfl
end Ab
end
section
namespace Ab
open Go
def Small (o:List Dim):Prop:=o.length<=1000∧∀ d∈o,d.members.length<=1000
def P409_eq {o:List Dim} (h:Small o):P409 o=some o:=by
 have hB:∀ {n:Nat},n<=1000->n<=wD:=fun h=>by unfold wD;omega
 have h1:P410 o=some o:=by simp[P410,zaG,hB h.1]
 simp only[P409,S409,h1,zq];have hl:=h.1;have hs:=qS (B:=zfc P411 o) (fun i=>((i:Int),o)) o.length (fun i hi=>by
  have hx:=getElem?_eq_getElem hi;have hm:=h.2 _ (getElem_mem hi);have e4:wi ((i:Int)+1)=((i+1:Nat):Int):=by rw[ww (by omega) (by omega)];omega
  have h2:P411 o[i].members=some o[i].members:=by simp[P411,zaG,hB hm]
  simp only[zfc];rw[zO,if_pos (by omega),zL ⟨by omega,by omega⟩];simp only[Int.toNat_natCast,hx,zq,h2];rw[zL ⟨by omega,by omega⟩];simp only[eo,e4];rw[show Dim.mk o[i].name o[i].solve o[i].members=o[i] from rfl,List.set_getElem_self])
 rw[wc,show ((0:Int),o)=(((0:Nat):Int),o) from rfl,hs,jt (y:=((o.length:Int),o)) (by simp only[zfc];rw[zO,if_neg (by omega)];rfl),yR]
def zdE (x:ByteArray) (xs:List ByteArray):ByteArray:=xs.foldl (fun s n=>(s++⟨#[32]⟩)++n) x
def ox:∀ (xs:List ByteArray) (x:ByteArray),(zdE x xs).data.toList=x.data.toList++Lib.joinTail [32] (xs.map (·.data.toList))
 | [],x=>by simp[zdE,Lib.joinTail]
 | y :: r,x=>by
  have:=ox r ((x++⟨#[32]⟩)++y);unfold zdE at this ⊢;rw[List.foldl_cons,this,ByteArray.data_append,ByteArray.data_append,Array.toList_append,Array.toList_append];simp[Lib.joinTail]
def joinG_eq (x:ByteArray) (xs:List ByteArray):ed (x :: xs) ⟨#[32]⟩=zdE x xs:=by apply ByteArray.ext;apply Array.ext';rw[show (ed (x :: xs) ⟨#[32]⟩).data.toList=Lib.join ((x :: xs).map (·.data.toList)) [32] by simp[ed],ox,List.map_cons,Lib.join_cons]
def zbn:∀ (xs:List ByteArray) (x:ByteArray) (b:Nat),(∀ y∈xs,y.size<=b)->(zdE x xs).size<=x.size+(b+1) * xs.length∧x.size<=(zdE x xs).size
 | [],x,b,_=>by simp[zdE]
 | y :: r,x,b,h=>by
  have h1:=zbn r ((x++⟨#[32]⟩)++y) b fun z hz=>h z (List.mem_cons_of_mem _ hz);have h2:=h y (by simp);have h3:((x++⟨#[32]⟩)++y).size=x.size+1+y.size:=by rw[ByteArray.size_append,ByteArray.size_append];rfl
  unfold zdE at h1 ⊢;rw[List.foldl_cons,length_cons,Nat.mul_add];omega
def zen (e:Edit):ByteArray:=if e.clear=true then ⟨#[120]⟩ else ⟨#[61]⟩
def editW (e:Edit):List ByteArray:=e.at_.map qZ++[zen e++qZ e.n]
def jq (xs:List Edit):List ByteArray:=xs.flatMap editW
def recB (xs:List Edit):ByteArray:=zdE (qZ (xs.length:Int)) (jq xs)++⟨#[10]⟩
def yL {n:Int} (h:I64 n):(qZ n).size<=20∧1<=(qZ n).size:=by
 obtain ⟨h1,h2⟩:=h;rw[zi2];unfold Lib.itoa;split
 ·have:=dec_len 18 n.natAbs (by omega);simp only[length_cons];omega
 ·have:=dec_len 18 n.toNat (by omega);have h2:1<=(Lib.decDigits n.toNat).length:=by
   cases hd:Lib.decDigits n.toNat with
   | nil=>exact absurd hd (dec_ne _)
   | cons c r=>simp
  omega
def FewW (xs:List Edit):Prop:=xs.length<=60∧∀ e∈xs,e.at_.length<=1000∧(∀ n∈e.at_,I64 n)∧I64 e.n
def lD {xs:List Edit} (h:FewW xs):(jq xs).length<=60060∧∀ y∈jq xs,y.size<=21:=by
 refine ⟨?_,fun y hy => ?_⟩
 ·have:∀ (l:List Edit),(∀ e∈l,e.at_.length<=1000)->(jq l).length<=1001 * l.length:=by
   intro l
   induction l with
   | nil=>intro _;simp[jq]
   | cons a l ih =>intro h;have h1:=ih fun e he=>h e (List.mem_cons_of_mem _ he);have h2:=h a (by simp);unfold jq at h1 ⊢;rw[List.flatMap_cons,length_append,length_cons];simp only[editW,length_append,length_map,length_cons,length_nil];omega
  have:=this xs fun e he=>(h.2 e he).1;have:=h.1;omega
 ·obtain ⟨e,he,hy⟩:=List.mem_flatMap.1 hy;obtain ⟨_,h2,h3⟩:=h.2 e he;rcases List.mem_append.1 hy with hy | hy
  ·obtain ⟨n,hn,rfl⟩:=mem_map.1 hy;have:=(yL (h2 n hn)).1;omega
  ·obtain rfl:=List.mem_singleton.1 hy;have:=(yL h3).1;have hs:(zen e).size=1:=by unfold zen;split<;>rfl
   rw[ByteArray.size_append];omega
def recB_size {xs:List Edit} (h:FewW xs):2<=(recB xs).size∧(recB xs).size<=2000000:=by have h1:=yL (n:=(xs.length:Int)) ⟨by omega,by have:=h.1;omega⟩;obtain ⟨h2,h3⟩:=lD h;obtain ⟨h4,h5⟩:=zbn (jq xs) (qZ (xs.length:Int)) 21 h3;unfold recB;rw[ByteArray.size_append];have:(⟨#[10]⟩:ByteArray).size=1:=rfl;omega
def P407_eq {xs:List Edit} (h:FewW xs):P407 xs=some (recB xs):=by
 have hn:=h.1;have aC:P157 (xs.length:Int)=some (qZ (xs.length:Int)):=zhI ⟨by omega,by omega⟩;have inner:∀ (e:Edit) (w:List ByteArray),e.at_.length<=1000->(∀ n∈e.at_,I64 n)->w.length<=100000->lpO (zdt P157 e) (w,(0:Int))=some (.inl (w++e.at_.map qZ,(e.at_.length:Int))):=by
  intro e w hl hI hw;have hs:=qS (B:=zdt P157 e) (fun k=>(w++(e.at_.take k).map qZ,(k:Int))) e.at_.length (fun k hk=>by
   have e4:wi ((k:Int)+1)=((k+1:Nat):Int):=by rw[ww (by omega) (by omega)];omega
   have hx:=getElem?_eq_getElem hk;have kU:=hI _ (getElem_mem hk);have iK:w++(e.at_.take (k+1)).map qZ=(w++(e.at_.take k).map qZ)++[qZ e.at_[k]]:=by rw[List.take_add_one,hx,List.map_append,List.append_assoc];rfl
   rw[iK];generalize e.at_[k]=c at hx kU;have bU:(w++(e.at_.take k).map qZ).length+[qZ c].length<=qB:=by simp only[length_append,length_map,List.length_take,length_cons,length_nil];unfold qB;omega
   simp only[zdt];rw[zO,if_pos (by omega)];simp only[zn,hx,zq,zhI kU,zL bU,eo,e4])
  rw[show (w,(0:Int))=(w++(e.at_.take 0).map qZ,((0:Nat):Int)) by simp,hs,jt (y:=(w++(e.at_.take e.at_.length).map qZ,(e.at_.length:Int))) (by simp only[zdt];rw[zO,if_neg (by omega)];rfl),List.take_length]
 have hs:=qS (B:=zfd P157 xs) (fun i=>(qZ (xs.length:Int) :: jq (xs.take i),(i:Int))) xs.length (fun i hi=>by
  have e4:wi ((i:Int)+1)=((i+1:Nat):Int):=by rw[ww (by omega) (by omega)];omega
  have hx:=getElem?_eq_getElem hi;obtain ⟨h1,h2,h3⟩:=h.2 _ (getElem_mem hi);have hw:=(lD (xs:=xs.take i) ⟨by rw[List.length_take];omega,fun e he=>h.2 e (List.mem_of_mem_take he)⟩).1;have iK:jq (xs.take (i+1))=jq (xs.take i)++editW xs[i]:=(by unfold jq;rw[List.take_add_one,hx,List.flatMap_append];simp);rw[iK];generalize xs[i]=e at hx h1 h2 h3;have aG:(zen e).size=1:=by unfold zen;split<;>rfl
  have hz:=(yL h3).1;have mX:(zen e).size+(qZ e.n).size<=9223372036854775807:=by omega
  have mW:(qZ (xs.length:Int) :: jq (xs.take i)++e.at_.map qZ).length+[zen e++qZ e.n].length<=qB:=by simp only[length_append,length_map,length_cons,length_nil];unfold qB;omega
  simp only[zfd];rw[zO,if_pos (by omega)];simp only[zn,hx,zq];have hb:(br e.clear (zD (some (⟨#[120]⟩:ByteArray))) (zD (some (⟨#[61]⟩:ByteArray))):Option (ByteArray ⊕ LR (List ByteArray×Int) ByteArray))=some (.inl (zen e)):=by unfold zen;cases e.clear<;>rfl
  rw[hb];simp only[yR];rw[wc,inner e _ h1 h2 (by simp only[length_cons];omega)];simp only[yR,zhI h3,zq];rw[zL mX,zL mW];simp only[eo,e4,editW,List.append_assoc,List.cons_append])
 simp only[P407,S407,aC,zq];rw[wc,show (([qZ (xs.length:Int)]:List ByteArray),(0:Int))=(qZ (xs.length:Int) :: jq (xs.take 0),((0:Nat):Int)) from rfl,hs,jt (y:=(qZ (xs.length:Int) :: jq (xs.take xs.length),(xs.length:Int))) (by simp only[zfd];rw[zO,if_neg (by omega)];rfl),List.take_length,yR];obtain ⟨w1,w2⟩:=lD h;have h1:=yL (n:=(xs.length:Int)) ⟨by omega,by omega⟩;have h2:=(zbn (jq xs) (qZ (xs.length:Int)) 21 w2).1;have hj:P154 (qZ (xs.length:Int) :: jq xs) ⟨#[32]⟩=some (zdE (qZ (xs.length:Int)) (jq xs)):=(by unfold P154;rw[joinG_eq,zL ⟨by simp only[length_cons];omega,by omega⟩]);simp only[hj,zq];rw[zL (by have:(⟨#[10]⟩:ByteArray).size=1:=rfl;omega)];rfl
end Ab
end
section
namespace Go.Proofs.TryzRead
open Go Go.RowKit Ab
def parse_long (s:ByteArray) (hs:100 < s.size) (W:World):Calls Tryz.prog 95 #[.string s] W fun e W'=>e=.returned (.tuple #[.slice none 0 0,.int .i64 0,.iface 67 (.int .i64 4)])∧KeepO (fun _=>False) W W':=by
 have h1:(100:Int) < (s.size:Int):=by omega
 go_enter_defers Tryz.func95,Tryz.ntmps95
 go_wp2
 simp[bodyPostD,Leaves,settle,results,Tryz.results95,go_sem];exact yo (yo (yo (.refl _ _) _) _) _
def zgZ {W:World} {base n:Nat} {v:Value} {l:List Ab.Node} (h:W.ownsRow base 167 5 v n (zhR l)) (hn:n=l.length):qU base W v l:=by
 subst hn;obtain ⟨h0,⟨rfl,h1⟩ | ⟨g,cap,cur,rfl,h3,h4,h5,h6,h7,h8⟩⟩:=h
 ·exact .inl ⟨rfl,List.eq_nil_of_length_eq_zero h1⟩
 ·refine .inr ⟨g,cap,rfl,h3,(Array.getElem?_eq_some_iff.1 h4).1,h5,fun i x hx j u hu => ?_⟩;have hi:=(List.getElem?_eq_some_iff.1 hx).1;have hj:j < 5:=by have:=(List.getElem?_eq_some_iff.1 hu).1;simpa[qK] using this
  have row:∀ (l:List Ab.Node) (i:Nat),l[i]? = some x->(zhR l)[i * 5+j]? = some u:=by
   intro l
   induction l with
   | nil=>intro i h;simp at h
   | cons y r ih =>
    intro i h;have e:zhR (y :: r)=qK y++zhR r:=by simp[zhR]
    have ly:(qK y).length=5:=rfl;rw[e];cases i with
    | zero =>simp only[List.getElem?_cons_zero,Option.some.injEq] at h;subst h;rw[List.getElem?_append_left (by omega),Nat.zero_mul,Nat.zero_add];exact hu
    | succ i =>rw[List.getElem?_append_right (by omega),ly,show (i+1) * 5+j - 5=i * 5+j by omega];exact ih i (by simpa using h)
  have h9:(cur.toList.take (l.length * 5))[i * 5+j]? = some u:=by rw[h8];exact row l i hx
  rw[List.getElem?_take_of_lt (by omega),Array.getElem?_toList] at h9;simp only[World.cell?,h4];exact h9
def own_slice {W:World} {base e size n:Nat} {v:Value} {xs:List Value} (h:W.ownsRow base e size v n xs):∃ a m cap,v=.slice a m cap:=by
 obtain ⟨_,⟨rfl,_⟩ | ⟨g,cap,cur,rfl,_⟩⟩:=h
 ·exact ⟨_,_,_,rfl⟩
 ·exact ⟨_,_,_,rfl⟩
def zeG {O:Nat->Prop} {n base:Nat} {Y Z:World} {v:Value} {l:List Ab.Node} (h:qU base Y v l) (k:KeepO O Y Z) (hO:∀ i,O i->i < base) (hn:n<=base):qU n Z v l:=by
 rcases h with h | ⟨b,cap,rfl,h1,h2,h3,h4⟩
 ·exact .inl h
 ·exact .inr ⟨b,cap,rfl,by omega,Nat.lt_of_lt_of_le h2 k.size,h3,fun i x hx j u hu=>by
   have e:=k.block b h2 (fun h=>by have:=hO b h;omega);have:=h4 i x hx j u hu;simp only[World.cell?,e] at this ⊢;exact this⟩
def three_set {Y:World} {B:Nat} {x y z:Value} {T1 T2 T3:TypeId} (hp:Y.heap[B]? = some (.cells #[x] T1 (0,0))) (hq:Y.heap[B+1]? = some (.cells #[y] T2 (0,0))) (hr:Y.heap[B+2]? = some (.cells #[z] T3 (0,0))) (vx vy vz:Value) :
  (Y.setCell ⟨B,0,none⟩ vx).cell? ⟨B,0,none⟩=some vx∧((((Y.setCell ⟨B,0,none⟩ vx).setCell ⟨B+1,0,none⟩ vy).setCell ⟨B+1+1,0,none⟩ vz).drew).cell? ⟨B,0,none⟩=some vx∧((((Y.setCell ⟨B,0,none⟩ vx).setCell ⟨B+1,0,none⟩ vy).setCell ⟨B+1+1,0,none⟩ vz).drew).cell? ⟨B+1,0,none⟩=some vy∧((((Y.setCell ⟨B,0,none⟩ vx).setCell ⟨B+1,0,none⟩ vy).setCell ⟨B+1+1,0,none⟩ vz).drew).cell? ⟨B+1+1,0,none⟩=some vz ∧
  KeepO (fun b=>b=B∨b=B+1∨b=B+2) Y ((((Y.setCell ⟨B,0,none⟩ vx).setCell ⟨B+1,0,none⟩ vy).setCell ⟨B+1+1,0,none⟩ vz).drew):=by
 refine ⟨one_cell (jk hp), ?_, ?_, ?_,oy (jN (jN (jN (.refl _ _) (.inl rfl) _) (.inr (.inl rfl)) _) (.inr (.inr rfl)) _) 1⟩
 ·exact one_cell ((zQ _ (by omega)).trans ((zQ _ (by omega)).trans (jk hp)))
 ·exact one_cell ((zQ _ (by omega)).trans (jk ((zQ _ (by omega)).trans hq)))
 ·exact one_cell (jk ((zQ _ (by omega)).trans ((zQ _ (by omega)).trans hr)))
def jT {W W4 Y Z:World} {rb:Nat} {v v':Value} {O:Nat->Prop} (k4:KeepO (fun _=>False) W W4) (sY:Stp (some rb) v W4 Y v') (hk:KeepO O Y Z) (hO:∀ i,O i->W.heap.size<=i) (hrb:W.heap.size<=rb) (hv:v.ownBlock=none):KeepO (fun _=>False) W Z :=
 ⟨hk.os.trans (sY.os.trans k4.os),hk.tape.trans (sY.tape.trans k4.tape),hk.output.trans (sY.output.trans k4.output),le_trans k4.size (le_trans sY.size hk.size),fun i hi _ =>
  (hk.block i (Nat.lt_of_lt_of_le hi (le_trans k4.size sY.size)) (fun h=>by have:=hO i h;omega)).trans ((sY.block i (Nat.lt_of_lt_of_le hi k4.size) (fun e=>by have:=Option.some.inj e;omega) (fun e=>by rw[hv] at e;cases e)).trans (k4.block i hi (fun e=>e)))⟩
def yK (W:World) (X1 X2 X3 X4:Obj):KeepO (fun _=>False) W ((((W.alloc X1).alloc X2).alloc X3).alloc X4):=yo (yo (yo (yo (.refl _ _) _) _) _) _
def zaa (W:World) (X1 X2 X3 X4:Obj):((((W.alloc X1).alloc X2).alloc X3).alloc X4).heap[W.heap.size]? = some X1∧((((W.alloc X1).alloc X2).alloc X3).alloc X4).heap[W.heap.size+1]? = some X2∧((((W.alloc X1).alloc X2).alloc X3).alloc X4).heap[W.heap.size+2]? = some X3∧((((W.alloc X1).alloc X2).alloc X3).alloc X4).heap[W.heap.size+3]? = some X4:=by have h1:=World.alloc_heap_new W X1;have h2:=World.alloc_heap_new (W.alloc X1) X2;have h3:=World.alloc_heap_new ((W.alloc X1).alloc X2) X3;have h4:=World.alloc_heap_new (((W.alloc X1).alloc X2).alloc X3) X4;refine ⟨qE (qE (qE h1)),qE (qE (by simpa using h2)),qE (by simpa using h3),by simpa using h4⟩
def zcm {Y:World} {B:Nat} {x y z:Value} {T1 T2 T3:TypeId} (hp:Y.heap[B]? = some (.cells #[x] T1 (0,0))) (hq:Y.heap[B+1]? = some (.cells #[y] T2 (0,0))) (hr:Y.heap[B+2]? = some (.cells #[z] T3 (0,0))) (vx vy vz:Value) :
  (Y.setCell ⟨B,0,none⟩ vx).cell? ⟨B,0,none⟩=some vx∧((Y.setCell ⟨B,0,none⟩ vx).setCell ⟨B+1,0,none⟩ vy).cell? ⟨B+1,0,none⟩=some vy∧(((Y.setCell ⟨B,0,none⟩ vx).setCell ⟨B+1,0,none⟩ vy).setCell ⟨B+1+1,0,none⟩ vz).cell? ⟨B+1+1,0,none⟩=some vz ∧
  KeepO (fun b=>b=B∨b=B+1∨b=B+2) Y (((Y.setCell ⟨B,0,none⟩ vx).setCell ⟨B+1,0,none⟩ vy).setCell ⟨B+1+1,0,none⟩ vz) :=
 ⟨one_cell (jk hp),one_cell (jk ((zQ _ (by omega)).trans hq)),one_cell (jk ((zQ _ (by omega)).trans ((zQ _ (by omega)).trans hr))),jN (jN (jN (.refl _ _) (.inl rfl) _) (.inr (.inl rfl)) _) (.inr (.inr rfl)) _⟩
def parse_bad (s:ByteArray) (hs:s.size<=100) (f b:Nat) (hr:rd s f (.row true) 0 []=some (.bad b)) (W:World):Calls Tryz.prog 95 #[.string s] W fun e W'=>e=.returned (.tuple #[.slice none 0 0,.int .i64 b,.iface 67 (.int .i64 2)])∧KeepO (fun _=>False) W W':=by
 have h1:¬ (100:Int) < (s.size:Int):=by omega
 have iV:∀ (fn:Fn) (first cap:Array Value) (w:World),(Instr.makeFunc fn first cap).run Tryz.prog w=.ok (.func fn first cap) w:=fun _ _ _ _=>rfl
 have hR:RD (W.heap.size+3) (W.heap.size+4) s ((((W.alloc (.cells #[.slice none 0 0] 154)).alloc (.cells #[.int .i64 0] 3)).alloc (.cells #[.nilIface] 27)).alloc (.cells #[.string s,.int .i64 (0:Nat),.slice none 0 0] 182)) 0 (.slice none 0 0) []:=(by refine ⟨?_,⟨rfl,.inl ⟨rfl,rfl⟩⟩,by omega,by simp⟩;have h:=World.alloc_heap_new (((W.alloc (.cells #[.slice none 0 0] 154)).alloc (.cells #[.int .i64 0] 3)).alloc (.cells #[.nilIface] 27)) (.cells #[.string s,.int .i64 (0:Nat),.slice none 0 0] 182);simpa using h);have hc:=(jQ (rb:=W.heap.size+3) (n1:=W.heap.size+4) (s:=s) (by omega) f f (le_refl _)).2.2 _ _ _ _ _ hr hR (zero_le _)
 go_enter_defers Tryz.func95,Tryz.ntmps95
 go_wp2_with (go_at_call 105;go_must (refine hc.mono ?_);rintro e Y ⟨v',rfl,sY⟩)
 obtain ⟨n1,n2,n3,_⟩:=zaa W (.cells #[.slice none 0 0] 154) (.cells #[.int .i64 0] 3) (.cells #[.nilIface] 27) (.cells #[.string s,.int .i64 (0:Nat),.slice none 0 0] 182);have old:∀ {k:Nat} {O:Obj},k < W.heap.size+3->((((W.alloc (.cells #[.slice none 0 0] 154)).alloc (.cells #[.int .i64 0] 3)).alloc (.cells #[.nilIface] 27)).alloc (.cells #[.string s,.int .i64 (0:Nat),.slice none 0 0] 182)).heap[k]? = some O->Y.heap[k]? = some O:=fun {k O} hk h =>
  (sY.block k (by simp;omega) (fun e=>by have:=Option.some.inj e;omega) (fun e=>by cases e)).trans h
 refine leaves_cons (f:=104) (args:=#[.pointer (some ⟨W.heap.size,0,none⟩),.pointer (some ⟨W.heap.size+1,0,none⟩),.pointer (some ⟨W.heap.size+2,0,none⟩)]) (by simp) (by simp[go_sem]) ?_;refine (zc8 W.heap.size b [] Y _ _ _ _ _ _ (old (by omega) n1) (old (by omega) n2) (old (by omega) n3)).mono ?_;rintro e u' lF ⟨rfl,rfl,hk,k1,k2,k3⟩;simp[Leaves,settle,results,Tryz.results95,go_sem,k1,k2,k3];exact jT (yK _ _ _ _ _) sY hk (fun i h=>by omega) (by omega) rfl
def parse_short (s:ByteArray) (hs:s.size<=100) (f i b:Nat) (l:List Ab.Node) (hr:rd s f (.row true) 0 []=some (.ok i b l)) (aq:b < s.size) (W:World):Calls Tryz.prog 95 #[.string s] W fun e W'=>e=.returned (.tuple #[.slice none 0 0,.int .i64 b,.iface 67 (.int .i64 2)])∧KeepO (fun _=>False) W W':=by
 have h2:(b:Int) < (s.size:Int):=by omega
 have h1:¬ (100:Int) < (s.size:Int):=by omega
 have iV:∀ (fn:Fn) (first cap:Array Value) (w:World),(Instr.makeFunc fn first cap).run Tryz.prog w=.ok (.func fn first cap) w:=fun _ _ _ _=>rfl
 have hR:RD (W.heap.size+3) (W.heap.size+4) s ((((W.alloc (.cells #[.slice none 0 0] 154)).alloc (.cells #[.int .i64 0] 3)).alloc (.cells #[.nilIface] 27)).alloc (.cells #[.string s,.int .i64 (0:Nat),.slice none 0 0] 182)) 0 (.slice none 0 0) []:=(by refine ⟨?_,⟨rfl,.inl ⟨rfl,rfl⟩⟩,by omega,by simp⟩;have h:=World.alloc_heap_new (((W.alloc (.cells #[.slice none 0 0] 154)).alloc (.cells #[.int .i64 0] 3)).alloc (.cells #[.nilIface] 27)) (.cells #[.string s,.int .i64 (0:Nat),.slice none 0 0] 182);simpa using h);have hc:=(jQ (rb:=W.heap.size+3) (n1:=W.heap.size+4) (s:=s) (by omega) f f (le_refl _)).2.2 _ _ _ _ _ hr hR (zero_le _);obtain ⟨n1,n2,n3,_⟩:=zaa W (.cells #[.slice none 0 0] 154) (.cells #[.int .i64 0] 3) (.cells #[.nilIface] 27) (.cells #[.string s,.int .i64 (0:Nat),.slice none 0 0] 182)
 have old:∀ {Y:World} {v':Value},Stp (some (W.heap.size+3)) (.slice none 0 0) ((((W.alloc (.cells #[.slice none 0 0] 154)).alloc (.cells #[.int .i64 0] 3)).alloc (.cells #[.nilIface] 27)).alloc (.cells #[.string s,.int .i64 (0:Nat),.slice none 0 0] 182)) Y v' ->
   Y.heap[W.heap.size]? = some (.cells #[.slice none 0 0] 154 (0,0))∧Y.heap[W.heap.size+1]? = some (.cells #[.int .i64 0] 3 (0,0))∧Y.heap[W.heap.size+2]? = some (.cells #[.nilIface] 27 (0,0)):=fun {Y v'} sY=>by
  have go:∀ {k:Nat} {O:Obj},k < W.heap.size+3->((((W.alloc (.cells #[.slice none 0 0] 154)).alloc (.cells #[.int .i64 0] 3)).alloc (.cells #[.nilIface] 27)).alloc (.cells #[.string s,.int .i64 (0:Nat),.slice none 0 0] 182)).heap[k]? = some O->Y.heap[k]? = some O:=fun {k O} hk h =>
   (sY.block k (by simp;omega) (fun e=>by have:=Option.some.inj e;omega) (fun e=>by cases e)).trans h
  exact ⟨go (by omega) n1,go (by omega) n2,go (by omega) n3⟩
 have fz:∀ {W:World} {ob:Nat} {c:Array Value} {T:TypeId},W.heap[ob]? = some (.cells c T (0,0))->W.frozen? ⟨ob,0,none⟩=false:=fun h=>by simp[World.frozen?,h]
 go_enter_defers Tryz.func95,Tryz.ntmps95
 go_wp2_with (go_at_call 105;go_must (refine hc.mono ?_);rintro e Y ⟨v',rfl,hY,hb,sY⟩;have y1:=hY.c1;have y2:=hY.c2;have o:=old sY;have o1:=one_cell o.1;have o2:=one_cell o.2.1;have o3:=one_cell o.2.2;have z1:=fz o.1;have z2:=fz o.2.1;have z3:=fz o.2.2)
 go_region
 all_goals go_wp2
 all_goals
  refine leaves_cons (f:=104) (args:=#[.pointer (some ⟨W.heap.size,0,none⟩),.pointer (some ⟨W.heap.size+1,0,none⟩),.pointer (some ⟨W.heap.size+2,0,none⟩)]) (by simp) (by simp[go_sem]) ?_;refine (zbv _ _ _ _).mono ?_;rintro e u' lF ⟨rfl,rfl,rfl⟩;obtain ⟨q0,q1,q2,q3,qk⟩:=three_set o.1 o.2.1 o.2.2 (.slice none 0 0) (.int .i64 b) (.iface 67 (.int .i64 2));simp[Leaves,settle,results,Tryz.results95,go_sem,q0,q1,q2,q3];exact jT (yK _ _ _ _ _) sY qk (fun i h=>by omega) (by omega) rfl
def zcM {O:Nat->Prop} {a b:World} (h:KeepO (fun _=>False) a b):KeepO O a b:=⟨h.os,h.tape,h.output,h.size,fun k hk _=>h.block k hk fun e=>e⟩
def parse_check (s:ByteArray) (hs:s.size<=100) (f i b:Nat) (l:List Ab.Node) (hr:rd s f (.row true) 0 []=some (.ok i b l)) (aq:s.size<=b) (W:World) (R:Value->Prop) (hR2:∀ u,R u->∃ T x,u=.iface T x)
  (bU:∀ (v:Value) (X:World),KeepO (fun _=>False) W X->qU W.heap.size X v l->Calls Tryz.prog 106 #[v] X fun e w'=>∃ u,e=.returned u∧R u∧KeepO (fun _=>False) X w') :
  Calls Tryz.prog 95 #[.string s] W fun e W'=>∃ u,e=.returned (.tuple #[.slice none 0 0,.int .i64 0,u])∧R u∧KeepO (fun _=>False) W W':=by
 have h2:¬ (b:Int) < (s.size:Int):=by omega
 have h1:¬ (100:Int) < (s.size:Int):=by omega
 have iV:∀ (fn:Fn) (first cap:Array Value) (w:World),(Instr.makeFunc fn first cap).run Tryz.prog w=.ok (.func fn first cap) w:=fun _ _ _ _=>rfl
 have hR:RD (W.heap.size+3) (W.heap.size+4) s ((((W.alloc (.cells #[.slice none 0 0] 154)).alloc (.cells #[.int .i64 0] 3)).alloc (.cells #[.nilIface] 27)).alloc (.cells #[.string s,.int .i64 (0:Nat),.slice none 0 0] 182)) 0 (.slice none 0 0) []:=(by refine ⟨?_,⟨rfl,.inl ⟨rfl,rfl⟩⟩,by omega,by simp⟩;have h:=World.alloc_heap_new (((W.alloc (.cells #[.slice none 0 0] 154)).alloc (.cells #[.int .i64 0] 3)).alloc (.cells #[.nilIface] 27)) (.cells #[.string s,.int .i64 (0:Nat),.slice none 0 0] 182);simpa using h);have hc:=(jQ (rb:=W.heap.size+3) (n1:=W.heap.size+4) (s:=s) (by omega) f f (le_refl _)).2.2 _ _ _ _ _ hr hR (zero_le _);obtain ⟨n1,n2,n3,_⟩:=zaa W (.cells #[.slice none 0 0] 154) (.cells #[.int .i64 0] 3) (.cells #[.nilIface] 27) (.cells #[.string s,.int .i64 (0:Nat),.slice none 0 0] 182)
 have old:∀ {Y:World} {v':Value},Stp (some (W.heap.size+3)) (.slice none 0 0) ((((W.alloc (.cells #[.slice none 0 0] 154)).alloc (.cells #[.int .i64 0] 3)).alloc (.cells #[.nilIface] 27)).alloc (.cells #[.string s,.int .i64 (0:Nat),.slice none 0 0] 182)) Y v' ->
   Y.heap[W.heap.size]? = some (.cells #[.slice none 0 0] 154 (0,0))∧Y.heap[W.heap.size+1]? = some (.cells #[.int .i64 0] 3 (0,0))∧Y.heap[W.heap.size+2]? = some (.cells #[.nilIface] 27 (0,0)):=fun {Y v'} sY=>by
  have go:∀ {k:Nat} {O:Obj},k < W.heap.size+3->((((W.alloc (.cells #[.slice none 0 0] 154)).alloc (.cells #[.int .i64 0] 3)).alloc (.cells #[.nilIface] 27)).alloc (.cells #[.string s,.int .i64 (0:Nat),.slice none 0 0] 182)).heap[k]? = some O->Y.heap[k]? = some O:=fun {k O} hk h =>
   (sY.block k (by simp;omega) (fun e=>by have:=Option.some.inj e;omega) (fun e=>by cases e)).trans h
  exact ⟨go (by omega) n1,go (by omega) n2,go (by omega) n3⟩
 have fz:∀ {W:World} {ob:Nat} {c:Array Value} {T:TypeId},W.heap[ob]? = some (.cells c T (0,0))->W.frozen? ⟨ob,0,none⟩=false:=fun h=>by simp[World.frozen?,h]
 go_enter_defers Tryz.func95,Tryz.ntmps95
 go_wp2_with (first
  | (go_at_call 105;go_must (refine hc.mono ?_);rintro e Y ⟨v',rfl,hY,hb,sY⟩;have y1:=hY.c1;have y2:=hY.c2;have o:=old sY;have o1:=one_cell o.1;have o2:=one_cell o.2.1;have o3:=one_cell o.2.2;have z1:=fz o.1;have z2:=fz o.2.1;have z3:=fz o.2.2)
  | (go_at_call 106;go_must (refine (bU _ _ (jT (yK _ _ _ _ _) sY (.refl (fun _=>False) _) (fun i h=>h.elim) (by omega) rfl) (zeG (zgZ hY.row rfl) (.refl (fun _=>False) _) (fun i h=>h.elim) (by omega))).mono ?_);rintro e X ⟨u,rfl,hu,kX⟩;obtain ⟨T,x,rfl⟩:=hR2 u hu;have p1:=qQ kX o1;have p2:=qQ kX o2;have p3:=qQ kX o3;have f1:=fz ((kX.block _ (Array.getElem?_eq_some_iff.1 o.1).1 (fun e=>e)).trans o.1);have f2:=fz ((kX.block _ (Array.getElem?_eq_some_iff.1 o.2.1).1 (fun e=>e)).trans o.2.1);have f3:=fz ((kX.block _ (Array.getElem?_eq_some_iff.1 o.2.2).1 (fun e=>e)).trans o.2.2)))
 refine leaves_cons (f:=104) (args:=#[.pointer (some ⟨W.heap.size,0,none⟩),.pointer (some ⟨W.heap.size+1,0,none⟩),.pointer (some ⟨W.heap.size+2,0,none⟩)]) (by simp) (by simp[go_sem]) ?_;refine (zbv _ _ _ _).mono ?_;rintro e u' lF ⟨rfl,rfl,rfl⟩;have g1:=(kX.block _ (Array.getElem?_eq_some_iff.1 o.1).1 (fun e=>e)).trans o.1;have g2:=(kX.block _ (Array.getElem?_eq_some_iff.1 o.2.1).1 (fun e=>e)).trans o.2.1;have g3:=(kX.block _ (Array.getElem?_eq_some_iff.1 o.2.2).1 (fun e=>e)).trans o.2.2;obtain ⟨q1,q2,q3,qk⟩:=zcm g1 g2 g3 (.slice none 0 0) (.int .i64 0) (.iface T x);simp[Leaves,settle,results,Tryz.results95,go_sem,q1,q2,q3];exact ⟨hu,jT (yK _ _ _ _ _) sY ((zcM kX).trans qk) (fun i h=>by omega) (by omega) rfl⟩
def parse_done (s:ByteArray) (hs:s.size<=100) (f i b:Nat) (l:List Ab.Node) (hr:rd s f (.row true) 0 []=some (.ok i b l)) (aq:s.size<=b) (W:World)
  (bU:∀ (v:Value) (X:World),KeepO (fun _=>False) W X->qU W.heap.size X v l->Calls Tryz.prog 106 #[v] X fun e w'=>e=.returned .nilIface∧KeepO (fun _=>False) X w') :
  Calls Tryz.prog 95 #[.string s] W fun e W'=>∃ v',e=.returned (.tuple #[v',.int .i64 0,.nilIface])∧qU W.heap.size W' v' l∧KeepO (fun _=>False) W W':=by
 have h2:¬ (b:Int) < (s.size:Int):=by omega
 have h1:¬ (100:Int) < (s.size:Int):=by omega
 have iV:∀ (fn:Fn) (first cap:Array Value) (w:World),(Instr.makeFunc fn first cap).run Tryz.prog w=.ok (.func fn first cap) w:=fun _ _ _ _=>rfl
 have hR:RD (W.heap.size+3) (W.heap.size+4) s ((((W.alloc (.cells #[.slice none 0 0] 154)).alloc (.cells #[.int .i64 0] 3)).alloc (.cells #[.nilIface] 27)).alloc (.cells #[.string s,.int .i64 (0:Nat),.slice none 0 0] 182)) 0 (.slice none 0 0) []:=(by refine ⟨?_,⟨rfl,.inl ⟨rfl,rfl⟩⟩,by omega,by simp⟩;have h:=World.alloc_heap_new (((W.alloc (.cells #[.slice none 0 0] 154)).alloc (.cells #[.int .i64 0] 3)).alloc (.cells #[.nilIface] 27)) (.cells #[.string s,.int .i64 (0:Nat),.slice none 0 0] 182);simpa using h);have hc:=(jQ (rb:=W.heap.size+3) (n1:=W.heap.size+4) (s:=s) (by omega) f f (le_refl _)).2.2 _ _ _ _ _ hr hR (zero_le _);obtain ⟨n1,n2,n3,_⟩:=zaa W (.cells #[.slice none 0 0] 154) (.cells #[.int .i64 0] 3) (.cells #[.nilIface] 27) (.cells #[.string s,.int .i64 (0:Nat),.slice none 0 0] 182)
 have old:∀ {Y:World} {v':Value},Stp (some (W.heap.size+3)) (.slice none 0 0) ((((W.alloc (.cells #[.slice none 0 0] 154)).alloc (.cells #[.int .i64 0] 3)).alloc (.cells #[.nilIface] 27)).alloc (.cells #[.string s,.int .i64 (0:Nat),.slice none 0 0] 182)) Y v' ->
   Y.heap[W.heap.size]? = some (.cells #[.slice none 0 0] 154 (0,0))∧Y.heap[W.heap.size+1]? = some (.cells #[.int .i64 0] 3 (0,0))∧Y.heap[W.heap.size+2]? = some (.cells #[.nilIface] 27 (0,0)):=fun {Y v'} sY=>by
  have go:∀ {k:Nat} {O:Obj},k < W.heap.size+3->((((W.alloc (.cells #[.slice none 0 0] 154)).alloc (.cells #[.int .i64 0] 3)).alloc (.cells #[.nilIface] 27)).alloc (.cells #[.string s,.int .i64 (0:Nat),.slice none 0 0] 182)).heap[k]? = some O->Y.heap[k]? = some O:=fun {k O} hk h =>
   (sY.block k (by simp;omega) (fun e=>by have:=Option.some.inj e;omega) (fun e=>by cases e)).trans h
  exact ⟨go (by omega) n1,go (by omega) n2,go (by omega) n3⟩
 have fz:∀ {W:World} {ob:Nat} {c:Array Value} {T:TypeId},W.heap[ob]? = some (.cells c T (0,0))->W.frozen? ⟨ob,0,none⟩=false:=fun h=>by simp[World.frozen?,h]
 go_enter_defers Tryz.func95,Tryz.ntmps95
 go_wp2_with (first
  | (go_at_call 105;go_must (refine hc.mono ?_);rintro e Y ⟨v',rfl,hY,hb,sY⟩;obtain ⟨va,vm,vc,rfl⟩:=own_slice hY.row;have y1:=hY.c1;have y2:=hY.c2;have o:=old sY;have o1:=one_cell o.1;have o2:=one_cell o.2.1;have o3:=one_cell o.2.2;have z1:=fz o.1;have z2:=fz o.2.1;have z3:=fz o.2.2)
  | (go_at_call 106;go_must (refine (bU _ _ (jT (yK _ _ _ _ _) sY (.refl (fun _=>False) _) (fun i h=>h.elim) (by omega) rfl) (zeG (zgZ hY.row rfl) (.refl (fun _=>False) _) (fun i h=>h.elim) (by omega))).mono ?_);rintro e X ⟨rfl,kX⟩;have r3:=qQ kX hY.c2;have y3:=hY.c2;have p1:=qQ kX o1;have p2:=qQ kX o2;have p3:=qQ kX o3;have f1:=fz ((kX.block _ (Array.getElem?_eq_some_iff.1 o.1).1 (fun e=>e)).trans o.1);have f2:=fz ((kX.block _ (Array.getElem?_eq_some_iff.1 o.2.1).1 (fun e=>e)).trans o.2.1);have f3:=fz ((kX.block _ (Array.getElem?_eq_some_iff.1 o.2.2).1 (fun e=>e)).trans o.2.2)))
 refine leaves_cons (f:=104) (args:=#[.pointer (some ⟨W.heap.size,0,none⟩),.pointer (some ⟨W.heap.size+1,0,none⟩),.pointer (some ⟨W.heap.size+2,0,none⟩)]) (by simp) (by simp[go_sem]) ?_;refine (zbv _ _ _ _).mono ?_;rintro e u' lF ⟨rfl,rfl,rfl⟩;have g1:=(kX.block _ (Array.getElem?_eq_some_iff.1 o.1).1 (fun e=>e)).trans o.1;have g2:=(kX.block _ (Array.getElem?_eq_some_iff.1 o.2.1).1 (fun e=>e)).trans o.2.1;have g3:=(kX.block _ (Array.getElem?_eq_some_iff.1 o.2.2).1 (fun e=>e)).trans o.2.2;obtain ⟨q1,q2,q3,qk⟩:=zcm g1 g2 g3 (.slice va vm vc) (.int .i64 0) .nilIface;simp[Leaves,settle,results,Tryz.results95,go_sem,q1,q2,q3];exact ⟨zeG (zgZ hY.row rfl) ((zcM kX).trans qk) (fun i h=>by omega) (by omega),jT (yK _ _ _ _ _) sY ((zcM kX).trans qk) (fun i h=>by omega) (by omega) rfl⟩
end Go.Proofs.TryzRead
end
