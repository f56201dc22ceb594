import Derived.Test.YtckaniphjiniiaaGreatDoorMQu
import Derived.Test.YtckaniphjiniiaaGreatDoorE1
import Derived.Sort.OwnSortedInts
import Derived.Test.YtckaniphjiniiaaGreatDoorF2
import Derived.Test.YtckaniphjiniiaaGreatDoorHC
set_option linter.all false
noncomputable section
namespace Ab
open Go
section
open Go Go.RowKit
def zdn (N:Nat) (W:World) (v:Value) (l:List Int):Prop:=(l=[]∧(v=.slice none 0 0∨∃a c,v=.slice (some a) 0 c))∨∃b o cap,v=.slice (some ⟨b,o,none⟩) l.length cap∧b<N∧∀j,j<l.length->W.cell? ⟨b,o+j,none⟩=some (.int .i64 (l.getD j 0))
def RowsAt (N:Nat) (W:World) (v:Value) (n:List (List Int)):Prop:=∃b o cap,v=.slice (some ⟨b,o,none⟩) n.length cap∧b<N∧∀k r,n[k]? = some r->∃u,W.cell? ⟨b,o+k,none⟩=some u∧zdn N W u r
def zdn.keep {N:Nat} {W W':World} {v:Value} {l:List Int} (h:zdn N W v l) (hk:∀b,b<N->W'.heap[b]? = W.heap[b]?):zdn N W' v l:=by
 rcases h with h|⟨b,o,cap,h1,h2,h3⟩
 ·exact .inl h
 ·exact .inr ⟨b,o,cap,h1,h2,fun j hj=>(World.cell?_of_block (a:=⟨b,o+j,none⟩) (hk b h2)).trans (h3 j hj)⟩
def zdn.src {P:Program} {t e:TypeId} (ht:P.underlying t=some (.slice e)) {N:Nat} {W:World} {v:Value} {l:List Int} (h:zdn N W v l):Go.Src P 1 t v l.length (l.map (Value.int .i64)) W:=by
 have bh:∀u∈l.map (Value.int .i64),u.oneCell'=true:=fun u hu=>by obtain⟨x,_,rfl⟩:=Al.1 hu;rfl
 rcases h with⟨rfl,rfl|⟨a,c,rfl⟩⟩|⟨b,o,cap,rfl,h2,h3⟩
 ·exact Go.Src.ofNil W ht 0
 ·exact Go.Src.ofSlice W ht a 0 c [] (by simp) (by simp) (by simp)
 ·refine Go.Src.ofSlice W ht ⟨b,o,none⟩ l.length cap _ (by simp) (fun j u hu => ?_) bh;rw[Addr.add_lit];rw[As,Ag] at hu;obtain⟨x,hx,rfl⟩:=hu;have hj:=(Ac.1 hx).1;rw[h3 j hj,An,hx];rfl
structure SmallR (n:List (List Int)) (i:Int):Prop where
 rng:Rng n
 lo:0<=i
 hi:i.toNat<n.length
 len:n.length<=1000
 rows:∀k,(n.getD k []).length<=1000
def ReachAt (S:Seat):Prop:=∀g,ql g S.fns=some 303->∀(n:List (List Int)) (i:Nat) (v:Value) (W:World) (b:Bool),RowsAt W.heap.size W v n->SmallR n i->zgB n i=some b ->
 Calls S.P g #[v,.int .i64 i] W fun e W'=>e=.returned (.bool b)∧KeepO (fun _=>False) W W'
open Classical in
def P303 (n:List (List Int)) (i:Int):Option Bool:=if SmallR n i then zgB n i.toNat else none
def k303:CSpec:=⟨303,[.sl (.sl .int),.int],.bool,fun x=>P303 x.1 x.2,false,[]⟩
def ints_back {S:Seat} {A:Nat->Prop} {N:Nat} {w:World} {l:List Int} {v:Value} (hA:∀b,A b->b<N) (h:VR0 S A w (.sl 1 (l.map fun x=>[aI x])) v):zdn N w v l:=by
 rcases VR.sl_inv (σ:=fun _=>none) (.of0 h) with⟨e,rfl⟩|⟨b,o,cap,u,rfl,h1,h2,h3,h4,h5,h6⟩|⟨e,a,cap,rfl⟩
 ·exact .inl ⟨by simpa using e,.inl rfl⟩
 ·refine .inr ⟨b,o,cap,by rw[Aq],hA b h1,fun j hj => ?_⟩;have hg:=Aa hj;have h7:=h6 j [aI l[j]] 0 (aI l[j]) (by rw[As,hg];rfl) rfl;have h8:=h4 j (by rw[Aq];omega);rw[CM,BF] at h7;rw[h8,VR.v_inv (σ:=fun _=>none) (.of0 h7),An,hg];rfl
 ·exact .inl ⟨by simpa using e,.inr ⟨_,_,rfl⟩⟩
def rows_back {S:Seat} {A:Nat->Prop} {N:Nat} {w:World} {n:List (List Int)} {v:Value} (hA:∀b,A b->b<N) (hn:n≠[]) (h:VR0 S A w (.sl 1 (n.map fun r=>[AV.sl 1 (r.map fun x=>[aI x])])) v):RowsAt N w v n:=by
 rcases VR.sl_inv (σ:=fun _=>none) (.of0 h) with⟨e,rfl⟩|⟨b,o,cap,u,rfl,h1,h2,h3,h4,h5,h6⟩|⟨e,a,cap,rfl⟩
 ·exact absurd (by simpa using e) hn
 ·refine⟨b,o,cap,by rw[Aq],hA b h1,fun k r hr => ?_⟩;have hk:=(Ac.1 hr).1;have h7:=h6 k [AV.sl 1 (r.map fun x=>[aI x])] 0 (AV.sl 1 (r.map fun x=>[aI x])) (by rw[As,hr];rfl) rfl;have h8:=h4 k (by rw[Aq];omega);rw[CM,BF] at h7;exact⟨u k,h8,ints_back hA h7⟩
 ·exact absurd (by simpa using e) hn
def r303 {S:Seat} (h:ReachAt S):Rt S k303:=fun (x:List (List Int)×Int) (y:Bool) hy=>by
 obtain⟨n,i⟩:=x;have hy:P303 n i=some y:=hy;intro g hg;show wY S g [.sl 1 (n.map fun r=>[AV.sl 1 (r.map fun x=>[aI x])]),aI i] (.v (.bool y)) [];unfold P303 at hy;split at hy
 ·rename_i hs;refine zgL (fun A w vs hl hA ha => ?_) (by simp[zG,aI]);obtain⟨x0,x1,rfl⟩:∃x0 x1,vs=#[x0,x1]:=by
   obtain⟨r⟩:=vs
   match r,hl with
   | [x0,x1],_=>exact⟨x0,x1,rfl⟩
  have h0:=ha 0 _ rfl;obtain rfl:x1=.int .i64 i:=VR.v_inv (σ:=fun _=>none) (.of0 (ha 1 _ rfl));have hn:n≠[]:=fun e=>by have:=hs.hi;subst e;simp at this
  have hr:=rows_back (N:=w.heap.size) hA.1 hn h0;have hi:i=((i.toNat:Nat):Int):=by have:=hs.lo;omega
  have:=h g hg n i.toNat x0 w y hr (by rw[←hi];exact hs) hy;rw[←hi] at this;refine this.mono ?_;rintro e W' ⟨rfl,hk⟩;exact⟨_,rfl,hk,fun _=>none,by simp,by simp,rfl,.v _⟩
 ·cases hy
end
section
open Go Go.RowKit Go.Sort Go.Proofs
def fD (l:List Int):List Int:=l.mergeSort fun x y=>decide (x<=y)
def gE (l:List Int):List Int:=Lib.compact l
def yX (l:List Int):(fD l).length=l.length:=by unfold fD;rw[List.length_mergeSort]
def SortIAt (S:Seat):Prop:=∀g,ql g S.fns=some 213 ->
 (∀(blk cap:Nat) (ss:List Int) (w:World),Holds (Value.int .i64) w blk 0 ss.toArray->blk<w.heap.size->ss.length<4611686018427387904 ->
  Calls S.P g #[.slice (some ⟨blk,0,none⟩) ss.length cap] w fun e w'=>e=.returned (.tuple #[])∧∃n os,w'=grow (putRow (Value.int .i64) (Sort.ahead w n) blk 0 (ss.mergeSort fun x y=>decide (x<=y)).toArray) os) ∧
 ∀(p:Option Addr) (cap:Nat) (w:World),Calls S.P g #[.slice p 0 cap] w fun e w'=>e=.returned (.tuple #[])∧w'=w
def CompIAt (S:Seat):Prop:=∀g,ql g S.fns=some 302 ->
 (∀(blk cap:Nat) (zs:List Int) (w:World),Holds (Value.int .i64) w blk 0 zs.toArray->zs.length<=9223372036854775807->zs.length<=cap ->
  Calls S.P g #[.slice (some ⟨blk,0,none⟩) zs.length cap] w fun e w'=>e=.returned (.slice (some ⟨blk,0,none⟩) (Lib.compact zs).length cap) ∧
   ∃q,w'=putRow (Value.int .i64) (Sort.ahead w q) blk 0 (Lib.compact zs++List.replicate (zs.length-(Lib.compact zs).length) 0).toArray) ∧
 ∀(a:Option Addr) (cap:Nat) (w:World),Calls S.P g #[.slice a 0 cap] w fun e w'=>e=.returned (.slice a 0 cap)∧w'=w
def zio {S:Seat} {A:Nat->Prop} {w:World} {b cap:Nat} {cur:Array Value} {el:TypeId} {zs:List Int} (hb:w.heap[b]? = some (.cells cur el (0,0))) (ht:cur.toList.take zs.length=zs.map (Value.int .i64)) (h1:zs.length<=cap) (h2:cap<=maxLen) (h3:cap<=cur.size) :
  qx S A w (some b) 1 (zs.map fun s=>[aI s]) (.slice (some ⟨b,0,none⟩) zs.length cap):=by
 have hl:(zs.map fun s=>[aI s]).length=zs.length:=by simp
 have aZ:∀j,j<zs.length->cur.getD j undef=(Value.int .i64) (zs[j]?.getD 0):=fun j hj=>by
  have h4:(cur.toList.take zs.length)[j]? = (zs.map (Value.int .i64))[j]?:=by rw[ht]
  rw[A8 hj,BK,As] at h4;rw[Ao,h4,Aa hj];rfl
 refine⟨fun e he => ?_,.inr ⟨b,cap,cur,el,rfl,by rw[hl],by rw[hl];exact h1,h2,hb,by omega,fun j hj => ?_,fun i e c x hi hc => ?_⟩⟩
 ·obtain⟨s,_,rfl⟩:=Al.1 he;rfl
 ·rw[hl] at hj;rw[aZ j (by omega)];rfl
 ·have aQ:i<zs.length:=by have:=(Ac.1 hi).1;omega
  rw[As,Aa aQ] at hi;cases hi
  match c,hc with
  | 0,hc =>cases hc;rw[CM,BF,aZ i aQ,Aa aQ];exact .v _
  | c+1,hc=>simp at hc
def zfU {S:Seat} {A:Nat->Prop} {w:World} {b?:Option Nat} {l:List Int} {v:Value} (h:qx S A w b? 1 (l.map fun s=>[aI s]) v) :
  (b? = none∧l=[]∧v=.slice none 0 0)∨∃b cap cur el,b? = some b∧v=.slice (some ⟨b,0,none⟩) l.length cap∧l.length<=cap∧cap<=maxLen∧w.heap[b]? = some (.cells cur el (0,0))∧cap<=cur.size∧cur.toList.take l.length=l.map (Value.int .i64):=by
 obtain⟨_,⟨h1,h2,h3⟩|⟨b,cap,cur,el,h1,h2,h3,h4,h5,h6,h7,h8⟩⟩:=h
 ·exact .inl ⟨h1,by simpa using h2,h3⟩
 ·have hl:(l.map fun s=>[aI s]).length=l.length:=by simp[]
  rw[hl] at h2 h3 h7;refine .inr ⟨b,cap,cur,el,h1,h2,h3,h4,h5,by omega, ?_⟩;apply C2;intro j;by_cases hj:j<l.length
  ·have bA:j<l.length:=by rw[] at hj;exact hj
   rw[A8 hj,BK,As,Aa bA];have:=h8 j [aI l[j]] 0 (aI l[j]) (by rw[As,Aa bA];rfl) rfl;rw[CM,BF] at this;have e:=VR.v_inv (σ:=fun _=>none) (.of0 this);have hs:j<cur.size:=by omega
   rw[Ao,Bh hs] at e;rw[Bh hs];exact congrArg some e
  ·rw[List.getElem?_take_eq_none (by omega),Bu (by simp;omega)]
def zdf {w w':World} {ι:Nat->Option Nat} {b:Nat} (h:w.grownBy w' (some b)) (hb:ι 0=some b):KeepO (zbc ι) w w' :=
 ⟨h.os,h.tape,h.output,h.size,fun k hk hn=>h.block k hk fun e=>hn ⟨0,by rw[hb,Option.some.inj e]⟩⟩
def P213 (l:List Int):Option (List Int):=ck (decide (List.length l<=zC)) (some (fD l))
def k213:CSpec:=⟨213,[.own .int],.own .int,fun x=>P213 x,false,[0]⟩
def r213 {S:Seat} (h:SortIAt S):Rt S k213:=fun (l:List Int) (y:List Int) hy=>by
 obtain⟨h1,h2⟩:=qG (show P213 l=some y from hy);have h1:=of_decide_eq_true h1;obtain rfl:=Option.some.inj h2;show (zb S).ret 213 [.own 1 (l.map fun s=>[aI s])] (.tup []) [(0,(fD l).map fun s=>[aI s])];intro g hg;refine zgm.up ?_;intro A w vs ι hl hA hι hargs;obtain⟨hS,hN⟩:=h g hg;obtain⟨x0,rfl⟩:∃x0,vs=#[x0]:=by
  obtain⟨r⟩:=vs
  match r,hl with
  | [x0],_=>exact⟨x0,rfl⟩
 have h0:qx S A w (ι 0) 1 (l.map fun s=>[aI s]) x0:=hargs 0 _ rfl;have cq:∀i b,ι i=some b->i=0:=fun i b hb=>by have:=(hι.1 i b hb).1;simp at this;omega
 rcases zfU h0 with⟨b1,rfl,rfl⟩|⟨b,cap,cur,el,b1,rfl,b3,b4,b5,b6,b7⟩
 ·refine (hN none 0 w).mono ?_;rintro e w' ⟨rfl,rfl⟩;refine⟨_,rfl,KeepO.refl _ _,fun _=>none,by simp,by simp,fun i es z bm hm ha => ?_,⟨#[],rfl,rfl,by simp⟩⟩;obtain⟨rfl,rfl⟩:=Prod.mk.inj (Ah.1 hm);cases ha;refine⟨by simp[fD], ?_,fun b cs el hb=>by rw[b1] at hb;cases hb⟩;rw[b1];exact⟨by simp[fD],.inl ⟨rfl,by simp[fD],rfl⟩⟩
 ·have hH:Holds (Value.int .i64) w b 0 l.toArray:=holds_of_blockI b5 b7;have aj:b<w.heap.size:=(Bs.1 b5).1;refine (hS b cap l w hH aj (by rw[];unfold zC at h1;omega)).mono ?_;rintro e w' ⟨rfl,n,os,rfl⟩;have mu:=grownBy_sortedI (w:=w) (g:=b) (n:=n) (os:=os) (l.mergeSort fun x y=>decide (x<=y)).toArray;have cO:=heap_sortedI (n:=n) (os:=os) (l.mergeSort fun x y=>decide (x<=y)).toArray b5;have hml:(l.mergeSort fun x y=>decide (x<=y)).length=l.length:=List.length_mergeSort ..;refine⟨_,rfl,zdf mu b1,fun _=>none,by simp,by simp,fun i es z bm hm ha => ?_,⟨#[],rfl,rfl,by simp⟩⟩;obtain⟨rfl,rfl⟩:=Prod.mk.inj (Ah.1 hm);cases ha;refine⟨by simp[yX], ?_,fun b' cs bT hb hc => ?_⟩
  ·rw[b1];have:=zio (S:=S) (A:=qy (fun b=>A b∨ym ι [(0,(fD l).map fun s=>[aI s])] b) (fun _=>none) w (grow (putRow (Value.int .i64) (Sort.ahead w n) b 0 (l.mergeSort fun x y=>decide (x<=y)).toArray) os)) cO (zs:=l.mergeSort fun x y=>decide (x<=y)) (cap:=cap) (take_putCellsI cur _ (by omega)) (by omega) b4 (by simpa[putCells] using b6);rw[hml] at this;exact this
  ·rw[b1] at hb;obtain rfl:=Option.some.inj hb;rw[b5] at hc;cases hc;exact⟨_,cO,by simp[putCells]⟩
def P302 (l:List Int):Option (List Int):=ck (decide (List.length l<=zC)) (some (gE l))
def k302:CSpec:=⟨302,[.own .int],.own .int,fun x=>P302 x,false,[1000]⟩
def r302 {S:Seat} (h:CompIAt S):Rt S k302:=fun (l:List Int) (y:List Int) hy=>by
 obtain⟨h1,h2⟩:=qG (show P302 l=some y from hy);have h1:=of_decide_eq_true h1;obtain rfl:=Option.some.inj h2;show (zb S).ret 302 [.own 1 (l.map fun s=>[aI s])] (.own 1 ((gE l).map fun s=>[aI s])) [];intro g hg;refine zgm.up ?_;intro A w vs ι hl hA hι hargs;obtain⟨hS,hN⟩:=h g hg;obtain⟨x0,rfl⟩:∃x0,vs=#[x0]:=by
  obtain⟨r⟩:=vs
  match r,hl with
  | [x0],_=>exact⟨x0,rfl⟩
 have h0:qx S A w (ι 0) 1 (l.map fun s=>[aI s]) x0:=hargs 0 _ rfl;rcases zfU h0 with⟨b1,rfl,rfl⟩|⟨b,cap,cur,el,b1,rfl,b3,b4,b5,b6,b7⟩
 ·refine (hN none 0 w).mono ?_;rintro e w' ⟨rfl,rfl⟩;refine⟨_,rfl,KeepO.refl _ _,fun _=>none,by simp,by simp,(fun i es z bm hm=>by cases hm), ?_⟩;have e0:gE []=[]:=by simp[gE,Lib.compact,Lib.compactUpTo]
  rw[e0];exact⟨by simp,.inl ⟨rfl,rfl,rfl⟩⟩
 ·have hH:Holds (Value.int .i64) w b 0 l.toArray:=holds_of_blockI b5 b7;have aj:b<w.heap.size:=(Bs.1 b5).1;have hle:(Lib.compact l).length<=l.length:=(by unfold Lib.compact Lib.compactUpTo;rw[Aq];exact AD (BR _ _) (by simp));refine (hS b cap l w hH (by rw[];unfold zC at h1;omega) b3).mono ?_;rintro e w' ⟨rfl,q,rfl⟩;generalize kQ:Lib.compact l++List.replicate (l.length-(Lib.compact l).length) 0=zz;have nv:zz.length=l.length:=by rw[←kQ];simp;omega
  have mu:=grownBy_sortedI (w:=w) (g:=b) (n:=q) (os:=#[]) zz.toArray;have cO:=heap_sortedI (n:=q) (os:=#[]) zz.toArray b5;rw[grow_empty] at mu cO;have ht:=take_putCellsI cur zz (by omega);have ht2:(putCells (Value.int .i64) 0 zz.toArray cur).toList.take (Lib.compact l).length=(Lib.compact l).map (Value.int .i64):=by
   have:(putCells (Value.int .i64) 0 zz.toArray cur).toList.take (Lib.compact l).length=((putCells (Value.int .i64) 0 zz.toArray cur).toList.take zz.length).take (Lib.compact l).length:=by rw[Dr,Nat.min_eq_left (by omega)]
   rw[this,ht,←kQ,Bc];exact Dj (by simp)
  have hβ:∀i b',(if i=0 then some b else none)=some b'->i=0∧b'=b:=fun i b' h=>by
   split at h
   ·rename_i e;cases h;exact⟨e,rfl⟩
   ·cases h
  refine⟨_,rfl,zdf mu b1,fun i=>if i=0 then some b else none,fun i b' lg => ?_,fun i j b' hi hj=>(hβ i b' hi).1.trans (hβ j b' hj).1.symm,(fun i es z bm hm=>by cases hm), ?_⟩
  ·obtain⟨_,rfl⟩:=hβ i b' lg;exact⟨.inr ⟨0,b1,fun es=>by simp⟩,AE aj mu.size⟩
  ·show qx S _ _ (some b) 1 ((Lib.compact l).map fun s=>[aI s]) _;exact zio cO ht2 (by omega) b4 (by simpa[putCells] using b6)
end
section
set_option maxRecDepth 100000
section
variable (F14:LD->(Option (Int×Int×Err))) (F15:Dim->(Option (Int×Err))) (F213:LI->(Option LI)) (F248:ByteArray->(Option (LN×Int×Err))) (F302:LI->(Option LI)) (F303:(List LI)->Int->(Option Bool)) (F315:Dim->(Option (Int×Err))) (F320:LD->(Option (Int×Int×Err))) (F340:Dim->(Option ((List LI)×Int×Err))) (F341:(List LI)->(Option LI)) (F345_358:LI->(List Bool)->(Option Bool)) (F355:Dim->Int->(Option ((Option LN)×Err))) (F356:Dim->Int->(Option LN)->(Option LI)) (F357:LI->Int->(Option Bool)) (F358:Int->(List Bool)->(Option Bool)) (F359_358:LI->(List Bool)->(Option Int)) (F362:LI->Int->(Option Int)) (F37:LM->ByteArray->(Option Int)) (F47:Dim->Int->(Option LI))
def tc355:TCode:=.seq (rg [oq 2 (.box 0),om 4 cn,om 5 cz]) (.seq (.seq (rg [oq 9 (.fa 2 2),oq 10 (Ld 9),om 11 1,oq 12 (.ia 4 10 11),oq 13 (.fa 3 12),oq 14 (Ld 13),oq 15 (.bin .str .eql 14 (cs ⟨#[]⟩))]) (.cond 15 (.seq (rg [om 4 cn,om 5 cz]) .ret) .skip)) (.seq (rg [oq 17 (.fa 2 2),oq 18 (Ld 17),om 19 1,oq 20 (.ia 4 18 19),oq 21 (.fa 3 20),oq 22 (Ld 21),oq 23 (.call true [] 248 [22]),om 16 23,oq 24 (.ext 16 0),oq 25 (.ext 16 1),oq 26 (.ext 16 2),om 6 24,om 7 25,om 8 26]) (.seq (rg [om 27 6,om 28 8,om 4 27,om 5 28]) .ret))) 
def tf355:TFunc:=⟨2,29,[.tmp 4,.tmp 5],false,tc355,[]⟩
def S355 (a0:Dim) (a1:Int):Option ((Option LN)×Err) :=
 bno (zu (Dim.members a0) a1) fun y1 =>
 br (decide ((Member.formula y1)=(⟨#[]⟩:ByteArray)))
 (some (none,Err.nil))
 (bno (zu (Dim.members a0) a1) fun y2 =>
 bno (F248 (Member.formula y2)) fun y3 =>
 some (some y3.1,y3.2.2))
def zmQ:=S355 P248
def k355:CSpec:=⟨355,[(.st .dim),.int],(.tp [(.ns .node),.err]),fun x=>zmQ x.1 x.2,false,[]⟩
def r355 {S:Seat} (h:Ok1 S 355 tf355):RtF S [k248] (Rt S k355):=okr h
def tc362:TCode:=.seq (rg [om 4 (ci 0)]) (.seq (.seq (rg [om 6 0,oq 7 (Ln 6),om 8 (ci 0)]) (.loop ⟨[.slot 8 .int],[5,9,10,11,12,13,14,15,16,18],[],[]⟩ 0 (.seq (rg [oq 9 (Bi .lss 8 7)]) (.seq (.cond 9 .skip (.exit 0)) (.seq (.block 1 (.seq (rg [om 10 8,om 5 10]) (.seq (rg [om 11 1,om 12 0,om 13 5,oq 14 (.ia 1 12 13),oq 15 (Ld 14),oq 16 (Bi .eql 11 15)]) (.cond 16 (.seq (rg [om 17 5,om 4 17]) .ret) .skip)))) (rg [oq 18 (Bi .add 8 (ci 1)),om 8 18])))))) (.seq (rg [om 4 (ci (-1))]) .ret)) 
def tf362:TFunc:=⟨2,19,[.tmp 4],false,tc362,[]⟩
def zkz (a0:LI) (a1:Int) (x1:Int):Option (LR Int Int) :=
 br (decide (x1<(a0.length:Int)))
 (bno (zu a0 x1) fun y2 =>
 br (decide (a1=y2))
 (yk (some x1))
 (nxO (some (wi (x1+(1:Int))))))
 (dnO (some x1))
def S362 (a0:LI) (a1:Int):Option Int :=
 lp (zkz a0 a1) (0:Int) fun x3 =>
 some (-1:Int)
def P362:=S362
def k362:CSpec:=⟨362,[(.sl .int),.int],.int,fun x=>P362 x.1 x.2,false,[]⟩
def r362 {S:Seat} (h:Ok1 S 362 tf362):RtF S [] (Rt S k362):=okr h
def tc357:TCode:=.seq (rg [om 4 (cb false)]) (.seq (rg [om 5 0,om 6 1,oq 7 (Cl 362 [5,6]),oq 8 (Bi .geq 7 (ci 0)),om 4 8]) .ret) 
def tf357:TFunc:=⟨2,9,[.tmp 4],false,tc357,[]⟩
def S357 (a0:LI) (a1:Int):Option Bool :=
 bno (F362 a0 a1) fun y1 =>
 some (decide ((0:Int)<=y1))
def P357:=S357 P362
def k357:CSpec:=⟨357,[(.sl .int),.int],.bool,fun x=>P357 x.1 x.2,false,[]⟩
def r357 {S:Seat} (h:Ok1 S 357 tf357):RtF S [k362] (Rt S k357):=okr h
def tc356:TCode:=.seq (rg [oq 3 (.box 0),om 6 cn]) (.seq (.seq (rg [om 11 2,oq 12 (Ln 11),om 13 (ci 0)]) (.loop ⟨[.row 6 27 .int,.slot 13 .int],[8,14,15,16,17,18,19,20,21,22,23,24,25,26,27,28],[8,26],[]⟩ 0 (.seq (rg [oq 14 (Bi .lss 13 12)]) (.seq (.cond 14 .skip (.exit 0)) (.seq (.block 1 (.seq (rg [oq 15 (.ia 5 11 13),oq 16 (.load (some 5) 15),oq 8 (.alloc [.int .i64 0,.int .i64 0,.string ⟨#[]⟩,.int .i64 0,.int .i64 0]),on (.store 5 8 16)]) (.seq (rg [oq 17 (.fa 0 8),oq 18 (Ld 17),oq 19 (Bi .eql 18 (ci 2))]) (.condJ ⟨[.row 6 27 .int],[20,21,22,23,24,25,26,27],[26],[]⟩ 19 (rg [om 20 6,oq 21 (.fa 2 3),oq 22 (Ld 21),oq 23 (.fa 2 8),oq 24 (Ld 23),oq 25 (Cl 37 [22,24]),oq 26 (.bslice false 1 [.int .i64 0] 1 [(0,25)]),oq 27 (.app 1 20 26),om 6 27]) .skip)))) (rg [oq 28 (Bi .add 13 (ci 1)),om 13 28])))))) (.seq (.seq (rg [om 29 2,oq 30 (.eqn true false 29)]) (.condJ ⟨[.row 6 27 .int],[10,31,32,33,34,35,36,37,38,39,40,41,42,43,44,45,46,47,48,49,50],[48],[]⟩ 30 (.seq (rg [oq 31 (.load (some 3) 3),om 32 1,oq 33 (.call true [] 47 [31,32]),oq 34 (Ln 33),om 35 (ci 0)]) (.loop ⟨[.row 6 27 .int,.slot 35 .int],[10,36,37,38,39,40,41,42,43,44,45,46,47,48,49,50],[48],[]⟩ 2 (.seq (rg [oq 36 (Bi .lss 35 34)]) (.seq (.cond 36 .skip (.exit 2)) (.seq (.block 3 (.seq (rg [oq 37 (.ia 1 33 35),oq 38 (Ld 37),om 10 38]) (.seq (rg [oq 39 (.fa 2 3),oq 40 (Ld 39),om 41 10,oq 42 (.ia 4 40 41),oq 43 (.fa 2 42),oq 44 (Ld 43),oq 45 (Bi .neq 44 (ci 0))]) (.condJ ⟨[.row 6 27 .int],[46,47,48,49],[48],[]⟩ 45 (rg [om 46 6,om 47 10,oq 48 (.bslice false 1 [.int .i64 0] 1 [(0,47)]),oq 49 (.app 1 46 48),om 6 49]) .skip)))) (rg [oq 50 (Bi .add 35 (ci 1)),om 35 50])))))) .skip)) (.seq (rg [om 51 6,oq 52 (.call false [0] 213 [51])]) (.seq (rg [om 53 6,oq 54 (.call true [1000] 302 [53]),om 6 54]) .ret)))) 
def tf356:TFunc:=⟨3,55,[.tmp 6],false,tc356,[]⟩
def zfi (a0:Dim) (a2:(Option LN)) (x1:(LI×Int)):Option (LR (LI×Int) LI) :=
 br (decide (x1.2<((Option.getD a2 ([])).length:Int)))
 (bno (zu (Option.getD a2 ([])) x1.2) fun y2 =>
 jn (σ:=(List Int)) (α:=(LR ((List Int)×Int) (List Int))) (br (decide ((Node.op y2)=(2:Int)))
 (bno (F37 (Dim.members a0) (Node.name y2)) fun y3 =>
 ck (decide (List.length x1.1+List.length ([y3]:List Int)<=zC)) <|
 zt (some (x1.1++([y3]:List Int))))
 (zt (some x1.1))) fun x4 =>
 nxO (some (x4,wi (x1.2+(1:Int)))))
 (dnO (some (x1.1,x1.2)))
def zfh (a0:Dim) (y6:LI) (x7:(LI×Int)):Option (LR (LI×Int) (Sum LI LI)) :=
 br (decide (x7.2<(y6.length:Int)))
 (bno (zu y6 x7.2) fun y8 =>
 bno (zu (Dim.members a0) y8) fun y9 =>
 jn (σ:=(List Int)) (α:=(LR ((List Int)×Int) (Sum (List Int) (List Int)))) (br (decide (¬(Member.sign y9)=(0:Int)))
 (ck (decide (List.length x7.1+List.length ([y8]:List Int)<=zC)) <|
 zt (some (x7.1++([y8]:List Int))))
 (zt (some x7.1))) fun bn =>
 nxO (some (bn,wi (x7.2+(1:Int)))))
 (dnO (some (x7.1,x7.2)))
def S356 (a0:Dim) (a1:Int) (a2:(Option LN)):Option LI :=
 lp (zfi F37 a0 a2) (([]:List Int),(0:Int)) fun x5 =>
 ck (match (a2:Option (List Node)) with|some xs => !xs.isEmpty|none=>true) <|
 jn (σ:=(List Int)) (α:=(List Int)) (br (Option.isNone a2)
 (bno (F47 a0 a1) fun y6 =>
 lp (zfh a0 y6) (x5.1,(0:Int)) fun bY =>
 zt (some bY.1))
 (zt (some x5.1))) fun bC =>
 bno (F213 bC) fun cj =>
 ck (decide (List.length cj=List.length bC)) <|
 bno (F302 cj) fun cM =>
 some cM
def P356:=S356 P213 P302 P37 P47
def k356:CSpec:=⟨356,[(.st .dim),.int,(.ns .node)],(.sl .int),fun x=>P356 x.1 x.2.1 x.2.2,false,[]⟩
def r356 {S:Seat} (h:Ok1 S 356 tf356):RtF S [k213,k302,k37,k47] (Rt S k356):=okr h
def tc340:TCode:=.seq (rg [oq 1 (.box 0),om 2 cn,om 3 (ci 0),om 4 cz]) (.seq (.seq (rg [oq 14 (.load (some 3) 1),oq 15 (Cl 15 [14]),om 13 15,oq 16 (.ext 13 0),oq 17 (.ext 13 1),om 5 16,om 6 17]) (.seq (rg [om 18 6,oq 19 (.eqn false true 18)]) (.cond 19 (.seq (rg [om 20 5,om 21 6,om 2 cn,om 3 20,om 4 21]) .ret) .skip))) (.seq (rg [om 7 cn]) (.seq (.seq (rg [oq 22 (.fa 2 1),oq 23 (Ld 22),oq 24 (Ln 23),om 25 (ci 0)]) (.loop ⟨[.row 7 49 (.sl .int),.slot 25 .int],[8,9,10,11,26,27,28,29,30,31,32,33,34,35,38,39,40,41,42,43,46,47,48,49,50],[48],[]⟩ 0 (.seq (rg [oq 26 (Bi .lss 25 24)]) (.seq (.cond 26 .skip (.exit 0)) (.seq (.block 1 (.seq (rg [om 27 25,om 8 27]) (.seq (rg [oq 29 (.load (some 3) 1),om 30 8,oq 31 (.call true [] 355 [29,30]),om 28 31,oq 32 (.ext 28 0),oq 33 (.ext 28 1),om 9 32,om 10 33]) (.seq (.seq (rg [om 34 10,oq 35 (.eqn false true 34)]) (.cond 35 (.seq (rg [om 36 8,om 37 10,om 2 cn,om 3 36,om 4 37]) .ret) .skip)) (.seq (rg [oq 38 (.load (some 3) 1),om 39 8,om 40 9,oq 41 (.call true [] 356 [38,39,40]),om 11 41]) (.seq (.seq (rg [om 42 11,oq 43 (Cl 357 [42,(ci (-1))])]) (.cond 43 (.seq (rg [om 44 8,oq 45 (.ifc 1 (ci 5)),om 2 cn,om 3 44,om 4 45]) .ret) .skip)) (.region [om 46 7,om 47 11,oq 48 (.bslice true 1 [.slice none 0 0] 1 [(0,47)]),oq 49 (.app 1 46 48),om 7 49] [.int,.int,(.sl .int),(.sl .int)] false))))))) (rg [oq 50 (Bi .add 25 (ci 1)),om 25 50])))))) (.seq (.seq (rg [oq 51 (.fa 2 1),oq 52 (Ld 51),oq 53 (Ln 52),om 54 (ci 0)]) (.loop ⟨[.slot 54 .int],[12,55,56,57,58,59,62],[],[]⟩ 2 (.seq (rg [oq 55 (Bi .lss 54 53)]) (.seq (.cond 55 .skip (.exit 2)) (.seq (.block 3 (.seq (rg [om 56 54,om 12 56]) (.seq (rg [om 57 7,om 58 12,oq 59 (Cl 303 [57,58])]) (.cond 59 (.seq (rg [om 60 12,oq 61 (.ifc 1 (ci 8)),om 2 cn,om 3 60,om 4 61]) .ret) .skip)))) (rg [oq 62 (Bi .add 54 (ci 1)),om 54 62])))))) (.seq (rg [om 63 7,om 2 63,om 3 (ci (-1)),om 4 cz]) .ret))))) 
def tf340:TFunc:=⟨1,64,[.tmp 2,.tmp 3,.tmp 4],false,tc340,[]⟩
def zhP (a0:Dim) (x2:((List LI)×Int)):Option (LR ((List LI)×Int) ((List LI)×Int×Err)) :=
 br (decide (x2.2<((Dim.members a0).length:Int)))
 (bno (F355 a0 x2.2) fun y3 =>
 br (!(Err.isNil y3.2))
 (yk (some (([]:List (List Int)),x2.2,y3.2)))
 (bno (F356 a0 x2.2 y3.1) fun y4 =>
 bno (F357 y4 (-1:Int)) fun y5 =>
 br y5
 (yk (some (([]:List (List Int)),x2.2,Err.no (5:Int))))
 (ck (decide (List.length x2.1+List.length ([y4]:List (List Int))<=zC)) <|
 nxO (some (x2.1++([y4]:List (List Int)),wi (x2.2+(1:Int)))))))
 (dnO (some (x2.1,x2.2)))
def zhO (a0:Dim) (x6:((List LI)×Int)) (x7:Int):Option (LR Int ((List LI)×Int×Err)) :=
 br (decide (x7<((Dim.members a0).length:Int)))
 (bno (F303 x6.1 x7) fun y8 =>
 br y8
 (yk (some (([]:List (List Int)),x7,Err.no (8:Int))))
 (nxO (some (wi (x7+(1:Int))))))
 (dnO (some x7))
def S340 (a0:Dim):Option ((List LI)×Int×Err) :=
 bno (F15 a0) fun y1 =>
 br (!(Err.isNil y1.2))
 (some (([]:List (List Int)),y1.1,y1.2))
 (lp (zhP F355 F356 F357 a0) (([]:List (List Int)),(0:Int)) fun x6 =>
 lp (zhO F303 a0 x6) (0:Int) fun x9 =>
 some (x6.1,(-1:Int),Err.nil))
def P340:=S340 P15 P303 zmQ P356 P357
def k340:CSpec:=⟨340,[(.st .dim)],(.tp [(.sl (.sl .int)),.int,.err]),fun x=>P340 x,false,[]⟩
def r340 {S:Seat} (h:Ok1 S 340 tf340):RtF S [k15,k303,k355,k356,k357] (Rt S k340):=okr h
def tc315:TCode:=.seq (rg [oq 1 (.box 0),om 2 (ci 0),om 3 cz]) (.seq (rg [oq 8 (.load (some 3) 1),oq 9 (.call true [] 340 [8]),om 7 9,oq 10 (.ext 7 0),oq 11 (.ext 7 1),oq 12 (.ext 7 2),om 4 10,om 5 11,om 6 12]) (.seq (rg [om 13 5,om 14 6,om 2 13,om 3 14]) .ret)) 
def tf315:TFunc:=⟨1,15,[.tmp 2,.tmp 3],false,tc315,[]⟩
def S315 (a0:Dim):Option (Int×Err) :=
 bno (F340 a0) fun y1 =>
 some (y1.2.1,y1.2.2)
def P315:=S315 P340
def k315:CSpec:=⟨315,[(.st .dim)],(.tp [.int,.err]),fun x=>P315 x,false,[]⟩
def r315 {S:Seat} (h:Ok1 S 315 tf315):RtF S [k340] (Rt S k315):=okr h
def tc320:TCode:=.seq (rg [oq 1 (.box 0),om 2 (ci 0),om 3 (ci 0),om 4 cz]) (.seq (.seq (rg [oq 13 (.load (some 1) 1),oq 14 (Cl 14 [13]),om 12 14,oq 15 (.ext 12 0),oq 16 (.ext 12 1),oq 17 (.ext 12 2),om 5 15,om 6 16,om 7 17]) (.seq (rg [om 18 7,oq 19 (.eqn false true 18)]) (.cond 19 (.seq (rg [om 20 5,om 21 6,om 22 7,om 2 20,om 3 21,om 4 22]) .ret) .skip))) (.seq (.seq (rg [oq 23 (.fa 0 1),oq 24 (Ld 23),oq 25 (Ln 24),om 26 (ci 0)]) (.loop ⟨[.slot 26 .int],[8,9,10,11,27,28,29,30,31,32,33,34,35,36,37,41],[9],[]⟩ 0 (.seq (rg [oq 27 (Bi .lss 26 25)]) (.seq (.cond 27 .skip (.exit 0)) (.seq (.block 1 (.seq (rg [om 28 26,oq 29 (.ia 3 24 26),oq 30 (.load (some 3) 29),oq 9 (.alloc [.string ⟨#[]⟩,.int .i64 0,.slice none 0 0]),om 8 28,on (.store 3 9 30)]) (.seq (rg [oq 32 (.load (some 3) 9),oq 33 (Cl 315 [32]),om 31 33,oq 34 (.ext 31 0),oq 35 (.ext 31 1),om 10 34,om 11 35]) (.seq (rg [om 36 11,oq 37 (.eqn false true 36)]) (.cond 37 (.seq (rg [om 38 8,om 39 10,om 40 11,om 2 38,om 3 39,om 4 40]) .ret) .skip))))) (rg [oq 41 (Bi .add 26 (ci 1)),om 26 41])))))) (.seq (rg [om 2 (ci (-1)),om 3 (ci (-1)),om 4 cz]) .ret))) 
def tf320:TFunc:=⟨1,42,[.tmp 2,.tmp 3,.tmp 4],false,tc320,[]⟩
def zhQ (a0:LD) (x2:Int):Option (LR Int (Int×Int×Err)) :=
 br (decide (x2<(a0.length:Int)))
 (bno (zu a0 x2) fun y3 =>
 bno (F315 y3) fun y4 =>
 br (!(Err.isNil y4.2))
 (yk (some (x2,y4.1,y4.2)))
 (nxO (some (wi (x2+(1:Int))))))
 (dnO (some x2))
def S320 (a0:LD):Option (Int×Int×Err) :=
 bno (F14 a0) fun y1 =>
 br (!(Err.isNil y1.2.2))
 (some (y1.1,y1.2.1,y1.2.2))
 (lp (zhQ F315 a0) (0:Int) fun x5 =>
 some ((-1:Int),(-1:Int),Err.nil))
def P320:=S320 P14 P315
def k320:CSpec:=⟨320,[(.st .outl)],(.tp [.int,.int,.err]),fun x=>P320 x,false,[]⟩
def r320 {S:Seat} (h:Ok1 S 320 tf320):RtF S [k14,k315] (Rt S k320):=okr h
def tc352:TCode:=.seq (rg [oq 1 (.box 0),om 2 cz]) (.seq (rg [oq 7 (.load (some 1) 1),oq 8 (Cl 320 [7]),om 6 8,oq 9 (.ext 6 0),oq 10 (.ext 6 1),oq 11 (.ext 6 2),om 3 9,om 4 10,om 5 11]) (.seq (rg [om 12 5,om 2 12]) .ret)) 
def tf352:TFunc:=⟨1,13,[.tmp 2],false,tc352,[]⟩
def S352 (a0:LD):Option Err :=
 bno (F320 a0) fun y1 =>
 some y1.2.2
def P352:=S352 P320
def k352:CSpec:=⟨352,[(.st .outl)],.err,fun x=>P352 x,false,[]⟩
def r352 {S:Seat} (h:Ok1 S 352 tf352):RtF S [k320] (Rt S k352):=okr h
end
end
section
set_option maxRecDepth 100000
section
variable (F213:LI->(Option LI)) (F27:LD->LY->(Option Err)) (F340:Dim->(Option ((List LI)×Int×Err))) (F341:(List LI)->(Option LI)) (F342:LD->(Option ((List (List LI))×Err))) (F343:LD->(List (List LI))->LI->(Option LI)) (F343s:LD->(List (List LI))->LI->(Option LI)) (F344:LD->(Option ((List LI)×Err))) (F345_346:LI->(List Bool)->(Option Bool)) (F346:Int->(List Bool)->(Option Bool)) (F352:LD->(Option Err)) (F353:LD->LI->(Option Int)) (F359_346:LI->(List Bool)->(Option Int)) (F40:LD->(Option Int)) (F44:Dim->Int->(Option Bool)) (F49:LD->LI->(Option Int)) (F51:LD->(Option Err)) (F58:LD->LI->(Option Err)) (F59:LD->LI->(Option Bool)) (F69:LD->Int->(Option LI)) (F70:LI->Int->Int->(Option LI))
def tc353:TCode:=.seq (rg [oq 2 (.box 0),om 4 (ci 0)]) (.seq (rg [om 5 (ci (-1))]) (.seq (.seq (rg [om 8 1,oq 9 (Ln 8),om 10 (ci 0)]) (.loop ⟨[.slot 5 .int,.slot 10 .int],[6,7,11,12,13,14,15,16,17,18,19,20,21,22,23,24,25,26,27,28,29,30,31,32,33,34,35,36,37,38,39,40,41,42,43],[],[]⟩ 0 (.seq (rg [oq 11 (Bi .lss 10 9)]) (.seq (.cond 11 .skip (.exit 0)) (.seq (.block 1 (.seq (rg [om 12 10,oq 13 (.ia 1 8 10),oq 14 (Ld 13),om 6 12,om 7 14]) (.seq (.regionJ ⟨[.slot 41 .bool],[15,16,17,18,19,20,21,22,23,24,25,26,27,28,29,30,31,32,33,34,35,36,37,38,39,40],[],[]⟩ [oq 15 (.fa 0 2),od 16 (Ld 15) [0],om 17 6,od 18 (.ia 3 16 17) [1,2],od 19 (.load (some 3) 18) [3],om 20 7,od 21 (Cl 44 [19,20]) [4,5],od 22 (.un .not 21) [6],od 23 (.mov 22) [7,6],og 24 (.mov 5) 23 true [8],og 25 (Bi .lss 24 (ci 0)) 23 true [9,8],og 26 (.mov 25) 23 true [10,8,8],og 27 (.fa 0 2) 26 false [11],og 28 (Ld 27) 26 false [12,11],og 29 (.mov 6) 26 false [11],og 30 (.ia 3 28 29) 26 false [13,14,11],og 31 (.fa 1 30) 26 false [15,11],og 32 (Ld 31) 26 false [16,11],og 33 (.fa 0 2) 26 false [11],og 34 (Ld 33) 26 false [18,11],og 35 (.mov 5) 26 false [11],og 36 (.ia 3 34 35) 26 false [19,20,11],og 37 (.fa 1 36) 26 false [21,11],og 38 (Ld 37) 26 false [22,11],og 39 (Bi .gtr 32 38) 26 false [17,23,11],og 40 (.pick 26 (cb true) 39) 23 true [11,24,8],od 41 (.pick 23 40 (cb false)) [8,25]] [] true) (.condJ ⟨[.slot 5 .int],[42],[],[]⟩ 41 (rg [om 42 6,om 5 42]) .skip)))) (rg [oq 43 (Bi .add 10 (ci 1)),om 10 43])))))) (.seq (rg [om 44 5,om 4 44]) .ret))) 
def tf353:TFunc:=⟨2,45,[.tmp 4],false,tc353,[]⟩
def zhM (a0:LD) (a1:LI) (x1:(Int×Int)):Option (LR (Int×Int) Int) :=
 br (decide (x1.2<(a1.length:Int)))
 (bno (zu a1 x1.2) fun y2 =>
 jn (σ:=Bool) (α:=(LR (Int×Int) Int)) (bno (zu a0 x1.2) fun y3 =>
 bno (F44 y3 y2) fun y4 =>
 br (!y4)
 (br (decide (x1.1<(0:Int)))
 (zt (some true))
 (bno (zu a0 x1.2) fun y5 =>
 bno (zu a0 x1.1) fun y6 =>
 zt (some (decide ((Dim.solve y6)<(Dim.solve y5))))))
 (zt (some false))) fun x7 =>
 jn (σ:=Int) (α:=(LR (Int×Int) Int)) (br x7
 (zt (some x1.2))
 (zt (some x1.1))) fun x8 =>
 nxO (some (x8,wi (x1.2+(1:Int)))))
 (dnO (some (x1.1,x1.2)))
def S353 (a0:LD) (a1:LI):Option Int :=
 lp (zhM F44 a0 a1) ((-1:Int),(0:Int)) fun x9 =>
 some x9.1
def P353:=S353 P44
def k353:CSpec:=⟨353,[(.st .outl),(.sl .int)],.int,fun x=>P353 x.1 x.2,false,[]⟩
def r353 {S:Seat} (h:Ok1 S 353 tf353):RtF S [k44] (Rt S k353):=okr h
def tc349:TCode:=.seq (rg [oq 2 (.box 0),om 4 cz]) (.seq (.seq (rg [oq 6 (.load (some 1) 2),oq 7 (Cl 352 [6]),om 5 7]) (.seq (rg [om 8 5,oq 9 (.eqn false true 8)]) (.cond 9 (.seq (rg [om 10 5,om 4 10]) .ret) .skip))) (.seq (rg [oq 11 (.load (some 1) 2),om 12 1,oq 13 (Cl 27 [11,12]),om 4 13]) .ret)) 
def tf349:TFunc:=⟨2,14,[.tmp 4],false,tc349,[]⟩
def S349 (a0:LD) (a1:LY):Option Err :=
 bno (F352 a0) fun y1 =>
 br (!(Err.isNil y1))
 (some y1)
 (bno (F27 a0 a1) fun y2 =>
 some y2)
def P349:=S349 P27 P352
def k349:CSpec:=⟨349,[(.st .outl),(.sl .entry)],.err,fun x=>P349 x.1 x.2,false,[]⟩
def r349 {S:Seat} (h:Ok1 S 349 tf349):RtF S [k27,k352] (Rt S k349):=okr h
end
end
end Ab
