import Derived.Laws.AppendOwn
import Derived.Sort.OwnSorted
import Derived.Lib.SlicesCompact
import Derived.Test.YtckaniphjiniiaaGreatDoorHM
import Derived.Lib.ItoaNum
import Derived.Lib.AtoiAll
set_option linter.all false
noncomputable section
namespace Ab
open Go
section
def P105 (e:Err):Option Int:=match e with
 | .nil=>some 0
 | .no n=>some n
 | .oth _=>none
end
section
open Go Go.RowKit
def qO (x:Node):List Value:=[.int .i64 x.op,.int .i64 x.n,.string x.name,.int .i64 x.left,.int .i64 x.right]
def eH (l:List Node):List Value:=l.flatMap qO
def zjQ (a b:List Node):eH (a++b)=eH a++eH b:=by simp[eH]
def rowN_one (x:Node):eH [x]=qO x:=by simp[eH]
def zit (x:Node):∀u∈qO x,u.oneCell'=true:=by intro u hu;simp only[qO,Ar,List.not_mem_nil,or_false] at hu;rcases hu with rfl|rfl|rfl|rfl|rfl<;>rfl
def zkG (n:Nat) (w:World) (lv:Value) (l:List Node):Prop :=
 (∃a cap,lv=.slice a 0 cap∧l=[])∨∃b off cap,lv=.slice (some ⟨b,off,none⟩) l.length cap∧b<n∧∀(i:Nat) (x:Node),l[i]? = some x->∀j u,(qO x)[j]? = some u->w.cell? ⟨b,off+i*5+j,none⟩=some u
structure Stp (B:Option Nat) (v:Value) (W W':World) (v':Value):Prop where
 os:W'.os=W.os
 tape:W'.tape=W.tape
 output:W'.output=W.output
 size:W.heap.size<=W'.heap.size
 block:∀k,k<W.heap.size->some k≠B->some k≠v.ownBlock->W'.heap[k]? = W.heap[k]?
 own:v'.ownBlock=v.ownBlock∨∃g,v'.ownBlock=some g∧W.heap.size<=g
def Stp.trans {B:Option Nat} {v v1 v2:Value} {W W1 W2:World} (h:Stp B v W W1 v1) (k:Stp B v1 W1 W2 v2):Stp B v W W2 v2 :=
 ⟨k.os.trans h.os,k.tape.trans h.tape,k.output.trans h.output,AD h.size k.size,
  fun i hi hB hv=>(k.block i (AE hi h.size) hB (by
   rcases h.own with e|⟨g,e,hg⟩
   ·rw[e];exact hv
   ·rw[e];intro e2;have:=Option.some.inj e2;omega)).trans (h.block i hi hB hv),
  by
   rcases k.own with e|⟨g,e,hg⟩
   ·rw[e];exact h.own
   ·exact .inr ⟨g,e,AD h.size hg⟩⟩
def own_ge {W:World} {base e size n:Nat} {v:Value} {xs:List Value} (h:W.ownsRow base e size v n xs):∀b,v.ownBlock=some b->base<=b:=by
 intro b hb;rcases h.2 with⟨rfl,_⟩|⟨g,cap,cur,rfl,hg,_⟩
 ·cases hb
 ·cases hb;exact hg
def q9 (n:Nat) (w:World) (v:Value) (l:List Node):Prop :=
 (v=.slice none 0 0∧l=[])∨∃b cap,v=.slice (some ⟨b,0,none⟩) l.length cap∧n<=b∧b<w.heap.size∧l.length<=cap∧∀(i:Nat) (x:Node),l[i]? = some x->∀j u,(qO x)[j]? = some u->w.cell? ⟨b,i*5+j,none⟩=some u
def nodeV_cs (x:Node) (j:Nat) (u:Value) (h:(qO x)[j]? = some u):(Node.cs x)[j]? = some (.v u):=by
 match j,h with
 | 0,h=>cases h;rfl
 | 1,h=>cases h;rfl
 | 2,h=>cases h;rfl
 | 3,h=>cases h;rfl
 | 4,h=>cases h;rfl
 | j+5,h=>simp[qO] at h
def cs_nodeV (x:Node) (j:Nat) (u:AV) (h:(Node.cs x)[j]? = some u):∃r,(qO x)[j]? = some r∧u=.v r:=by
 match j,h with
 | 0,h=>cases h;exact⟨_,rfl,rfl⟩
 | 1,h=>cases h;exact⟨_,rfl,rfl⟩
 | 2,h=>cases h;exact⟨_,rfl,rfl⟩
 | 3,h=>cases h;exact⟨_,rfl,rfl⟩
 | 4,h=>cases h;exact⟨_,rfl,rfl⟩
 | j+5,h=>simp[Node.cs] at h
def nodes_of {S:Seat} {A:Nat->Prop} {w:World} {n:Nat} {l:List Node} {v:Value} (hA:∀b,A b->b<n) (h:VR0 S A w (.sl 5 (l.map Node.cs)) v):zkG n w v l:=by
 generalize dH:l.map Node.cs=es at h;cases h with
 | sl hb hlen hz ch bh hval =>
  rename_i b o cap u;have el:es.length=l.length:=by rw[←dH];simp
  rw[el] at hlen ch ⊢;refine .inr ⟨b,o,cap,rfl,hA _ hb,fun i x hx j r hr => ?_⟩;have hi:=(Ac.1 hx).1;have hj:j<5:=by have:=(Ac.1 hr).1;simpa[qO] using this
  have h1:=ch (i*5+j) (by omega);rw[A5,h1];have:=hval i (Node.cs x) j (.v r) (by rw[←dH];simp[hx]) (nodeV_cs x j r hr);rw[VR.v_inv (σ:=fun _=>none) (.of0 this)]
 | slnil _=>exact .inl ⟨none,0,rfl,by cases l with|nil=>rfl|cons a r=>simp at dH⟩
 | slemp _ a cap=>exact .inl ⟨some a,cap,rfl,by cases l with|nil=>rfl|cons a r=>simp at dH⟩
def zfX {S:Seat} {A:Nat->Prop} {w:World} {n:Nat} {l:List Node} {v:Value} (hA:∀b,n<=b->b<w.heap.size->A b) (h:q9 n w v l):VR0 S A w (.sl 5 (l.map Node.cs)) v:=by
 rcases h with⟨rfl,rfl⟩|⟨b,cap,rfl,hn,hb,bp,hc⟩
 ·exact .slnil _
 ·have e:(l.map Node.cs).length=l.length:=by simp
  have hx:∀j,j<l.length*5->∃x:Node,∃u,l[j/5]? = some x∧(qO x)[j%5]? = some u∧w.cell? ⟨b,0+j,none⟩=some u:=fun j hj=>by
   have h1:j/5<l.length:=by omega
   have h2:j%5<(qO l[j/5]).length:=by simp[qO];omega
   refine⟨l[j/5],(qO l[j/5])[j%5],by simp[h1],by simp[h2], ?_⟩;have:=hc (j/5) l[j/5] (by simp[h1]) (j%5) _ (by rw[Aa h2]);rw[show 0+j=j/5*5+j%5 by omega];exact this
  rw[←e];refine .sl (u:=fun j=>(w.cell? ⟨b,0+j,none⟩).getD undef) (hA b hn hb) (by rw[e];exact bp) (by intro q hq;obtain⟨x,_,rfl⟩:=Al.1 hq;rfl) (fun j hj => ?_) (fun j hj => ?_) fun i q c x hi hq => ?_
  ·obtain⟨x,u,_,_,h3⟩:=hx j (by rw[e] at hj;exact hj);simp only[h3,A7]
  ·obtain⟨x,u,_,h2,h3⟩:=hx j (by rw[e] at hj;exact hj);simp only[h3,A7];exact zit x u (Ae h2)
  ·simp only[As,Ag] at hi;obtain⟨y,hy,rfl⟩:=hi;obtain⟨r,hr,rfl⟩:=cs_nodeV y c x hq;have:=hc i y hy c r hr;simp only[AY,this,A7];exact .v _
end
section
open Go Go.RowKit Go.Sort Go.Proofs
def sL (l:List ByteArray):List (List UInt8):=l.map fun s=>s.data.toList
def bL (l:List (List UInt8)):List ByteArray:=l.map fun x=>⟨x.toArray⟩
def sortS (l:List ByteArray):List ByteArray:=bL ((sL l).mergeSort fun x y=>decide (x<=y))
def compS (l:List ByteArray):List ByteArray:=bL (Lib.compact (sL l))
end
section
open Go Go.RowKit
def qS (i:Nat) (x:Node):Int :=
 if x.op<1∨6<x.op then 1
 else if x.op=1 then (if x.n<0∨1000000<x.n then 1 else if x.name=⟨#[]⟩∧x.left=0∧x.right=0 then 0 else 3)
 else if x.op=2 then (if qg x.name=true then 2 else if x.n=0∧x.left=0∧x.right=0 then 0 else 3)
 else if x.left<0∨(i:Int)<=x.left∨x.right<0∨(i:Int)<=x.right then 1
 else if x.n=0∧x.name=⟨#[]⟩ then 0 else 3
def errV (T:TypeId) (e:Int):Value:=if e=0 then .nilIface else .iface T (.int .i64 e)
def NodeAt (S:Seat):Prop:=∀g,ql g S.fns=some 251->∃gn T,ql gn S.fns=some 41∧ql T S.tys=some 1∧(∀T',ql T' S.tys=some 1->T'=T)∧∀(l:List Node) (lv:Value) (k:Nat) (x:Node) (W:World),l[k]? = some x->k<=9223372036854775807->zkG W.heap.size W lv l ->
 (∀W',KeepO (fun _=>False) W W'->Calls S.P gn #[.string x.name] W' fun e w'=>e=.returned (errV T (if qg x.name=true then 2 else 0))∧KeepO (fun _=>False) W' w') ->
 Calls S.P g #[lv,.int .i64 k] W fun e W'=>e=.returned (errV T (qS k x))∧KeepO (fun _=>False) W W'
def P251 (l:List Node) (i:Int):Option Err:=ck (decide (i<=9223372036854775807)) (match zu l i with|some x=>some (zn (qS i.toNat x))|none=>none)
def k251:CSpec:=⟨251,[(.sl .node),.int],.err,fun x=>P251 x.1 x.2,false,[]⟩
def errOf_av (T:TypeId) {S:Seat} {A:Nat->Prop} {w:World} (hT:ql T S.tys=some 1) (e:Int):VR0 S A w (zn e).av (errV T e):=by
 unfold zn errV;by_cases h:e=0
 ·rw[if_pos h,if_pos h];exact .v _
 ·rw[if_neg h,if_neg h];exact .ifc hT (.v _)
def r251 {S:Seat} (hP:Plain S) (h:NodeAt S) (mP:Rt S k41):Rt S k251:=fun (x:List Node×Int) (y:Err) hy=>by
 obtain⟨l,i⟩:=x;have hy:P251 l i=some y:=hy;obtain⟨hi,hy⟩:=qG hy;have hi:=of_decide_eq_true hi;cases hx:zu l i with
 | none=>rw[hx] at hy;cases hy
 | some x =>
  rw[hx] at hy;obtain rfl:=Option.some.inj hy;obtain⟨k,rfl,hk⟩:∃k:Nat,i=(k:Int)∧l[k]? = some x:=by
   unfold zu at hx;split at hx
   ·exact⟨i.toNat,by omega,hx⟩
   ·cases hx
  rw[Ap];have hr:=mP x.name _ (P41_eq x.name);intro g hg;show wY S g [.sl 5 (l.map Node.cs),aI (k:Int)] (zn (qS k x)).av [];refine zgL (fun A w vs hl hA ha => ?_) (by simp[zG,aI]);obtain⟨x0,x1,rfl⟩:∃x0 x1,vs=#[x0,x1]:=by
   obtain⟨r⟩:=vs
   match r,hl with
   | [x0,x1],_=>exact⟨x0,x1,rfl⟩
  obtain rfl:x1=.int .i64 k:=VR.v_inv (σ:=fun _=>none) (.of0 (ha 1 _ rfl));have hN:=nodes_of hA.1 (show VR0 S A w (.sl 5 (l.map Node.cs)) x0 from ha 0 _ rfl);obtain⟨gn,T,hgn,hT,hu,hw⟩:=h g hg;refine (hw l x0 k x w hk (by omega) hN fun W' aA => ?_).mono ?_
  ·have:=(show wY S gn [.v (.string x.name)] (if qg x.name=true then Err.no 2 else Err.nil).av [] from hr gn hgn).old0 hP (by simp[zG]) (fun _=>False) W' #[.string x.name] rfl ⟨fun b hb=>hb.elim,hA.2.keep (fun _ _ e=>e) aA⟩ fun i x hx=>by
    match i,hx with
    | 0,hx=>cases hx;exact .v _
    | i+1,hx=>simp at hx
   refine this.mono ?_;rintro e w' ⟨v,rfl,cx,β,_,_,hp⟩;refine⟨?_,cx⟩;congr 1;by_cases hb:qg x.name=true
   ·rw[if_pos hb] at hp ⊢;have hp:=(show zap S _ _ (β 0) (.ifc 1 (aI 2)) v from hp).2;cases hp with
    | ifc hT2 hv =>rw[VR.v_inv (σ:=fun _=>none) (.of0 hv),hu _ hT2];rfl
   ·rw[if_neg hb] at hp ⊢;exact VR.v_inv (σ:=fun _=>none) (.of0 (show zap S _ _ (β 0) (.v .nilIface) v from hp).2)
  ·rintro e w' ⟨rfl,aA⟩;refine⟨_,rfl,aA,fun _=>none,by simp,by simp, ?_⟩;have:=errOf_av (A:=qy A (fun _=>none) w w') (w:=w') T hT (qS k x);generalize (zn (qS k x))=q at this ⊢;cases q<;>exact⟨rfl,this⟩
end
section
open Go Go.RowKit
def zji (s:ByteArray):Int×Err :=
 match Lib.atoiAll s.data.toList with
 | .ok v=>(v,.nil)
 | .range=>(Lib.atoiSat s.data.toList,.oth 4)
 | _=>(0,.oth 4)
end
end Ab
