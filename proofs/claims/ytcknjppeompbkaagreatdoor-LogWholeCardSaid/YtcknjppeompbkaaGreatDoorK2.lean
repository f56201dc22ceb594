import Derived.Test.YtcknjppeompbkaaGreatDoorMRc
import Derived.Test.YtcknjppeompbkaaGreatDoorK15
import Derived.Laws.AppendOwn
import Derived.Lib.AtoiAll
set_option linter.all false
noncomputable section
namespace Ab
open Go
section
def within (n:Int):Bool:=decide (-1000000000000<=n) && decide (n<=1000000000000)
def zgn (n:Int):Cell:=if within n then ⟨1,n⟩ else ⟨2,0⟩
def cplus (a b:Cell) (s:Int):Cell:=if a.k=2∨b.k=2 then ⟨2,0⟩ else if a.k=0∧b.k=0 then ⟨0,0⟩ else zgn (wi (a.n+wi (s * b.n)))
def cu (c:Cell):Prop:=c.k < 0∨2 < c.k∨within c.n=false∨(¬ c.k=1∧¬ c.n=0)
instance (c : Cell) : Decidable (cu c) := by unfold cu; infer_instance
def zil (a b:Cell):Cell:=if a.k=2∨b.k=2 then ⟨2,0⟩ else if a.k=0∨b.k=0 then ⟨0,0⟩ else if ¬ a.n=0∧wi (Int.tdiv 1000000000000 (maxT a.n (wi (-a.n)))) < maxT b.n (wi (-b.n)) then ⟨2,0⟩ else zgn (wi (a.n * b.n))
def cover (a b:Cell):Cell:=if a.k=2∨b.k=2 then ⟨2,0⟩ else if a.k=0∨b.k=0 then ⟨0,0⟩ else if b.n=0 then ⟨2,0⟩ else zgn (wi (Int.tdiv a.n b.n))
@[simp] def P30_eq (n:Int):P30 n=some (within n):=by simp[P30,S30,within]
@[simp] def P8_eq (n:Int):P8 n=some (zgn n):=by simp[P8,S8,zgn];cases within n<;>rfl
@[simp] def P33_eq (a b:Cell) (s:Int):P33 a b s=some (cplus a b s):=by
 simp[P33,S33,cplus,br_eq]
 repeat' split
 all_goals first | rfl | (simp_all;done)
@[simp] def P52_eq (c:Cell):P52 c=some (if cu c then .no 1 else .nil):=by
 by_cases h1:c.k < 0
 ·simp[P52,S52,cu,h1]
 by_cases h2:2 < c.k
 ·simp[P52,S52,cu,h2]
 by_cases h3:within c.n=true
 ·by_cases h4:c.k=1
  ·simp[P52,S52,cu,h3,h4]
  ·have e:br (decide (¬ c.n=0)) (some (Err.no 1)) (some Err.nil)=some (if ¬ c.n=0 then Err.no 1 else Err.nil):=by rw[zO];split<;>rfl
   simp[P52,S52,cu,h1,h2,h3,h4];by_cases h5:c.n=0
   ·simp[h5]
   ·simp[h5]
 ·simp[P52,S52,cu,h1,h2,h3]
@[simp] def P62_eq (n:Int):P62 n=some (maxT n (wi (-n))):=by simp[P62,S62]
def size_eq {n:Int} (h:within n=true):maxT n (wi (-n))=if n < 0 then -n else n:=by
 simp only[within,Ak,decide_eq_true_eq] at h;rw[ww (by omega) (by omega)];unfold maxT
 split<;>split<;>omega
def P34_eq {a:Cell} (b:Cell) (ha:within a.n=true):P34 a b=some (zil a b):=by
 by_cases h:a.n=0
 ·simp[P34,S34,zil,br_eq,h]
  repeat' split
  all_goals first | rfl | (simp_all;done)
 ·have h':¬ maxT a.n (wi (-a.n))=0:=by rw[size_eq ha];split<;>omega
  simp[P34,S34,zil,br_eq,h,h']
  repeat' split
  all_goals first | rfl | (simp_all;done)
@[simp] def P35_eq (a b:Cell):P35 a b=some (cover a b):=by
 by_cases h:b.n=0
 ·simp[P35,S35,cover,br_eq,h]
  repeat' split
  all_goals first | rfl | (simp_all;done)
 ·simp[P35,S35,cover,br_eq,h]
  repeat' split
  all_goals first | rfl | (simp_all;done)
def zgo (a b c:Cell):Cell×Err:=if cu a∨cu b then (⟨0,0⟩,.no 1) else (c,.nil)
@[simp] def P9_eq (a b:Cell):P9 a b=some (zgo a b (cplus a b 1)):=by by_cases h1:cu a<;>by_cases h2:cu b<;>simp[P9,S9,P31_32,S31_32,P32,S32,zgo,h1,h2]
@[simp] def P12_eq (a b:Cell):P12 a b=some (zgo a b (cplus a b (-1))):=by by_cases h1:cu a<;>by_cases h2:cu b<;>simp[P12,S12,P31_36,S31_36,P36,S36,zgo,h1,h2]
@[simp] def P10_eq (a b:Cell):P10 a b=some (zgo a b (zil a b)):=by by_cases h1:cu a<;>by_cases h2:cu b<;>simp[P10,S10,P31_34,S31_34,zgo,h1,h2];rw[P34_eq b (by simp only[cu,not_or] at h1;simpa using h1.2.2.1)];rfl
@[simp] def P11_eq (a b:Cell):P11 a b=some (zgo a b (cover a b)):=by by_cases h1:cu a<;>by_cases h2:cu b<;>simp[P11,S11,P31_35,S31_35,zgo,h1,h2]
end
section
end
section
def zeK (i:Nat):ByteArray:=⟨#[UInt8.ofNat (97+i / 26 % 26),UInt8.ofNat (97+i % 26)]⟩
def zfV:∀ i:Nat,i < 101->(match P68 (i:Int) with | some b=>decide (b=zeK i) | none=>false)=true:=by decide+kernel
def P68_eq (i:Nat) (h:i < 101):P68 (i:Int)=some (zeK i):=by
 have:=zfV i h;split at this
 ·rename_i b hb;rw[hb];simpa using this
 ·cases this
def flatM (i:Nat):Member:=⟨zeK i,0,1,⟨#[]⟩⟩
def zdI (name:ByteArray) (n:Nat):Dim:=⟨name,0,⟨⟨#[97,108,108]⟩, -1,0,⟨#[]⟩⟩ :: (List.range n).map flatM⟩
def P50_eq (name:ByteArray) (n:Nat) (h:n<=100):P50 name (n:Int)=some (zdI name n):=by
 have hs:=qS (B:=zgw P68 (n:Int)) (fun i=>((i:Int),(name,(0:Int),(zdI name i).members))) n (fun i hi=>by
  have e:((i:Nat):Int) < ((n:Nat):Int):=by omega
  have hr:(zdI name i).members.length+1<=wD:=by simp[zdI];unfold wD;omega
  have em:(zdI name (i+1)).members=(zdI name i).members++[flatM i]:=(by simp[zdI,Ck]);simp only[zgw,e,decide_true,zw,P68_eq i (by omega),zq,BB,zL hr,eo,em];rw[ww (by omega) (by omega)]
  rfl)
 have hs:lpO (zgw P68 (n:Int)) (0,(name,0,[⟨⟨#[97,108,108]⟩, -1,0,⟨#[]⟩⟩]))=some (.inl ((n:Int),(name,0,(zdI name n).members))):=hs.trans (jt (by simp[zgw]));simp only[P50,S50,wc,hs,yR];rfl
def zA (n:Nat):List Dim:=[zdI ⟨#[120]⟩ n,zdI ⟨#[121]⟩ n]
def P22_eq (n:Nat) (h:n<=100):P22 (n:Int)=some (zA n):=by simp only[P22,S22,P50_eq _ n h,zq];rfl
end
section
open Go Go.RowKit
def qK (x:Node):List Value:=[.int .i64 x.op,.int .i64 x.n,.string x.name,.int .i64 x.left,.int .i64 x.right]
def zhR (l:List Node):List Value:=l.flatMap qK
def zgY (a b:List Node):zhR (a++b)=zhR a++zhR b:=by simp[zhR]
def rowN_one (x:Node):zhR [x]=qK x:=by simp[zhR]
def zfN (x:Node):∀ u∈qK x,u.oneCell'=true:=by intro u hu;simp only[qK,Aq,List.not_mem_nil,or_false] at hu;rcases hu with rfl | rfl | rfl | rfl | rfl<;>rfl
def zhJ (n:Nat) (w:World) (lv:Value) (l:List Node):Prop :=
 (∃ a cap,lv=.slice a 0 cap∧l=[])∨∃ b off cap,lv=.slice (some ⟨b,off,none⟩) l.length cap∧b < n∧∀ (i:Nat) (x:Node),l[i]? = some x->∀ j u,(qK x)[j]? = some u->w.cell? ⟨b,off+i * 5+j,none⟩=some u
structure Stp (B:Option Nat) (v:Value) (W W':World) (v':Value):Prop where
 os:W'.os=W.os
 tape:W'.tape=W.tape
 output:W'.output=W.output
 size:W.heap.size<=W'.heap.size
 block:∀ k,k < W.heap.size->some k≠B->some k≠v.ownBlock->W'.heap[k]? = W.heap[k]?
 own:v'.ownBlock=v.ownBlock∨∃ g,v'.ownBlock=some g∧W.heap.size<=g
def Stp.trans {B:Option Nat} {v v1 v2:Value} {W W1 W2:World} (h:Stp B v W W1 v1) (k:Stp B v1 W1 W2 v2):Stp B v W W2 v2 :=
 ⟨k.os.trans h.os,k.tape.trans h.tape,k.output.trans h.output,AH h.size k.size,
  fun i hi hB hv=>(k.block i (AD hi h.size) hB (by
   rcases h.own with e | ⟨g,e,hg⟩
   ·rw[e];exact hv
   ·rw[e];intro e2;have:=Option.some.inj e2;omega)).trans (h.block i hi hB hv),
  by
   rcases k.own with e | ⟨g,e,hg⟩
   ·rw[e];exact h.own
   ·exact .inr ⟨g,e,AH h.size hg⟩⟩
def own_ge {W:World} {base e size n:Nat} {v:Value} {xs:List Value} (h:W.ownsRow base e size v n xs):∀ b,v.ownBlock=some b->base<=b:=by
 intro b hb;rcases h.2 with ⟨rfl,_⟩ | ⟨g,cap,cur,rfl,hg,_⟩
 ·cases hb
 ·cases hb;exact hg
def qU (n:Nat) (w:World) (v:Value) (l:List Node):Prop :=
 (v=.slice none 0 0∧l=[])∨∃ b cap,v=.slice (some ⟨b,0,none⟩) l.length cap∧n<=b∧b < w.heap.size∧l.length<=cap∧∀ (i:Nat) (x:Node),l[i]? = some x->∀ j u,(qK x)[j]? = some u->w.cell? ⟨b,i * 5+j,none⟩=some u
def nodeV_cs (x:Node) (j:Nat) (u:Value) (h:(qK x)[j]? = some u):(Node.cs x)[j]? = some (.v u):=by
 match j,h with
 | 0,h=>cases h;rfl
 | 1,h=>cases h;rfl
 | 2,h=>cases h;rfl
 | 3,h=>cases h;rfl
 | 4,h=>cases h;rfl
 | j+5,h=>simp[qK] at h
def cs_nodeV (x:Node) (j:Nat) (u:AV) (h:(Node.cs x)[j]? = some u):∃ r,(qK x)[j]? = some r∧u=.v r:=by
 match j,h with
 | 0,h=>cases h;exact ⟨_,rfl,rfl⟩
 | 1,h=>cases h;exact ⟨_,rfl,rfl⟩
 | 2,h=>cases h;exact ⟨_,rfl,rfl⟩
 | 3,h=>cases h;exact ⟨_,rfl,rfl⟩
 | 4,h=>cases h;exact ⟨_,rfl,rfl⟩
 | j+5,h=>simp[Node.cs] at h
def nodes_of {S:Seat} {A:Nat->Prop} {w:World} {n:Nat} {l:List Node} {v:Value} (hA:∀ b,A b->b < n) (h:VR0 S A w (.sl 5 (l.map Node.cs)) v):zhJ n w v l:=by
 generalize cP:l.map Node.cs=es at h;cases h with
 | sl hb hlen hz aV aY hval =>
  rename_i b o cap u;have el:es.length=l.length:=by rw[← cP];simp
  rw[el] at hlen aV ⊢;refine .inr ⟨b,o,cap,rfl,hA _ hb,fun i x hx j r hr => ?_⟩;have hi:=(Aa.1 hx).1;have hj:j < 5:=by have:=(Aa.1 hr).1;simpa[qK] using this
  have h1:=aV (i * 5+j) (by omega);rw[Bv,h1];have:=hval i (Node.cs x) j (.v r) (by rw[← cP];simp[hx]) (nodeV_cs x j r hr);rw[VR.v_inv (σ:=fun _=>none) (.of0 this)]
 | slnil _=>exact .inl ⟨none,0,rfl,by cases l with | nil=>rfl | cons a r=>simp at cP⟩
 | slemp _ a cap=>exact .inl ⟨some a,cap,rfl,by cases l with | nil=>rfl | cons a r=>simp at cP⟩
def zdY {S:Seat} {A:Nat->Prop} {w:World} {n:Nat} {l:List Node} {v:Value} (hA:∀ b,n<=b->b < w.heap.size->A b) (h:qU n w v l):VR0 S A w (.sl 5 (l.map Node.cs)) v:=by
 rcases h with ⟨rfl,rfl⟩ | ⟨b,cap,rfl,hn,hb,ba,hc⟩
 ·exact .slnil _
 ·have e:(l.map Node.cs).length=l.length:=by simp
  have hx:∀ j,j < l.length * 5->∃ x:Node,∃ u,l[j / 5]? = some x∧(qK x)[j % 5]? = some u∧w.cell? ⟨b,0+j,none⟩=some u:=fun j hj=>by
   have h1:j / 5 < l.length:=by omega
   have h2:j % 5 < (qK l[j / 5]).length:=by simp[qK];omega
   refine ⟨l[j / 5],(qK l[j / 5])[j % 5],by simp[h1],by simp[h2], ?_⟩;have:=hc (j / 5) l[j / 5] (by simp[h1]) (j % 5) _ (by rw[Ac h2]);rw[show 0+j=j / 5 * 5+j % 5 by omega];exact this
  rw[← e];refine .sl (u:=fun j=>(w.cell? ⟨b,0+j,none⟩).getD undef) (hA b hn hb) (by rw[e];exact ba) (by intro q hq;obtain ⟨x,_,rfl⟩:=Ap.1 hq;rfl) (fun j hj => ?_) (fun j hj => ?_) fun i q c x hi hq => ?_
  ·obtain ⟨x,u,_,_,h3⟩:=hx j (by rw[e] at hj;exact hj);simp only[h3,A5]
  ·obtain ⟨x,u,_,h2,h3⟩:=hx j (by rw[e] at hj;exact hj);simp only[h3,A5];exact zfN x u (Ae h2)
  ·simp only[Aw,Ag] at hi;obtain ⟨y,hy,rfl⟩:=hi;obtain ⟨r,hr,rfl⟩:=cs_nodeV y c x hq;have:=hc i y hy c r hr;simp only[AL,this,A5];exact .v _
end
section
set_option maxRecDepth 100000
section
variable (F114:LD->LI->(Option Err)) (F49:LD->LI->(Option Int)) (F51:LD->(Option Err)) (F58:LD->LI->(Option Err)) (F59:LD->LI->(Option Bool))
end
end
section
end
section
open Go Go.RowKit
def ItoaAt (S:Seat) (id:Nat):Prop:=∀ g,qh g S.fns=some id->∀ (n:Int) (w:World), -9223372036854775808<=n->n<=9223372036854775807->S.hold w ->
 Calls S.P g #[.int .i64 n] w fun e w'=>e=.returned (.string ⟨(Lib.itoa n).toArray⟩)∧KeepO (fun _=>False) w w'
def zgt (s:ByteArray):Int×Err :=
 match Lib.atoiAll s.data.toList with
 | .ok v=>(v,.nil)
 | .range=>(Lib.atoiSat s.data.toList,.oth 4)
 | _=>(0,.oth 4)
def P157 (n:Int):Option ByteArray:=ck (decide (-9223372036854775808<=n∧n<=9223372036854775807)) (some ⟨(Lib.itoa n).toArray⟩)
def k157:CSpec:=⟨157,[.int],.str,fun x=>P157 x,false,[]⟩
def r157 {S:Seat} (h:ItoaAt S 157):Rt S k157:=fun (n:Int) (y:ByteArray) hy=>by
 obtain ⟨h1,h2⟩:=qg (show P157 n=some y from hy);obtain ⟨h0,h1⟩:=of_decide_eq_true h1;obtain rfl:=Option.some.inj h2;intro g hg;show wo S g [.v (.int .i64 n)] (.v (.string _)) [];refine w4 (fun A w vs hl hA ha => ?_) (by simp[zm]);obtain ⟨x0,rfl⟩:∃ x0,vs=#[x0]:=by
  obtain ⟨l⟩:=vs
  match l,hl with
  | [x0],_=>exact ⟨x0,rfl⟩
 obtain rfl:x0=.int .i64 n:=VR.v_inv (σ:=fun _=>none) (.of0 (ha 0 _ rfl));refine (h g hg n w h0 h1 hA.2.2.2).mono ?_;rintro e w' ⟨rfl,hk⟩;exact ⟨_,rfl,hk,fun _=>none,by simp,by simp,rfl,.v _⟩
end
end Ab
