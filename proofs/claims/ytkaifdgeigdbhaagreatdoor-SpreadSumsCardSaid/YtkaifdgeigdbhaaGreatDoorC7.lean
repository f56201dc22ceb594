import Derived.Test.YtkaifdgeigdbhaaGreatDoorH9
set_option linter.all false
namespace Ab
open Go
section
def wa {σ α:Type} {B:σ->Option (LR σ α)} (st:Nat->σ) (n:Nat) (g:Nat->Option α) {d:σ} (h:∀ i,i < n->(∀ j,j < i->g j=none)->B (st i)=some (match g i with | some r=>.fin r | none=>.nx (st (i+1))))
  (hn:(∀ j,j < n->g j=none)->B (st n)=some (.dn d)):lpO B (st 0)=some (match (List.range n).findSome? g with | some r=>.inr r | none=>.inl d):=by
 have key:∀ (m k:Nat),k+m=n->(∀ j,j < k->g j=none)->lpO B (st k)=some (match (List.range' k m).findSome? g with | some r=>.inr r | none=>.inl d):=by
  intro m
  induction m with
  | zero =>
   intro k hk hg;obtain rfl:k=n:=by omega
   rw[zE (hn hg)];rfl
  | succ m ih =>
   intro k hk hg;have hs:=h k (by omega) hg;rw[List.range'_succ,BX];cases nW:g k with
   | some r=>rw[nW] at hs;rw[jd hs]
   | none =>
    rw[nW] at hs;rw[z8 hs];exact ih (k+1) (by omega) fun j hj=>by
     by_cases e:j=k
     ·rw[e];exact nW
     ·exact hg j (by omega)
 rw[key n 0 (by omega) (fun j hj=>by omega),C3]
def zkr (u:List Int) (x:Node):List Int :=
 if 3<=x.op then (u.set x.left.toNat (wi (u.getD x.left.toNat 0+1))).set x.right.toNat (wi ((u.set x.left.toNat (wi (u.getD x.left.toNat 0+1))).getD x.right.toNat 0+1)) else u
def zcU (l:List Node) (i:Nat):List Int:=(l.take i).foldl zkr (List.replicate l.length 0)
def useN_len (u:List Int) (x:Node):(zkr u x).length=u.length:=by unfold zkr;split<;>simp
def wz (l:List Node) (i:Nat):(zcU l i).length=l.length:=by
 unfold zcU;generalize l.take i=r;have:∀ (r:List Node) (u:List Int),(r.foldl zkr u).length=u.length:=by
  intro r
  induction r with
  | nil=>intro u;rfl
  | cons x r ih=>intro u;rw[Bw,ih,useN_len]
 rw[this,Cn]
def zgE {l:List Node} {i:Nat} {x:Node} (h:l[i]? = some x):zcU l (i+1)=zkr (zcU l i) x:=zah _ _ _ h
def jE (l:List Node) (i:Nat):Option Int:=match l[i]? with | some x=>if qN i x=0 then none else some (qN i x) | none=>none
def jY (l:List Node) (i:Nat):Option Int:=if (zcU l l.length).getD i 0=1 then none else some 3
def zeL (l:List Node):Int :=
 if l.length=0 then 5 else if 30 < l.length then 4 else
  match (List.range l.length).findSome? (jE l) with
  | some e=>e
  | none=>match (List.range (l.length - 1)).findSome? (jY l) with
   | some e=>e
   | none=>0
def P251_eq {l:List Node} {i:Nat} {x:Node} (h:l[i]? = some x) (hi:i<=9223372036854775807):P251 l (i:Int)=some (zk (qN i x)):=by simp only[P251,zi,h,AH];rw[zC (by omega)]
def P252_eq (n:Int):P252 n=some (decide (3<=n) && decide (n<=6)):=by by_cases h1:3<=n<;>by_cases h2:n<=6<;>simp[P252,S252,h1,h2]
def zja {i:Nat} {x:Node} (h:qN i x=0):1<=x.op∧x.op<=6:=by
 unfold qN at h;split at h
 ·cases h
 ·omega
def nodeE_two {i:Nat} {x:Node} (h:qN i x=0) (h3:3<=x.op):0<=x.left∧x.left < i∧0<=x.right∧x.right < i∧x.n=0∧x.name=⟨#[]⟩:=by
 have:=zja h;unfold qN at h;rw[if_neg (by omega),if_neg (by omega),if_neg (by omega)] at h;split at h
 ·cases h
 ·split at h
  ·rename_i h1 h2;exact ⟨by omega,by omega,by omega,by omega,h2.1,h2.2⟩
  ·cases h
def zg3 {l:List Node} {i:Nat} {x:Node} (h:l[i]? = some x) (hn:jE l i=none):qN i x=0:=by
 unfold jE at hn;rw[h] at hn;simp only at hn;split at hn
 ·assumption
 ·cases hn
def yH {u:List Int} {k:Nat} (h:k < u.length):u[k]? = some (u.getD k 0):=by rw[AL,Aa h];rfl
def ziT {α:Type} {u:List Int} {x:Node} {n:Nat} (hu:u.length=n) (h0:0<=x.left) (h1:x.left < n) (h2:0<=x.right) (h3:x.right < n) (h4:3<=x.op) (k:List Int->Option α) :
  (ck (decide (0<=Node.left x∧Node.left x < ((List.length u:Nat):Int))) <|
   bno (u[(Int.toNat (Node.left x))]?) fun y5 =>
   ck (decide (0<=Node.left x∧Node.left x < ((List.length u:Nat):Int))) <|
   bno (u[(Int.toNat (Node.left x))]?) fun y6 =>
   ck (decide (0<=Node.right x∧Node.right x < ((List.length (List.set u (Int.toNat (Node.left x)) (wi (y5+(1:Int)))):Nat):Int))) <|
   bno ((List.set u (Int.toNat (Node.left x)) (wi (y5+(1:Int))))[(Int.toNat (Node.right x))]?) fun y7 =>
   ck (decide (0<=Node.right x∧Node.right x < ((List.length (List.set u (Int.toNat (Node.left x)) (wi (y5+(1:Int)))):Nat):Int))) <|
   bno ((List.set u (Int.toNat (Node.left x)) (wi (y5+(1:Int))))[(Int.toNat (Node.right x))]?) fun y8 =>
   k (List.set (List.set u (Int.toNat (Node.left x)) (wi (y5+(1:Int)))) (Int.toNat (Node.right x)) (wi (y7+(1:Int)))))=k (zkr u x):=by
 have e1:u[x.left.toNat]? = some (u.getD x.left.toNat 0):=yH (by omega);have c1:0<=x.left∧x.left < ((u.length:Nat):Int):=⟨h0,by omega⟩;rw[zC c1,e1];simp only[zj];rw[zC c1];have e2:(u.set x.left.toNat (wi (u.getD x.left.toNat 0+1)))[x.right.toNat]? = some ((u.set x.left.toNat (wi (u.getD x.left.toNat 0+1))).getD x.right.toNat 0):=yH (by rw[Cw];omega);have c2:0<=x.right∧x.right < (((u.set x.left.toNat (wi (u.getD x.left.toNat 0+1))).length:Nat):Int):=⟨h2,by rw[Cw];omega⟩;rw[zC c2,e2];simp only[zj];rw[zC c2];unfold zkr;rw[if_pos h4]
def P241_eq (l:List Node):P241 l=some (zk (zeL l)):=by
 simp only[P241,S241];unfold zeL;by_cases h0:l.length=0
 ·simp[h0,zk]
 by_cases h1:30 < l.length
 ·have:(30:Int) < ((l.length:Nat):Int):=by omega
  simp[h0,h1,this,zk]
 rw[qr,if_neg (by omega),qr,if_neg (by omega),zC ⟨by omega,Int.le_refl _,by unfold zP;omega⟩,if_neg h0,if_neg h1];have L1:=wa (B:=zgu P251 P252 l) (fun i=>((i:Int),zcU l i)) l.length (fun i=>(jE l i).map zk) (d:=((l.length:Int),zcU l l.length)) (fun i hi hg=>by
  have hx:=Aa hi;simp only[zgu];rw[qr,if_pos (by omega)];simp only[zi,hx,zj,P251_eq hx (by omega),zt,jE,P252_eq];by_cases hz:qN i l[i]=0
  ·have dz:=zja hz;have e4:wi ((i:Int)+1)=((i+1:Nat):Int):=by rw[zN (by omega) (by omega)];omega
   rw[zgE hx];simp only[hz,decide_true,AU,za,if_true,BT,e4];by_cases h3:3<=l[i].op
   ·obtain ⟨a1,a2,a3,a4,_⟩:=nodeE_two hz h3;have e6:(decide (3<=l[i].op) && decide (l[i].op<=6))=true:=by simp[h3,dz.2]
    simp only[e6,zh];have:=ziT (α:=Sum (List Int) (LR (Int×List Int) Err)) (u:=zcU l i) (x:=l[i]) (n:=l.length) (wz l i) a1 (by omega) a3 (by omega) h3 (fun z=>zu (some z));rw[this];rfl
   ·have e6:(decide (3<=l[i].op) && decide (l[i].op<=6))=false:=by simp[h3]
    simp only[e6,za,zA,zV,zkr,if_neg h3];rfl
  ·simp only[hz,decide_false,BQ,zh,if_false,AN]
   rfl) (fun _=>by
  simp only[zgu];rw[qr,if_neg (by omega)]
  rfl)
 have e0:((0:Int),List.replicate (Int.toNat ((l.length:Nat):Int)) (0:Int))=(((0:Nat):Int),zcU l 0):=by simp[zcU]
 rw[z7,e0,L1,qq];cases hs:(List.range l.length).findSome? (jE l) with
 | some e=>rfl
 | none =>
  simp only[BT,zV];have L2:=wa (B:=zgt l ((l.length:Int),zcU l l.length)) (fun i=>(i:Int)) l.length (fun i=>if i < l.length - 1 then (jY l i).map zk else none) (d:=((l.length:Nat):Int)) (fun i hi hg=>by
   simp only[zgt,wz];have e4:wi ((i:Int)+1)=((i+1:Nat):Int):=by rw[zN (by omega) (by omega)];omega
   have e5:wi (((l.length:Nat):Int) - 1)=((l.length - 1:Nat):Int):=by rw[zN (by omega) (by omega)];omega
   rw[qr,if_pos (by omega),zC ⟨by omega,by omega⟩,AH,yH (by rw[wz];exact hi)];simp only[zj,e4,e5,jY];by_cases c:(zcU l l.length).getD i 0=1
   ·simp only[c,not_true,decide_false,za,zA,zV,if_true,BT,ite_self];rfl
   ·by_cases d:i < l.length - 1
    ·have:(i:Int) < ((l.length - 1:Nat):Int):=by omega
     simp only[c,d,this,not_false_eq_true,decide_true,zh,zA,zV,if_false,if_true,AN];rfl
    ·have:¬ (i:Int) < ((l.length - 1:Nat):Int):=by omega
     simp only[c,d,this,not_false_eq_true,decide_true,decide_false,zh,zA,zV,za,if_false]
     rfl) (fun _=>by
   simp only[zgt,wz];rw[qr,if_neg (by omega)]
   rfl)
  rw[z7,show (0:Int)=((0:Nat):Int) from rfl,L2];have e3:(List.range l.length).findSome? (fun i=>if i < l.length - 1 then (jY l i).map zk else none)=((List.range (l.length - 1)).findSome? (jY l)).map zk:=by
   obtain ⟨n,hn⟩:∃ n,l.length=n+1:=⟨l.length - 1,by omega⟩;rw[← qq,hn,Cu,List.findSome?_append];simp only[CD];have:∀ (r:List Nat),(∀ i∈r,i < n)->r.findSome? (fun i=>if i < n then (jY l i).map zk else none)=r.findSome? fun i=>(jY l i).map zk:=by
    intro r
    induction r with
    | nil=>intro _;rfl
    | cons a r ih =>intro h;rw[BX,BX,if_pos (h a (by simp)),ih fun i hi=>h i (Ae _ hi)]
   rw[this _ fun i hi=>A9.1 hi];simp
  rw[e3];cases (List.range (l.length - 1)).findSome? (jY l) with
  | some e=>rfl
  | none=>rfl
def P240_eq (l:List Node):P240 l=some (zeL l):=by
 simp only[P240,S240];unfold zeL;by_cases h0:l.length=0
 ·simp[h0]
 by_cases h1:30 < l.length
 ·have:(30:Int) < ((l.length:Nat):Int):=by omega
  simp[h0,h1,this]
 rw[qr,if_neg (by omega),qr,if_neg (by omega),zC ⟨by omega,Int.le_refl _,by unfold zP;omega⟩,if_neg h0,if_neg h1];have L1:=wa (B:=zgw P97 l) (fun i=>((i:Int),zcU l i)) l.length (fun i=>jE l i) (d:=((l.length:Int),zcU l l.length)) (fun i hi hg=>by
  have hx:=Aa hi;have e4:wi ((i:Int)+1)=((i+1:Nat):Int):=by rw[zN (by omega) (by omega)];omega
  simp only[zgw];rw[qr,if_pos (by omega)];simp only[zi,hx,zj,jE,P97_eq];rw[zgE hx];generalize l[i]=x at hx;by_cases c1:x.op < 1
  ·simp[qN,c1]
  by_cases c2:6 < x.op
  ·simp[qN,c1,c2]
  by_cases c3:x.op=1
  ·have hu:zkr (zcU l i) x=zcU l i:=by unfold zkr;rw[if_neg (by omega)]
   by_cases c4:x.n < 0
   ·simp[qN,c3,c4]
   by_cases c5:1000000 < x.n
   ·simp[qN,c3,c4,c5]
   by_cases d1:x.name=⟨#[]⟩<;>by_cases d2:x.left=0<;>by_cases d3:x.right=0<;>simp[qN,c3,c4,c5,d1,d2,d3,hu,e4]
  by_cases c4:x.op=2
  ·have hu:zkr (zcU l i) x=zcU l i:=by unfold zkr;rw[if_neg (by omega)]
   by_cases c5:zT x.name=true
   ·simp[qN,c4,c5]
   simp only[Cc] at c5;by_cases d1:x.n=0<;>by_cases d2:x.left=0<;>by_cases d3:x.right=0<;>simp[qN,c4,c5,d1,d2,d3,hu,e4]
  by_cases c5:x.left < 0
  ·simp[qN,c1,c2,c3,c4,c5]
  by_cases c6:(i:Int)<=x.left
  ·simp[qN,c1,c2,c3,c4,c5,c6]
  by_cases c7:x.right < 0
  ·simp[qN,c1,c2,c3,c4,c5,c6,c7]
  by_cases c8:(i:Int)<=x.right
  ·simp[qN,c1,c2,c3,c4,c5,c6,c7,c8]
  by_cases d1:x.n=0
  ·by_cases d2:x.name=⟨#[]⟩
   ·have:=ziT (α:=Sum (List Int) (LR (Int×List Int) Int)) (u:=zcU l i) (x:=x) (n:=l.length) (wz l i) (by omega) (by omega) (by omega) (by omega) (by omega) (fun z=>zu (some z));simp only[c1,c2,c3,c4,c5,c6,c7,c8,d1,d2,decide_true,decide_false,zh,za,zA,zV,not_true,qN,or_self,and_self,if_true,if_false];simp only[zA] at this;rw[this];simp[e4]
   ·simp[qN,c1,c2,c3,c4,c5,c6,c7,c8,d1,d2]
  ·simp[qN,c1,c2,c3,c4,c5,c6,c7,c8,d1]) (fun _=>by
  simp only[zgw];rw[qr,if_neg (by omega)]
  rfl)
 have e0:((0:Int),List.replicate (Int.toNat ((l.length:Nat):Int)) (0:Int))=(((0:Nat):Int),zcU l 0):=by simp[zcU]
 rw[z7,e0,L1];cases hs:(List.range l.length).findSome? (jE l) with
 | some e=>rfl
 | none =>
  simp only[zV];have e5:wi (((l.length:Nat):Int) - 1)=((l.length - 1:Nat):Int):=by rw[zN (by omega) (by omega)];omega
  have L2:=wa (B:=zgv l ((l.length:Int),zcU l l.length)) (fun i=>(i:Int)) (l.length - 1) (jY l) (d:=((l.length - 1:Nat):Int)) (fun i hi hg=>by
   simp only[zgv,wz,e5];have e4:wi ((i:Int)+1)=((i+1:Nat):Int):=by rw[zN (by omega) (by omega)];omega
   rw[qr,if_pos (by omega),zC ⟨by omega,by omega⟩,AH,yH (by rw[wz];omega)];simp only[zj,e4,jY];by_cases c:(zcU l l.length).getD i 0=1
   ·simp only[c,not_true,decide_false,za,if_true];rfl
   ·simp only[c,not_false_eq_true,decide_true,zh,if_false]
    rfl) (fun _=>by
   simp only[zgv,e5];rw[qr,if_neg (by omega)]
   rfl)
  rw[z7,show (0:Int)=((0:Nat):Int) from rfl,L2];cases (List.range (l.length - 1)).findSome? (jY l) with
  | some e=>rfl
  | none=>rfl
structure FormOk (l:List Node):Prop where
 pos:0 < l.length
 most:l.length<=30
 node:∀ (i:Nat) (x:Node),l[i]? = some x->qN i x=0
 use:∀ i,i < l.length - 1->(zcU l l.length).getD i 0=1
def form_ok {l:List Node}:zeL l=0↔FormOk l:=by
 unfold zeL;by_cases h0:l.length=0
 ·rw[if_pos h0];exact ⟨fun h=>(by cases h),fun h=>by have:=h.pos;omega⟩
 by_cases h1:30 < l.length
 ·rw[if_neg h0,if_pos h1];exact ⟨fun h=>(by cases h),fun h=>by have:=h.most;omega⟩
 rw[if_neg h0,if_neg h1];cases hs:(List.range l.length).findSome? (jE l) with
 | some e =>
  obtain ⟨i,hi,he⟩:=A5 hs;have hi:=A9.1 hi;have hx:=Aa hi;unfold jE at he;rw[hx] at he;simp only at he;refine ⟨fun h => ?_,fun h => ?_⟩
  ·split at he
   ·cases he
   ·rename_i hn;cases he;exact absurd h hn
  ·rw[if_pos (h.node i _ hx)] at he;cases he
 | none =>
  have kF:∀ (i:Nat) (x:Node),l[i]? = some x->qN i x=0:=fun i x hx =>
   zg3 hx (BA.1 hs i (A9.2 (Ac.1 hx).1))
  simp only;cases eX:(List.range (l.length - 1)).findSome? (jY l) with
  | some e =>
   obtain ⟨i,hi,he⟩:=A5 eX;unfold jY at he;refine ⟨fun h => ?_,fun h => ?_⟩
   ·split at he
    ·cases he
    ·cases he;cases h
   ·rw[if_pos (h.use i (A9.1 hi))] at he;cases he
  | none =>
   refine ⟨fun _=>⟨by omega,by omega,kF,fun i hi => ?_⟩,fun _=>rfl⟩;have:=BA.1 eX i (A9.2 hi);unfold jY at this;split at this
   ·assumption
   ·cases this
end
section
def cntB (out:List ByteArray) (s:ByteArray):Nat:=(out.takeWhile fun a=>Op.bytesLess a.toList s.toList).length
def insB (out:List ByteArray) (s:ByteArray):List ByteArray:=if out[cntB out s]? = some s then out else out.take (cntB out s)++[s]++out.drop (cntB out s)
def zhO (l:List Node):List ByteArray:=(l.filter fun x=>decide (x.op=2)).map Node.name
def insL (l:List Node):List ByteArray:=l.foldl (fun out x=>if x.op=2 then insB out x.name else out) []
def zfv (l:List Node):(zhO l).length<=l.length:=by unfold zhO;rw[Ap];exact BG _ _
def refL_app (a b:List Node):zhO (a++b)=zhO a++zhO b:=by unfold zhO;rw[CF,Bc]
end
section
section
variable {l:List Node}
end
end
section
end
section
def nmI (names:List ByteArray) (s:ByteArray):Int:=idxOf (fun y=>decide (y=s)) names
section
variable {l:List Node} {names:List ByteArray} {cells:List Cell}
end
end
section
end
end Ab
