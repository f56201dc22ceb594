import Derived.Test.YtkaifdgeigdbhaaGreatDoorH9
set_option linter.all false
namespace Ab
open Go
section
def yD {σ α:Type} {B:σ->Option (LR σ α)} (st:Nat->σ) (n:Nat) (g:Nat->Option α) {d:σ} (h:∀ i,i < n->(∀ j,j < i->g j=none)->B (st i)=some (match g i with | some r=>.fin r | none=>.nx (st (i+1))))
  (hn:(∀ j,j < n->g j=none)->B (st n)=some (.dn d)):lpO B (st 0)=some (match (List.range n).findSome? g with | some r=>.inr r | none=>.inl d):=by
 have key:∀ (m k:Nat),k+m=n->(∀ j,j < k->g j=none)->lpO B (st k)=some (match (List.range' k m).findSome? g with | some r=>.inr r | none=>.inl d):=by
  intro m
  induction m with
  | zero =>
   intro k hk hg;obtain rfl:k=n:=by omega
   rw[zB (hn hg)];rfl
  | succ m ih =>
   intro k hk hg;have hs:=h k (by omega) hg;rw[List.range'_succ,BQ];cases mw:g k with
   | some r=>rw[mw] at hs;rw[qL hs]
   | none =>
    rw[mw] at hs;rw[zZ hs];exact ih (k+1) (by omega) fun j hj=>by
     by_cases e:j=k
     ·rw[e];exact mw
     ·exact hg j (by omega)
 rw[key n 0 (by omega) (fun j hj=>by omega),CR]
def zjL (u:List Int) (x:Node):List Int :=
 if 3<=x.op then (u.set x.left.toNat (wi (u.getD x.left.toNat 0+1))).set x.right.toNat (wi ((u.set x.left.toNat (wi (u.getD x.left.toNat 0+1))).getD x.right.toNat 0+1)) else u
def zcf (l:List Node) (i:Nat):List Int:=(l.take i).foldl zjL (List.replicate l.length 0)
def useN_len (u:List Int) (x:Node):(zjL u x).length=u.length:=by unfold zjL;split<;>simp
def yT (l:List Node) (i:Nat):(zcf l i).length=l.length:=by
 unfold zcf;generalize l.take i=r;have:∀ (r:List Node) (u:List Int),(r.foldl zjL u).length=u.length:=by
  intro r
  induction r with
  | nil=>intro u;rfl
  | cons x r ih=>intro u;rw[Bt,ih,useN_len]
 rw[this,Cf]
def zfR {l:List Node} {i:Nat} {x:Node} (h:l[i]? = some x):zcf l (i+1)=zjL (zcf l i) x:=ky _ _ _ h
def ju (l:List Node) (i:Nat):Option Int:=match l[i]? with | some x=>if qF i x=0 then none else some (qF i x) | none=>none
def jL (l:List Node) (i:Nat):Option Int:=if (zcf l l.length).getD i 0=1 then none else some 3
def zdY (l:List Node):Int :=
 if l.length=0 then 5 else if 30 < l.length then 4 else
  match (List.range l.length).findSome? (ju l) with
  | some e=>e
  | none=>match (List.range (l.length - 1)).findSome? (jL l) with
   | some e=>e
   | none=>0
def P251_eq {l:List Node} {i:Nat} {x:Node} (h:l[i]? = some x) (hi:i<=9223372036854775807):P251 l (i:Int)=some (zm (qF i x)):=by simp only[P251,zi,h,AG];rw[zy (by omega)]
def P252_eq (n:Int):P252 n=some (decide (3<=n) && decide (n<=6)):=by by_cases h1:3<=n<;>by_cases h2:n<=6<;>simp[P252,S252,h1,h2]
def zis {i:Nat} {x:Node} (h:qF i x=0):1<=x.op∧x.op<=6:=by
 unfold qF at h;split at h
 ·cases h
 ·omega
def nodeE_two {i:Nat} {x:Node} (h:qF i x=0) (h3:3<=x.op):0<=x.left∧x.left < i∧0<=x.right∧x.right < i∧x.n=0∧x.name=⟨#[]⟩:=by
 have:=zis h;unfold qF at h;rw[if_neg (by omega),if_neg (by omega),if_neg (by omega)] at h;split at h
 ·cases h
 ·split at h
  ·rename_i h1 h2;exact ⟨by omega,by omega,by omega,by omega,h2.1,h2.2⟩
  ·cases h
def zgg {l:List Node} {i:Nat} {x:Node} (h:l[i]? = some x) (hn:ju l i=none):qF i x=0:=by
 unfold ju at hn;rw[h] at hn;simp only at hn;split at hn
 ·assumption
 ·cases hn
def yn {u:List Int} {k:Nat} (h:k < u.length):u[k]? = some (u.getD k 0):=by rw[Aw,Aa h];rfl
def zic {α:Type} {u:List Int} {x:Node} {n:Nat} (hu:u.length=n) (h0:0<=x.left) (h1:x.left < n) (h2:0<=x.right) (h3:x.right < n) (h4:3<=x.op) (k:List Int->Option α) :
  (ck (decide (0<=Node.left x∧Node.left x < ((List.length u:Nat):Int))) <|
   bno (u[(Int.toNat (Node.left x))]?) fun y5 =>
   ck (decide (0<=Node.left x∧Node.left x < ((List.length u:Nat):Int))) <|
   bno (u[(Int.toNat (Node.left x))]?) fun y6 =>
   ck (decide (0<=Node.right x∧Node.right x < ((List.length (List.set u (Int.toNat (Node.left x)) (wi (y5+(1:Int)))):Nat):Int))) <|
   bno ((List.set u (Int.toNat (Node.left x)) (wi (y5+(1:Int))))[(Int.toNat (Node.right x))]?) fun y7 =>
   ck (decide (0<=Node.right x∧Node.right x < ((List.length (List.set u (Int.toNat (Node.left x)) (wi (y5+(1:Int)))):Nat):Int))) <|
   bno ((List.set u (Int.toNat (Node.left x)) (wi (y5+(1:Int))))[(Int.toNat (Node.right x))]?) fun y8 =>
   k (List.set (List.set u (Int.toNat (Node.left x)) (wi (y5+(1:Int)))) (Int.toNat (Node.right x)) (wi (y7+(1:Int)))))=k (zjL u x):=by
 have e1:u[x.left.toNat]? = some (u.getD x.left.toNat 0):=yn (by omega);have c1:0<=x.left∧x.left < ((u.length:Nat):Int):=⟨h0,by omega⟩;rw[zy c1,e1];simp only[zk];rw[zy c1];have e2:(u.set x.left.toNat (wi (u.getD x.left.toNat 0+1)))[x.right.toNat]? = some ((u.set x.left.toNat (wi (u.getD x.left.toNat 0+1))).getD x.right.toNat 0):=yn (by rw[Cl];omega);have c2:0<=x.right∧x.right < (((u.set x.left.toNat (wi (u.getD x.left.toNat 0+1))).length:Nat):Int):=⟨h2,by rw[Cl];omega⟩;rw[zy c2,e2];simp only[zk];rw[zy c2];unfold zjL;rw[if_pos h4]
def P241_eq (l:List Node):P241 l=some (zm (zdY l)):=by
 simp only[P241,S241];unfold zdY;by_cases h0:l.length=0
 ·simp[h0,zm]
 by_cases h1:30 < l.length
 ·have:(30:Int) < ((l.length:Nat):Int):=by omega
  simp[h0,h1,this,zm]
 rw[qn,if_neg (by omega),qn,if_neg (by omega),zy ⟨by omega,Int.le_refl _,by unfold zX;omega⟩,if_neg h0,if_neg h1];have L1:=yD (B:=zfG P251 P252 l) (fun i=>((i:Int),zcf l i)) l.length (fun i=>(ju l i).map zm) (d:=((l.length:Int),zcf l l.length)) (fun i hi hg=>by
  have hx:=Aa hi;simp only[zfG];rw[qn,if_pos (by omega)];simp only[zi,hx,zk,P251_eq hx (by omega),zF,ju,P252_eq];by_cases hz:qF i l[i]=0
  ·have cZ:=zis hz;have e4:wi ((i:Int)+1)=((i+1:Nat):Int):=by rw[zN (by omega) (by omega)];omega
   rw[zfR hx];simp only[hz,decide_true,A8,za,if_true,BL,e4];by_cases h3:3<=l[i].op
   ·obtain ⟨a1,a2,a3,a4,_⟩:=nodeE_two hz h3;have e6:(decide (3<=l[i].op) && decide (l[i].op<=6))=true:=by simp[h3,cZ.2]
    simp only[e6,zh];have:=zic (α:=Sum (List Int) (LR (Int×List Int) Err)) (u:=zcf l i) (x:=l[i]) (n:=l.length) (yT l i) a1 (by omega) a3 (by omega) h3 (fun z=>zt (some z));rw[this];rfl
   ·have e6:(decide (3<=l[i].op) && decide (l[i].op<=6))=false:=by simp[h3]
    simp only[e6,za,zx,z8,zjL,if_neg h3];rfl
  ·simp only[hz,decide_false,B0,zh,if_false,AH]
   rfl) (fun _=>by
  simp only[zfG];rw[qn,if_neg (by omega)]
  rfl)
 have e0:((0:Int),List.replicate (Int.toNat ((l.length:Nat):Int)) (0:Int))=(((0:Nat):Int),zcf l 0):=by simp[zcf]
 rw[qe,e0,L1,qm];cases hs:(List.range l.length).findSome? (ju l) with
 | some e=>rfl
 | none =>
  simp only[BL,z8];have L2:=yD (B:=zfF l ((l.length:Int),zcf l l.length)) (fun i=>(i:Int)) l.length (fun i=>if i < l.length - 1 then (jL l i).map zm else none) (d:=((l.length:Nat):Int)) (fun i hi hg=>by
   simp only[zfF,yT];have e4:wi ((i:Int)+1)=((i+1:Nat):Int):=by rw[zN (by omega) (by omega)];omega
   have e5:wi (((l.length:Nat):Int) - 1)=((l.length - 1:Nat):Int):=by rw[zN (by omega) (by omega)];omega
   rw[qn,if_pos (by omega),zy ⟨by omega,by omega⟩,AG,yn (by rw[yT];exact hi)];simp only[zk,e4,e5,jL];by_cases c:(zcf l l.length).getD i 0=1
   ·simp only[c,not_true,decide_false,za,zx,z8,if_true,BL,ite_self];rfl
   ·by_cases d:i < l.length - 1
    ·have:(i:Int) < ((l.length - 1:Nat):Int):=by omega
     simp only[c,d,this,not_false_eq_true,decide_true,zh,zx,z8,if_false,if_true,AH];rfl
    ·have:¬ (i:Int) < ((l.length - 1:Nat):Int):=by omega
     simp only[c,d,this,not_false_eq_true,decide_true,decide_false,zh,zx,z8,za,if_false]
     rfl) (fun _=>by
   simp only[zfF,yT];rw[qn,if_neg (by omega)]
   rfl)
  rw[qe,show (0:Int)=((0:Nat):Int) from rfl,L2];have e3:(List.range l.length).findSome? (fun i=>if i < l.length - 1 then (jL l i).map zm else none)=((List.range (l.length - 1)).findSome? (jL l)).map zm:=by
   obtain ⟨n,hn⟩:∃ n,l.length=n+1:=⟨l.length - 1,by omega⟩;rw[← qm,hn,BW,List.findSome?_append];simp only[Cr];have:∀ (r:List Nat),(∀ i∈r,i < n)->r.findSome? (fun i=>if i < n then (jL l i).map zm else none)=r.findSome? fun i=>(jL l i).map zm:=by
    intro r
    induction r with
    | nil=>intro _;rfl
    | cons a r ih =>intro h;rw[BQ,BQ,if_pos (h a (by simp)),ih fun i hi=>h i (Ae _ hi)]
   rw[this _ fun i hi=>AR.1 hi];simp
  rw[e3];cases (List.range (l.length - 1)).findSome? (jL l) with
  | some e=>rfl
  | none=>rfl
def P240_eq (l:List Node):P240 l=some (zdY l):=by
 simp only[P240,S240];unfold zdY;by_cases h0:l.length=0
 ·simp[h0]
 by_cases h1:30 < l.length
 ·have:(30:Int) < ((l.length:Nat):Int):=by omega
  simp[h0,h1,this]
 rw[qn,if_neg (by omega),qn,if_neg (by omega),zy ⟨by omega,Int.le_refl _,by unfold zX;omega⟩,if_neg h0,if_neg h1];have L1:=yD (B:=zfI P97 l) (fun i=>((i:Int),zcf l i)) l.length (fun i=>ju l i) (d:=((l.length:Int),zcf l l.length)) (fun i hi hg=>by
  have hx:=Aa hi;have e4:wi ((i:Int)+1)=((i+1:Nat):Int):=by rw[zN (by omega) (by omega)];omega
  simp only[zfI];rw[qn,if_pos (by omega)];simp only[zi,hx,zk,ju,P97_eq];rw[zfR hx];generalize l[i]=x at hx;by_cases c1:x.op < 1
  ·simp[qF,c1]
  by_cases c2:6 < x.op
  ·simp[qF,c1,c2]
  by_cases c3:x.op=1
  ·have hu:zjL (zcf l i) x=zcf l i:=by unfold zjL;rw[if_neg (by omega)]
   by_cases c4:x.n < 0
   ·simp[qF,c3,c4]
   by_cases c5:1000000 < x.n
   ·simp[qF,c3,c4,c5]
   by_cases d1:x.name=⟨#[]⟩<;>by_cases d2:x.left=0<;>by_cases d3:x.right=0<;>simp[qF,c3,c4,c5,d1,d2,d3,hu,e4]
  by_cases c4:x.op=2
  ·have hu:zjL (zcf l i) x=zcf l i:=by unfold zjL;rw[if_neg (by omega)]
   by_cases c5:zR x.name=true
   ·simp[qF,c4,c5]
   simp only[B5] at c5;by_cases d1:x.n=0<;>by_cases d2:x.left=0<;>by_cases d3:x.right=0<;>simp[qF,c4,c5,d1,d2,d3,hu,e4]
  by_cases c5:x.left < 0
  ·simp[qF,c1,c2,c3,c4,c5]
  by_cases c6:(i:Int)<=x.left
  ·simp[qF,c1,c2,c3,c4,c5,c6]
  by_cases c7:x.right < 0
  ·simp[qF,c1,c2,c3,c4,c5,c6,c7]
  by_cases c8:(i:Int)<=x.right
  ·simp[qF,c1,c2,c3,c4,c5,c6,c7,c8]
  by_cases d1:x.n=0
  ·by_cases d2:x.name=⟨#[]⟩
   ·have:=zic (α:=Sum (List Int) (LR (Int×List Int) Int)) (u:=zcf l i) (x:=x) (n:=l.length) (yT l i) (by omega) (by omega) (by omega) (by omega) (by omega) (fun z=>zt (some z));simp only[c1,c2,c3,c4,c5,c6,c7,c8,d1,d2,decide_true,decide_false,zh,za,zx,z8,not_true,qF,or_self,and_self,if_true,if_false];simp only[zx] at this;rw[this];simp[e4]
   ·simp[qF,c1,c2,c3,c4,c5,c6,c7,c8,d1,d2]
  ·simp[qF,c1,c2,c3,c4,c5,c6,c7,c8,d1]) (fun _=>by
  simp only[zfI];rw[qn,if_neg (by omega)]
  rfl)
 have e0:((0:Int),List.replicate (Int.toNat ((l.length:Nat):Int)) (0:Int))=(((0:Nat):Int),zcf l 0):=by simp[zcf]
 rw[qe,e0,L1];cases hs:(List.range l.length).findSome? (ju l) with
 | some e=>rfl
 | none =>
  simp only[z8];have e5:wi (((l.length:Nat):Int) - 1)=((l.length - 1:Nat):Int):=by rw[zN (by omega) (by omega)];omega
  have L2:=yD (B:=zfH l ((l.length:Int),zcf l l.length)) (fun i=>(i:Int)) (l.length - 1) (jL l) (d:=((l.length - 1:Nat):Int)) (fun i hi hg=>by
   simp only[zfH,yT,e5];have e4:wi ((i:Int)+1)=((i+1:Nat):Int):=by rw[zN (by omega) (by omega)];omega
   rw[qn,if_pos (by omega),zy ⟨by omega,by omega⟩,AG,yn (by rw[yT];omega)];simp only[zk,e4,jL];by_cases c:(zcf l l.length).getD i 0=1
   ·simp only[c,not_true,decide_false,za,if_true];rfl
   ·simp only[c,not_false_eq_true,decide_true,zh,if_false]
    rfl) (fun _=>by
   simp only[zfH,e5];rw[qn,if_neg (by omega)]
   rfl)
  rw[qe,show (0:Int)=((0:Nat):Int) from rfl,L2];cases (List.range (l.length - 1)).findSome? (jL l) with
  | some e=>rfl
  | none=>rfl
structure FormOk (l:List Node):Prop where
 pos:0 < l.length
 most:l.length<=30
 node:∀ (i:Nat) (x:Node),l[i]? = some x->qF i x=0
 use:∀ i,i < l.length - 1->(zcf l l.length).getD i 0=1
def form_ok {l:List Node}:zdY l=0↔FormOk l:=by
 unfold zdY;by_cases h0:l.length=0
 ·rw[if_pos h0];exact ⟨fun h=>(by cases h),fun h=>by have:=h.pos;omega⟩
 by_cases h1:30 < l.length
 ·rw[if_neg h0,if_pos h1];exact ⟨fun h=>(by cases h),fun h=>by have:=h.most;omega⟩
 rw[if_neg h0,if_neg h1];cases hs:(List.range l.length).findSome? (ju l) with
 | some e =>
  obtain ⟨i,hi,he⟩:=AW hs;have hi:=AR.1 hi;have hx:=Aa hi;unfold ju at he;rw[hx] at he;simp only at he;refine ⟨fun h => ?_,fun h => ?_⟩
  ·split at he
   ·cases he
   ·rename_i hn;cases he;exact absurd h hn
  ·rw[if_pos (h.node i _ hx)] at he;cases he
 | none =>
  have iD:∀ (i:Nat) (x:Node),l[i]? = some x->qF i x=0:=fun i x hx =>
   zgg hx (A9.1 hs i (AR.2 (Ac.1 hx).1))
  simp only;cases eJ:(List.range (l.length - 1)).findSome? (jL l) with
  | some e =>
   obtain ⟨i,hi,he⟩:=AW eJ;unfold jL at he;refine ⟨fun h => ?_,fun h => ?_⟩
   ·split at he
    ·cases he
    ·cases he;cases h
   ·rw[if_pos (h.use i (AR.1 hi))] at he;cases he
  | none =>
   refine ⟨fun _=>⟨by omega,by omega,iD,fun i hi => ?_⟩,fun _=>rfl⟩;have:=A9.1 eJ i (AR.2 hi);unfold jL at this;split at this
   ·assumption
   ·cases this
end
section
def cy (l:List Node):List ByteArray:=(l.filter fun x=>decide (x.op=2)).map Node.name
def zeI (l:List Node):(cy l).length<=l.length:=by unfold cy;rw[An];exact Br _ _
def refL_app (a b:List Node):cy (a++b)=cy a++cy b:=by unfold cy;rw[Cs,Bb]
end
section
section
variable {l:List Node}
end
end
section
end
section
def nmI (names:List ByteArray) (s:ByteArray):Int:=idxOf (fun y=>decide (y=s)) names
section
variable {l:List Node} {names:List ByteArray} {cells:List Cell}
end
end
section
end
end Ab
