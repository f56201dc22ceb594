import Derived.Test.YtckaniphjiniiaaGreatDoorH9
open List (le_refl)
set_option linter.all false
namespace Ab
open Go
section
def wK {σ α:Type} {B:σ->Option (LR σ α)} (st:Nat->σ) (n:Nat) (g:Nat->Option α) {d:σ} (h:∀i,i<n->(∀j,j<i->g j=none)->B (st i)=some (match g i with|some r=>.fin r|none=>.nx (st (i+1))))
  (hn:(∀j,j<n->g j=none)->B (st n)=some (.dn d)):lpO B (st 0)=some (match (List.range n).findSome? g with|some r=>.inr r|none=>.inl d):=by
 have key:∀(m k:Nat),k+m=n->(∀j,j<k->g j=none)->lpO B (st k)=some (match (List.range' k m).findSome? g with|some r=>.inr r|none=>.inl d):=by
  intro m
  induction m with
  | zero =>
   intro k hk hg;obtain rfl:k=n:=by omega
   rw[zF (hn hg)];rfl
  | succ m ih =>
   intro k hk hg;have hs:=h k (by omega) hg;rw[List.range'_succ,Cg];cases pT:g k with
   | some r=>rw[pT] at hs;rw[jo hs]
   | none =>
    rw[pT] at hs;rw[qh hs];exact ih (k+1) (by omega) fun j hj=>by
     by_cases e:j=k
     ·rw[e];exact pT
     ·exact hg j (by omega)
 rw[key n 0 (by omega) (fun j hj=>by omega),Ds]
def zmN (u:List Int) (x:Node):List Int :=
 if 3<=x.op then (u.set x.left.toNat (wi (u.getD x.left.toNat 0+1))).set x.right.toNat (wi ((u.set x.left.toNat (wi (u.getD x.left.toNat 0+1))).getD x.right.toNat 0+1)) else u
def zdA (l:List Node) (i:Nat):List Int:=(l.take i).foldl zmN (List.replicate l.length 0)
def useN_len (u:List Int) (x:Node):(zmN u x).length=u.length:=by unfold zmN;split<;>simp
def w8 (l:List Node) (i:Nat):(zdA l i).length=l.length:=by
 unfold zdA;generalize l.take i=r;have:∀(r:List Node) (u:List Int),(r.foldl zmN u).length=u.length:=by
  intro r
  induction r with
  | nil=>intro u;rfl
  | cons x r ih=>intro u;rw[Be,ih,useN_len]
 rw[this,BV]
def sI {l:List Node} {i:Nat} {x:Node} (h:l[i]? = some x):zdA l (i+1)=zmN (zdA l i) x:=yE _ _ _ h
def jW (l:List Node) (i:Nat):Option Int:=match l[i]? with|some x=>if qS i x=0 then none else some (qS i x)|none=>none
def yv (l:List Node) (i:Nat):Option Int:=if (zdA l l.length).getD i 0=1 then none else some 3
def zfB (l:List Node):Int :=
 if l.length=0 then 5 else if 30<l.length then 4 else
  match (List.range l.length).findSome? (jW l) with
  | some e=>e
  | none=>match (List.range (l.length-1)).findSome? (yv l) with
   | some e=>e
   | none=>0
def P251_eq {l:List Node} {i:Nat} {x:Node} (h:l[i]? = some x) (hi:i<=9223372036854775807):P251 l (i:Int)=some (zn (qS i x)):=by simp only[P251,zg,h,Ap];rw[zm (by omega)]
def P252_eq (n:Int):P252 n=some (decide (3<=n) && decide (n<=6)):=by by_cases h1:3<=n<;>by_cases h2:n<=6<;>simp[P252,S252,h1,h2]
def zgW {i:Nat} {x:Node} (h:qS i x=0):1<=x.op∧x.op<=6:=by
 unfold qS at h;split at h
 ·cases h
 ·omega
def ziv {i:Nat} {x:Node} (h:qS i x=0) (h3:3<=x.op):0<=x.left∧x.left<i∧0<=x.right∧x.right<i∧x.n=0∧x.name=⟨#[]⟩:=by
 have:=zgW h;unfold qS at h;rw[if_neg (by omega),if_neg (by omega),if_neg (by omega)] at h;split at h
 ·cases h
 ·split at h
  ·rename_i h1 h2;exact⟨by omega,by omega,by omega,by omega,h2.1,h2.2⟩
  ·cases h
def ziu {l:List Node} {i:Nat} {x:Node} (h:l[i]? = some x) (hn:jW l i=none):qS i x=0:=by
 unfold jW at hn;rw[h] at hn;simp only at hn;split at hn
 ·assumption
 ·cases hn
def wc {u:List Int} {k:Nat} (h:k<u.length):u[k]? = some (u.getD k 0):=by rw[An,Aa h];rfl
def zkN {α:Type} {u:List Int} {x:Node} {n:Nat} (hu:u.length=n) (h0:0<=x.left) (h1:x.left<n) (h2:0<=x.right) (h3:x.right<n) (h4:3<=x.op) (k:List Int->Option α) :
  (ck (decide (0<=Node.left x∧Node.left x<((List.length u:Nat):Int))) <|
   bno (u[(Int.toNat (Node.left x))]?) fun y5 =>
   ck (decide (0<=Node.left x∧Node.left x<((List.length u:Nat):Int))) <|
   bno (u[(Int.toNat (Node.left x))]?) fun y6 =>
   ck (decide (0<=Node.right x∧Node.right x<((List.length (List.set u (Int.toNat (Node.left x)) (wi (y5+(1:Int)))):Nat):Int))) <|
   bno ((List.set u (Int.toNat (Node.left x)) (wi (y5+(1:Int))))[(Int.toNat (Node.right x))]?) fun y7 =>
   ck (decide (0<=Node.right x∧Node.right x<((List.length (List.set u (Int.toNat (Node.left x)) (wi (y5+(1:Int)))):Nat):Int))) <|
   bno ((List.set u (Int.toNat (Node.left x)) (wi (y5+(1:Int))))[(Int.toNat (Node.right x))]?) fun y8 =>
   k (List.set (List.set u (Int.toNat (Node.left x)) (wi (y5+(1:Int)))) (Int.toNat (Node.right x)) (wi (y7+(1:Int)))))=k (zmN u x):=by
 have e1:u[x.left.toNat]? = some (u.getD x.left.toNat 0):=wc (by omega);have c1:0<=x.left∧x.left<((u.length:Nat):Int):=⟨h0,by omega⟩;rw[zm c1,e1];simp only[zj];rw[zm c1];have e2:(u.set x.left.toNat (wi (u.getD x.left.toNat 0+1)))[x.right.toNat]? = some ((u.set x.left.toNat (wi (u.getD x.left.toNat 0+1))).getD x.right.toNat 0):=wc (by rw[Cc];omega);have c2:0<=x.right∧x.right<(((u.set x.left.toNat (wi (u.getD x.left.toNat 0+1))).length:Nat):Int):=⟨h2,by rw[Cc];omega⟩;rw[zm c2,e2];simp only[zj];rw[zm c2];unfold zmN;rw[if_pos h4]
def P241_eq (l:List Node):P241 l=some (zn (zfB l)):=by
 simp only[P241,S241];unfold zfB;by_cases h0:l.length=0
 ·simp[h0,zn]
 by_cases h1:30<l.length
 ·have:(30:Int)<((l.length:Nat):Int):=by omega
  simp[h0,h1,this,zn]
 rw[zJ,if_neg (by omega),zJ,if_neg (by omega),zm ⟨by omega,C4 _,by unfold zC;omega⟩,if_neg h0,if_neg h1];have L1:=wK (B:=zhT P251 P252 l) (fun i=>((i:Int),zdA l i)) l.length (fun i=>(jW l i).map zn) (d:=((l.length:Int),zdA l l.length)) (fun i hi hg=>by
  have hx:=Aa hi;simp only[zhT];rw[zJ,if_pos (by omega)];simp only[zg,hx,zj,P251_eq hx (by omega),zB,jW,P252_eq];by_cases hz:qS i l[i]=0
  ·have dO:=zgW hz;have e4:wi ((i:Int)+1)=((i+1:Nat):Int):=by rw[zR (by omega) (by omega)];omega
   rw[sI hx];simp only[hz,decide_true,AW,za,if_true,Ca,e4];by_cases h3:3<=l[i].op
   ·obtain⟨a1,a2,a3,a4,_⟩:=ziv hz h3;have e6:(decide (3<=l[i].op) && decide (l[i].op<=6))=true:=by simp[h3,dO.2]
    simp only[e6,ze];have:=zkN (α:=Sum (List Int) (LR (Int×List Int) Err)) (u:=zdA l i) (x:=l[i]) (n:=l.length) (w8 l i) a1 (by omega) a3 (by omega) h3 (fun z=>zt (some z));rw[this];rfl
   ·have e6:(decide (3<=l[i].op) && decide (l[i].op<=6))=false:=by simp[h3]
    simp only[e6,za,zx,zY,zmN,if_neg h3];rfl
  ·simp only[hz,decide_false,BN,ze,if_false,AQ]
   rfl) (fun _=>by
  simp only[zhT];rw[zJ,if_neg (by omega)]
  rfl)
 have e0:((0:Int),List.replicate (Int.toNat ((l.length:Nat):Int)) (0:Int))=(((0:Nat):Int),zdA l 0):=by simp[zdA]
 rw[zW,e0,L1,qC];cases hs:(List.range l.length).findSome? (jW l) with
 | some e=>rfl
 | none =>
  simp only[Ca,zY];have L2:=wK (B:=zhS l ((l.length:Int),zdA l l.length)) (fun i=>(i:Int)) l.length (fun i=>if i<l.length-1 then (yv l i).map zn else none) (d:=((l.length:Nat):Int)) (fun i hi hg=>by
   simp only[zhS,w8];have e4:wi ((i:Int)+1)=((i+1:Nat):Int):=by rw[zR (by omega) (by omega)];omega
   have e5:wi (((l.length:Nat):Int)-1)=((l.length-1:Nat):Int):=by rw[zR (by omega) (by omega)];omega
   rw[zJ,if_pos (by omega),zm ⟨by omega,by omega⟩,Ap,wc (by rw[w8];exact hi)];simp only[zj,e4,e5,yv];by_cases c:(zdA l l.length).getD i 0=1
   ·simp only[c,not_true,decide_false,za,zx,zY,if_true,Ca,ite_self];rfl
   ·by_cases d:i<l.length-1
    ·have:(i:Int)<((l.length-1:Nat):Int):=by omega
     simp only[c,d,this,not_false_eq_true,decide_true,ze,zx,zY,if_false,if_true,AQ];rfl
    ·have:¬(i:Int)<((l.length-1:Nat):Int):=by omega
     simp only[c,d,this,not_false_eq_true,decide_true,decide_false,ze,zx,zY,za,if_false]
     rfl) (fun _=>by
   simp only[zhS,w8];rw[zJ,if_neg (by omega)]
   rfl)
  rw[zW,show (0:Int)=((0:Nat):Int) from rfl,L2];have e3:(List.range l.length).findSome? (fun i=>if i<l.length-1 then (yv l i).map zn else none)=((List.range (l.length-1)).findSome? (yv l)).map zn:=by
   obtain⟨n,hn⟩:∃n,l.length=n+1:=⟨l.length-1,by omega⟩;rw[←qC,hn,Cb,List.findSome?_append];simp only[Cm];have:∀(r:List Nat),(∀i∈r,i<n)->r.findSome? (fun i=>if i<n then (yv l i).map zn else none)=r.findSome? fun i=>(yv l i).map zn:=by
    intro r
    induction r with
    | nil=>intro _;rfl
    | cons a r ih =>intro h;rw[Cg,Cg,if_pos (h a (by simp)),ih fun i hi=>h i (Ad _ hi)]
   rw[this _ fun i hi=>AR.1 hi];simp
  rw[e3];cases (List.range (l.length-1)).findSome? (yv l) with
  | some e=>rfl
  | none=>rfl
def P240_eq (l:List Node):P240 l=some (zfB l):=by
 simp only[P240,S240];unfold zfB;by_cases h0:l.length=0
 ·simp[h0]
 by_cases h1:30<l.length
 ·have:(30:Int)<((l.length:Nat):Int):=by omega
  simp[h0,h1,this]
 rw[zJ,if_neg (by omega),zJ,if_neg (by omega),zm ⟨by omega,C4 _,by unfold zC;omega⟩,if_neg h0,if_neg h1];have L1:=wK (B:=zhV P97 l) (fun i=>((i:Int),zdA l i)) l.length (fun i=>jW l i) (d:=((l.length:Int),zdA l l.length)) (fun i hi hg=>by
  have hx:=Aa hi;have e4:wi ((i:Int)+1)=((i+1:Nat):Int):=by rw[zR (by omega) (by omega)];omega
  simp only[zhV];rw[zJ,if_pos (by omega)];simp only[zg,hx,zj,jW,P97_eq];rw[sI hx];generalize l[i]=x at hx;by_cases c1:x.op<1
  ·simp[qS,c1]
  by_cases c2:6<x.op
  ·simp[qS,c1,c2]
  by_cases c3:x.op=1
  ·have hu:zmN (zdA l i) x=zdA l i:=by unfold zmN;rw[if_neg (by omega)]
   by_cases c4:x.n<0
   ·simp[qS,c3,c4]
   by_cases c5:1000000<x.n
   ·simp[qS,c3,c4,c5]
   by_cases d1:x.name=⟨#[]⟩<;>by_cases d2:x.left=0<;>by_cases d3:x.right=0<;>simp[qS,c3,c4,c5,d1,d2,d3,hu,e4]
  by_cases c4:x.op=2
  ·have hu:zmN (zdA l i) x=zdA l i:=by unfold zmN;rw[if_neg (by omega)]
   by_cases c5:qg x.name=true
   ·simp[qS,c4,c5]
   simp only[BZ] at c5;by_cases d1:x.n=0<;>by_cases d2:x.left=0<;>by_cases d3:x.right=0<;>simp[qS,c4,c5,d1,d2,d3,hu,e4]
  by_cases c5:x.left<0
  ·simp[qS,c1,c2,c3,c4,c5]
  by_cases c6:(i:Int)<=x.left
  ·simp[qS,c1,c2,c3,c4,c5,c6]
  by_cases c7:x.right<0
  ·simp[qS,c1,c2,c3,c4,c5,c6,c7]
  by_cases c8:(i:Int)<=x.right
  ·simp[qS,c1,c2,c3,c4,c5,c6,c7,c8]
  by_cases d1:x.n=0
  ·by_cases d2:x.name=⟨#[]⟩
   ·have:=zkN (α:=Sum (List Int) (LR (Int×List Int) Int)) (u:=zdA l i) (x:=x) (n:=l.length) (w8 l i) (by omega) (by omega) (by omega) (by omega) (by omega) (fun z=>zt (some z));simp only[c1,c2,c3,c4,c5,c6,c7,c8,d1,d2,decide_true,decide_false,ze,za,zx,zY,not_true,qS,or_self,and_self,if_true,if_false];simp only[zx] at this;rw[this];simp[e4]
   ·simp[qS,c1,c2,c3,c4,c5,c6,c7,c8,d1,d2]
  ·simp[qS,c1,c2,c3,c4,c5,c6,c7,c8,d1]) (fun _=>by
  simp only[zhV];rw[zJ,if_neg (by omega)]
  rfl)
 have e0:((0:Int),List.replicate (Int.toNat ((l.length:Nat):Int)) (0:Int))=(((0:Nat):Int),zdA l 0):=by simp[zdA]
 rw[zW,e0,L1];cases hs:(List.range l.length).findSome? (jW l) with
 | some e=>rfl
 | none =>
  simp only[zY];have e5:wi (((l.length:Nat):Int)-1)=((l.length-1:Nat):Int):=by rw[zR (by omega) (by omega)];omega
  have L2:=wK (B:=zhU l ((l.length:Int),zdA l l.length)) (fun i=>(i:Int)) (l.length-1) (yv l) (d:=((l.length-1:Nat):Int)) (fun i hi hg=>by
   simp only[zhU,w8,e5];have e4:wi ((i:Int)+1)=((i+1:Nat):Int):=by rw[zR (by omega) (by omega)];omega
   rw[zJ,if_pos (by omega),zm ⟨by omega,by omega⟩,Ap,wc (by rw[w8];omega)];simp only[zj,e4,yv];by_cases c:(zdA l l.length).getD i 0=1
   ·simp only[c,not_true,decide_false,za,if_true];rfl
   ·simp only[c,not_false_eq_true,decide_true,ze,if_false]
    rfl) (fun _=>by
   simp only[zhU,e5];rw[zJ,if_neg (by omega)]
   rfl)
  rw[zW,show (0:Int)=((0:Nat):Int) from rfl,L2];cases (List.range (l.length-1)).findSome? (yv l) with
  | some e=>rfl
  | none=>rfl
structure FormOk (l:List Node):Prop where
 pos:0<l.length
 most:l.length<=30
 node:∀(i:Nat) (x:Node),l[i]? = some x->qS i x=0
 use:∀i,i<l.length-1->(zdA l l.length).getD i 0=1
def form_ok {l:List Node}:zfB l=0↔FormOk l:=by
 unfold zfB;by_cases h0:l.length=0
 ·rw[if_pos h0];exact⟨fun h=>(by cases h),fun h=>by have:=h.pos;omega⟩
 by_cases h1:30<l.length
 ·rw[if_neg h0,if_pos h1];exact⟨fun h=>(by cases h),fun h=>by have:=h.most;omega⟩
 rw[if_neg h0,if_neg h1];cases hs:(List.range l.length).findSome? (jW l) with
 | some e =>
  obtain⟨i,hi,he⟩:=AO hs;have hi:=AR.1 hi;have hx:=Aa hi;unfold jW at he;rw[hx] at he;simp only at he;refine⟨fun h => ?_,fun h => ?_⟩
  ·split at he
   ·cases he
   ·rename_i hn;cases he;exact absurd h hn
  ·rw[if_pos (h.node i _ hx)] at he;cases he
 | none =>
  have dw:∀(i:Nat) (x:Node),l[i]? = some x->qS i x=0:=fun i x hx =>
   ziu hx (A9.1 hs i (AR.2 (Ac.1 hx).1))
  simp only;cases dN:(List.range (l.length-1)).findSome? (yv l) with
  | some e =>
   obtain⟨i,hi,he⟩:=AO dN;unfold yv at he;refine⟨fun h => ?_,fun h => ?_⟩
   ·split at he
    ·cases he
    ·cases he;cases h
   ·rw[if_pos (h.use i (AR.1 hi))] at he;cases he
  | none =>
   refine⟨fun _=>⟨by omega,by omega,dw,fun i hi => ?_⟩,fun _=>rfl⟩;have:=A9.1 dN i (AR.2 hi);unfold yv at this;split at this
   ·assumption
   ·cases this
end
section
def l8_trans {x y z:List UInt8} (h:x<y) (k:y<z):x<z:=List.lt_trans h k
def l8_le {x y:List UInt8}:x<=y↔x<y∨x=y:=by
 refine⟨fun h => ?_,fun h => ?_⟩
 ·by_cases e:x=y
  ·exact .inr e
  ·exact .inl (Decidable.byContradiction fun hn=>e (List.le_antisymm h (List.not_lt.1 hn)))
 ·rcases h with h|rfl
  ·exact List.le_of_lt h
  ·exact le_refl x
def zkl (zs:List (List UInt8)) (hz:zs.Pairwise (·<=·)):∀m,m<=zs.length->(Lib.compactUpTo zs.toArray m).Pairwise (· < ·)∧(∀x,x∈Lib.compactUpTo zs.toArray m↔x∈zs.take m)∧∀k y,m=k+1->zs[k]? = some y->∀x∈Lib.compactUpTo zs.toArray m,x<=y:=by
 intro m
 induction m with
 | zero=>intro _;exact⟨by simp[Lib.compactUpTo],by simp[Lib.compactUpTo],fun k y e=>by omega⟩
 | succ m ih =>
  intro hm;obtain⟨i1,i2,i3⟩:=ih (by omega);have hg:zs[m]? = some zs[m]:=Aa (by omega);have e1:zs.toArray[m]! = zs[m]:=by simp[getElem!_pos,show m<zs.length by omega]
  have ht:zs.take (m+1)=zs.take m++[zs[m]]:=by rw[BL,hg];rfl
  rw[Lib.compactUpTo_succ,e1];by_cases hk:Lib.keeps zs.toArray m=true
  ·rw[if_pos hk];have aj:∀x∈Lib.compactUpTo zs.toArray m,x<zs[m]:=by
    intro x hx;cases m with
    | zero=>simp[Lib.compactUpTo] at hx
    | succ k =>
     have h1:=i3 k zs[k] rfl (Aa (by omega)) x hx;have h2:zs[k]<=zs[k+1]:=(Cw.1 hz) k (k+1) (by omega) (by omega) (by omega);have e2:zs.toArray[k]! = zs[k]:=by simp[getElem!_pos,show k<zs.length by omega]
     have h3:zs[k+1]≠zs[k]:=by
      unfold Lib.keeps at hk;have:=of_decide_eq_true hk;rcases this with h|h
      ·omega
      ·rw[Cm,e2,e1] at h;exact h
     rcases l8_le.1 h2 with h2|h2
     ·rcases l8_le.1 h1 with h1|rfl
      ·exact l8_trans h1 h2
      ·exact h2
     ·exact absurd h2.symm h3
   refine⟨BD.2 ⟨i1,by simp,fun x hx y hy => ?_⟩,fun x => ?_,fun k y e hy x hx => ?_⟩
   ·obtain rfl:=Ah.1 hy;exact aj x hx
   ·rw[ht,Aj,Aj,i2]
   ·obtain rfl:k=m:=by omega
    rw[hg] at hy;cases hy;rcases Aj.1 hx with hx|hx
    ·exact l8_le.2 (.inl (aj x hx))
    ·obtain rfl:=Ah.1 hx;exact le_refl _
  ·rw[if_neg hk,Bl];cases m with
   | zero=>exact absurd (Lib.keeps_lt_one _ 0 (by omega)) hk
   | succ k =>
    have e2:zs.toArray[k]! = zs[k]:=by simp[getElem!_pos,show k<zs.length by omega]
    have h3:zs[k+1]=zs[k]:=(by unfold Lib.keeps at hk;have h:=hk;rw[decide_eq_true_eq] at h;have h:=not_or.1 h;have:=Decidable.not_not.1 h.2;rw[Cm,e2,e1] at this;exact this);refine⟨i1,fun x => ?_,fun k' y e hy x hx => ?_⟩
    ·rw[ht,Aj,i2,Ah];refine⟨.inl,fun h => ?_⟩;rcases h with h|rfl
     ·exact h
     ·rw[h3];exact C0.2 ⟨k,by omega,rfl⟩
    ·obtain rfl:k'=k+1:=by omega
     rw[hg] at hy;cases hy;rw[h3];exact i3 k zs[k] rfl (Aa (by omega)) x hx
def sort8 (l:List (List UInt8)):(l.mergeSort fun x y=>decide (x<=y)).Pairwise (·<=·):=by have h:=List.pairwise_mergeSort (le:=fun (x y:List UInt8)=>decide (x<=y)) (fun a b c h1 h2=>by simp only[decide_eq_true_eq] at *;exact List.le_trans h1 h2) (fun a b=>by simp only[B5,decide_eq_true_eq];exact List.le_total a b) l;exact h.imp fun h=>by simpa using h
def compS_sL (l:List ByteArray):(sL (compS (sortS l))).Pairwise (· < ·)∧∀x,x∈sL (compS (sortS l))↔x∈sL l:=by
 have sb:∀z:List (List UInt8),sL (bL z)=z:=by
  intro z;unfold sL bL;rw[A6]
  conv=>rhs;rw[←List.map_id z]
  exact Am fun s _=>by simp
 have e:sL (compS (sortS l))=Lib.compact ((sL l).mergeSort fun x y=>decide (x<=y)):=(by unfold compS sortS;rw[sb,sb]);obtain⟨h1,h2,_⟩:=zkl _ (sort8 (sL l)) _ (Az _);rw[e];unfold Lib.compact;refine⟨h1,fun x => ?_⟩;rw[h2,BA];exact (List.mergeSort_perm _ _).mem_iff
def cntB (out:List ByteArray) (s:ByteArray):Nat:=(out.takeWhile fun a=>Op.bytesLess a.toList s.toList).length
def insB (out:List ByteArray) (s:ByteArray):List ByteArray:=if out[cntB out s]? = some s then out else out.take (cntB out s)++[s]++out.drop (cntB out s)
def zgJ (l:List Node):List ByteArray:=(l.filter fun x=>decide (x.op=2)).map Node.name
def refsOf (l:List Node):List ByteArray:=compS (sortS (zgJ l))
def insL (l:List Node):List ByteArray:=l.foldl (fun out x=>if x.op=2 then insB out x.name else out) []
def zgI (l:List Node):(zgJ l).length<=l.length:=by unfold zgJ;rw[Aq];exact BR _ _
def zfT {l:List Node} {s:ByteArray}:s∈refsOf l↔∃x∈l,x.op=2∧x.name=s:=by have ay:∀ {a b:ByteArray},a.data.toList=b.data.toList->a=b:=fun {a b} h=>(by obtain⟨⟨a⟩⟩:=a;obtain⟨⟨b⟩⟩:=b;simp at h;subst h;rfl);have h:=(compS_sL (zgJ l)).2 s.data.toList;have m:∀(r:List ByteArray),s.data.toList∈sL r↔s∈r:=fun r=>(by unfold sL;rw[Al];exact⟨fun⟨b,hb,e⟩=>ay e▸hb,fun h=>⟨s,h,rfl⟩⟩);rw[m,m] at h;unfold refsOf;rw[h];simp only[zgJ,Al,BH,decide_eq_true_eq];exact⟨fun⟨x,⟨h1,h2⟩,h3⟩=>⟨x,h1,h2,h3⟩,fun⟨x,h1,h2,h3⟩=>⟨x,⟨h1,h2⟩,h3⟩⟩
def refL_app (a b:List Node):zgJ (a++b)=zgJ a++zgJ b:=by unfold zgJ;rw[CW,Bc]
end
section
section
variable {l:List Node}
end
end
section
end
section
def nmI (names:List ByteArray) (s:ByteArray):Int:=idxOf (fun y=>decide (y=s)) names
def nmI_in {names:List ByteArray} {s:ByteArray} (h:s∈names):∃i:Nat,nmI names s=(i:Int)∧i<names.length:=by
 unfold nmI idxOf;cases hf:names.findIdx? (fun y=>decide (y=s)) with
 | none =>have:=Cx.1 hf s h;simp at this
 | some i=>exact⟨i,rfl,(BJ.1 hf).1⟩
def zfE (names:List ByteArray) (cells out:List Cell) (x:Node):Cell :=
 if x.op=1 then jT x.n
 else if x.op=2 then cells.getD (nmI names x.name).toNat ⟨0,0⟩
 else if x.op=3 then zbb (out.getD x.left.toNat ⟨0,0⟩) (out.getD x.right.toNat ⟨0,0⟩) 1
 else if x.op=4 then zbb (out.getD x.left.toNat ⟨0,0⟩) (out.getD x.right.toNat ⟨0,0⟩) (-1)
 else if x.op=5 then zge (out.getD x.left.toNat ⟨0,0⟩) (out.getD x.right.toNat ⟨0,0⟩)
 else cover (out.getD x.left.toNat ⟨0,0⟩) (out.getD x.right.toNat ⟨0,0⟩)
def evL (l:List Node) (names:List ByteArray) (cells:List Cell) (k:Nat):List Cell:=(l.take k).foldl (fun out x=>out++[zfE names cells out x]) []
section
variable {l:List Node} {names:List ByteArray} {cells:List Cell}
def zhc {i:Nat} {x:Node} (h:l[i]? = some x):evL l names cells (i+1)=evL l names cells i++[zfE names cells (evL l names cells i) x]:=yE _ _ _ h
def zcH:∀(k:Nat),k<=l.length->(evL l names cells k).length=k
 | 0,_=>rfl
 | k+1,h=>by rw[zhc (Aa (by omega)),AB,zcH k (by omega)];rfl
def zaL (n:Int):within (jT n).n=true:=by
 unfold jT;split
 ·assumption
 ·rfl
def cellN_in (hc:∀c∈cells,within c.n=true) (out:List Cell) (x:Node):within (zfE names cells out x).n=true:=by
 have h0:within 0=true:=rfl;unfold zfE;split
 ·exact zaL _
 ·split
  ·rw[An];cases h:cells[(nmI names x.name).toNat]? with
   | none=>exact h0
   | some c=>exact hc c (Ae h)
  ·have hp:∀a b s,within (zbb a b s).n=true:=by
    intro a b s;unfold zbb
    repeat' split
    all_goals first|exact h0|exact zaL _
   split
   ·exact hp _ _ _
   ·split
    ·exact hp _ _ _
    ·split
     ·unfold zge
      repeat' split
      all_goals first|exact h0|exact zaL _
     ·unfold cover
      repeat' split
      all_goals first|exact h0|exact zaL _
def evL_in (hc:∀c∈cells,within c.n=true):∀(k:Nat),k<=l.length->∀j,within ((evL l names cells k).getD j ⟨0,0⟩).n=true
 | 0,_,j=>rfl
 | k+1,h,j=>by
  rw[zhc (Aa (by omega))];simp only[An];by_cases hj:j<k
  ·rw[AG (by rw[zcH _ (by omega)];omega)];have:=evL_in hc k (by omega) j;rw[An] at this;exact this
  ·rw[AM (by rw[zcH _ (by omega)];omega),zcH _ (by omega)];by_cases e:j=k
   ·subst e;simpa using cellN_in hc _ _
   ·rw[Bu (by simp;omega)];rfl
end
end
section
end
end Ab
