import Derived.Test.YtchidgkpkhloeaaGreatDoorH9
open List (le_refl not_lt)
set_option linter.all false
namespace Ab
open Go
section
def q8 {σ α:Type} {B:σ->Option (LR σ α)} (st:Nat->σ) (n:Nat) (g:Nat->Option α) {d:σ} (h:∀ i,i < n->(∀ j,j < i->g j=none)->B (st i)=some (match g i with | some r=>.fin r | none=>.nx (st (i+1))))
  (hn:(∀ j,j < n->g j=none)->B (st n)=some (.dn d)):lpO B (st 0)=some (match (List.range n).findSome? g with | some r=>.inr r | none=>.inl d):=by
 have key:∀ (m k:Nat),k+m=n->(∀ j,j < k->g j=none)->lpO B (st k)=some (match (List.range' k m).findSome? g with | some r=>.inr r | none=>.inl d):=by
  intro m
  induction m with
  | zero =>
   intro k hk hg;obtain rfl:k=n:=by omega
   rw[zI (hn hg)];rfl
  | succ m ih =>
   intro k hk hg;have hs:=h k (by omega) hg;rw[List.range'_succ,B3];cases fK:g k with
   | some r=>rw[fK] at hs;rw[zac hs]
   | none =>
    rw[fK] at hs;rw[wg hs];exact ih (k+1) (by omega) fun j hj=>by
     by_cases e:j=k
     ·rw[e];exact fK
     ·exact hg j (by omega)
 rw[key n 0 (by omega) (fun j hj=>by omega),B9]
def zld (u:List Int) (x:Node):List Int :=
 if 3<=x.op then (u.set x.left.toNat (wi (u.getD x.left.toNat 0+1))).set x.right.toNat (wi ((u.set x.left.toNat (wi (u.getD x.left.toNat 0+1))).getD x.right.toNat 0+1)) else u
def zc3 (l:List Node) (i:Nat):List Int:=(l.take i).foldl zld (List.replicate l.length 0)
def useN_len (u:List Int) (x:Node):(zld u x).length=u.length:=by unfold zld;split<;>simp
def ws (l:List Node) (i:Nat):(zc3 l i).length=l.length:=by
 unfold zc3;generalize l.take i=r;have:∀ (r:List Node) (u:List Int),(r.foldl zld u).length=u.length:=by
  intro r
  induction r with
  | nil=>intro u;rfl
  | cons x r ih=>intro u;rw[Bf,ih,useN_len]
 rw[this,BN]
def zgN {l:List Node} {i:Nat} {x:Node} (h:l[i]? = some x):zc3 l (i+1)=zld (zc3 l i) x:=jq _ _ _ h
def jO (l:List Node) (i:Nat):Option Int:=match l[i]? with | some x=>if qY i x=0 then none else some (qY i x) | none=>none
def yi (l:List Node) (i:Nat):Option Int:=if (zc3 l l.length).getD i 0=1 then none else some 3
def zeG (l:List Node):Int :=
 if l.length=0 then 5 else if 30 < l.length then 4 else
  match (List.range l.length).findSome? (jO l) with
  | some e=>e
  | none=>match (List.range (l.length - 1)).findSome? (yi l) with
   | some e=>e
   | none=>0
def P251_eq {l:List Node} {i:Nat} {x:Node} (h:l[i]? = some x) (hi:i<=9223372036854775807):P251 l (i:Int)=some (zB (qY i x)):=by simp only[P251,za,h,Aj];rw[zp (by omega)]
def P252_eq (n:Int):P252 n=some (decide (3<=n) && decide (n<=6)):=by by_cases h1:3<=n<;>by_cases h2:n<=6<;>simp[P252,S252,h1,h2]
def zc4 {i:Nat} {x:Node} (h:qY i x=0):1<=x.op∧x.op<=6:=by
 unfold qY at h;split at h
 ·cases h
 ·omega
def zdv {i:Nat} {x:Node} (h:qY i x=0) (h3:3<=x.op):0<=x.left∧x.left < i∧0<=x.right∧x.right < i∧x.n=0∧x.name=⟨#[]⟩:=by
 have:=zc4 h;unfold qY at h;rw[if_neg (by omega),if_neg (by omega),if_neg (by omega)] at h;split at h
 ·cases h
 ·split at h
  ·rename_i h1 h2;exact ⟨by omega,by omega,by omega,by omega,h2.1,h2.2⟩
  ·cases h
def zg8 {l:List Node} {i:Nat} {x:Node} (h:l[i]? = some x) (hn:jO l i=none):qY i x=0:=by
 unfold jO at hn;rw[h] at hn;simp only at hn;split at hn
 ·assumption
 ·cases hn
def yH {u:List Int} {k:Nat} (h:k < u.length):u[k]? = some (u.getD k 0):=by rw[Ad,Aa h];rfl
def zjh {α:Type} {u:List Int} {x:Node} {n:Nat} (hu:u.length=n) (h0:0<=x.left) (h1:x.left < n) (h2:0<=x.right) (h3:x.right < n) (h4:3<=x.op) (k:List Int->Option α) :
  (ck (decide (0<=Node.left x∧Node.left x < ((List.length u:Nat):Int))) <|
   bno (u[(Int.toNat (Node.left x))]?) fun y5 =>
   ck (decide (0<=Node.left x∧Node.left x < ((List.length u:Nat):Int))) <|
   bno (u[(Int.toNat (Node.left x))]?) fun y6 =>
   ck (decide (0<=Node.right x∧Node.right x < ((List.length (List.set u (Int.toNat (Node.left x)) (wi (y5+(1:Int)))):Nat):Int))) <|
   bno ((List.set u (Int.toNat (Node.left x)) (wi (y5+(1:Int))))[(Int.toNat (Node.right x))]?) fun y7 =>
   ck (decide (0<=Node.right x∧Node.right x < ((List.length (List.set u (Int.toNat (Node.left x)) (wi (y5+(1:Int)))):Nat):Int))) <|
   bno ((List.set u (Int.toNat (Node.left x)) (wi (y5+(1:Int))))[(Int.toNat (Node.right x))]?) fun y8 =>
   k (List.set (List.set u (Int.toNat (Node.left x)) (wi (y5+(1:Int)))) (Int.toNat (Node.right x)) (wi (y7+(1:Int)))))=k (zld u x):=by
 have e1:u[x.left.toNat]? = some (u.getD x.left.toNat 0):=yH (by omega);have c1:0<=x.left∧x.left < ((u.length:Nat):Int):=⟨h0,by omega⟩;rw[zp c1,e1];simp only[zi];rw[zp c1];have e2:(u.set x.left.toNat (wi (u.getD x.left.toNat 0+1)))[x.right.toNat]? = some ((u.set x.left.toNat (wi (u.getD x.left.toNat 0+1))).getD x.right.toNat 0):=yH (by rw[Ck];omega);have c2:0<=x.right∧x.right < (((u.set x.left.toNat (wi (u.getD x.left.toNat 0+1))).length:Nat):Int):=⟨h2,by rw[Ck];omega⟩;rw[zp c2,e2];simp only[zi];rw[zp c2];unfold zld;rw[if_pos h4]
def P241_eq (l:List Node):P241 l=some (zB (zeG l)):=by
 simp only[P241,S241];unfold zeG;by_cases h0:l.length=0
 ·simp[h0,zB]
 by_cases h1:30 < l.length
 ·have:(30:Int) < ((l.length:Nat):Int):=by omega
  simp[h0,h1,this,zB]
 rw[zh,if_neg (by omega),zh,if_neg (by omega),zp ⟨by omega,Ca _,by unfold zu;omega⟩,if_neg h0,if_neg h1];have L1:=q8 (B:=zgz P251 P252 l) (fun i=>((i:Int),zc3 l i)) l.length (fun i=>(jO l i).map zB) (d:=((l.length:Int),zc3 l l.length)) (fun i hi hg=>by
  have hx:=Aa hi;simp only[zgz];rw[zh,if_pos (by omega)];simp only[za,hx,zi,P251_eq hx (by omega),zW,jO,P252_eq];by_cases hz:qY i l[i]=0
  ·have cW:=zc4 hz;have e4:wi ((i:Int)+1)=((i+1:Nat):Int):=by rw[qp (by omega) (by omega)];omega
   rw[zgN hx];simp only[hz,decide_true,Bm,zd,if_true,Bt,e4];by_cases h3:3<=l[i].op
   ·obtain ⟨a1,a2,a3,a4,_⟩:=zdv hz h3;have e6:(decide (3<=l[i].op) && decide (l[i].op<=6))=true:=by simp[h3,cW.2]
    simp only[e6,zo];have:=zjh (α:=Sum (List Int) (LR (Int×List Int) Err)) (u:=zc3 l i) (x:=l[i]) (n:=l.length) (ws l i) a1 (by omega) a3 (by omega) h3 (fun z=>zt (some z));rw[this];rfl
   ·have e6:(decide (3<=l[i].op) && decide (l[i].op<=6))=false:=by simp[h3]
    simp only[e6,zd,zq,zX,zld,if_neg h3];rfl
  ·simp only[hz,decide_false,BH,zo,if_false,AA]
   rfl) (fun _=>by
  simp only[zgz];rw[zh,if_neg (by omega)]
  rfl)
 have e0:((0:Int),List.replicate (Int.toNat ((l.length:Nat):Int)) (0:Int))=(((0:Nat):Int),zc3 l 0):=by simp[zc3]
 rw[zV,e0,L1,zZ];cases hs:(List.range l.length).findSome? (jO l) with
 | some e=>rfl
 | none =>
  simp only[Bt,zX];have L2:=q8 (B:=zgy l ((l.length:Int),zc3 l l.length)) (fun i=>(i:Int)) l.length (fun i=>if i < l.length - 1 then (yi l i).map zB else none) (d:=((l.length:Nat):Int)) (fun i hi hg=>by
   simp only[zgy,ws];have e4:wi ((i:Int)+1)=((i+1:Nat):Int):=by rw[qp (by omega) (by omega)];omega
   have e5:wi (((l.length:Nat):Int) - 1)=((l.length - 1:Nat):Int):=by rw[qp (by omega) (by omega)];omega
   rw[zh,if_pos (by omega),zp ⟨by omega,by omega⟩,Aj,yH (by rw[ws];exact hi)];simp only[zi,e4,e5,yi];by_cases c:(zc3 l l.length).getD i 0=1
   ·simp only[c,not_true,decide_false,zd,zq,zX,if_true,Bt,ite_self];rfl
   ·by_cases d:i < l.length - 1
    ·have:(i:Int) < ((l.length - 1:Nat):Int):=by omega
     simp only[c,d,this,not_false_eq_true,decide_true,zo,zq,zX,if_false,if_true,AA];rfl
    ·have:¬ (i:Int) < ((l.length - 1:Nat):Int):=by omega
     simp only[c,d,this,not_false_eq_true,decide_true,decide_false,zo,zq,zX,zd,if_false]
     rfl) (fun _=>by
   simp only[zgy,ws];rw[zh,if_neg (by omega)]
   rfl)
  rw[zV,show (0:Int)=((0:Nat):Int) from rfl,L2];have e3:(List.range l.length).findSome? (fun i=>if i < l.length - 1 then (yi l i).map zB else none)=((List.range (l.length - 1)).findSome? (yi l)).map zB:=by
   obtain ⟨n,hn⟩:∃ n,l.length=n+1:=⟨l.length - 1,by omega⟩;rw[← zZ,hn,Ci,List.findSome?_append];simp only[Cm];have:∀ (r:List Nat),(∀ i∈r,i < n)->r.findSome? (fun i=>if i < n then (yi l i).map zB else none)=r.findSome? fun i=>(yi l i).map zB:=by
    intro r
    induction r with
    | nil=>intro _;rfl
    | cons a r ih =>intro h;rw[B3,B3,if_pos (h a (by simp)),ih fun i hi=>h i (Af _ hi)]
   rw[this _ fun i hi=>AU.1 hi];simp
  rw[e3];cases (List.range (l.length - 1)).findSome? (yi l) with
  | some e=>rfl
  | none=>rfl
def P240_eq (l:List Node):P240 l=some (zeG l):=by
 simp only[P240,S240];unfold zeG;by_cases h0:l.length=0
 ·simp[h0]
 by_cases h1:30 < l.length
 ·have:(30:Int) < ((l.length:Nat):Int):=by omega
  simp[h0,h1,this]
 rw[zh,if_neg (by omega),zh,if_neg (by omega),zp ⟨by omega,Ca _,by unfold zu;omega⟩,if_neg h0,if_neg h1];have L1:=q8 (B:=zgB P97 l) (fun i=>((i:Int),zc3 l i)) l.length (fun i=>jO l i) (d:=((l.length:Int),zc3 l l.length)) (fun i hi hg=>by
  have hx:=Aa hi;have e4:wi ((i:Int)+1)=((i+1:Nat):Int):=by rw[qp (by omega) (by omega)];omega
  simp only[zgB];rw[zh,if_pos (by omega)];simp only[za,hx,zi,jO,P97_eq];rw[zgN hx];generalize l[i]=x at hx;by_cases c1:x.op < 1
  ·simp[qY,c1]
  by_cases c2:6 < x.op
  ·simp[qY,c1,c2]
  by_cases c3:x.op=1
  ·have hu:zld (zc3 l i) x=zc3 l i:=by unfold zld;rw[if_neg (by omega)]
   by_cases c4:x.n < 0
   ·simp[qY,c3,c4]
   by_cases c5:1000000 < x.n
   ·simp[qY,c3,c4,c5]
   by_cases d1:x.name=⟨#[]⟩<;>by_cases d2:x.left=0<;>by_cases d3:x.right=0<;>simp[qY,c3,c4,c5,d1,d2,d3,hu,e4]
  by_cases c4:x.op=2
  ·have hu:zld (zc3 l i) x=zc3 l i:=by unfold zld;rw[if_neg (by omega)]
   by_cases c5:qm x.name=true
   ·simp[qY,c4,c5]
   simp only[BA] at c5;by_cases d1:x.n=0<;>by_cases d2:x.left=0<;>by_cases d3:x.right=0<;>simp[qY,c4,c5,d1,d2,d3,hu,e4]
  by_cases c5:x.left < 0
  ·simp[qY,c1,c2,c3,c4,c5]
  by_cases c6:(i:Int)<=x.left
  ·simp[qY,c1,c2,c3,c4,c5,c6]
  by_cases c7:x.right < 0
  ·simp[qY,c1,c2,c3,c4,c5,c6,c7]
  by_cases c8:(i:Int)<=x.right
  ·simp[qY,c1,c2,c3,c4,c5,c6,c7,c8]
  by_cases d1:x.n=0
  ·by_cases d2:x.name=⟨#[]⟩
   ·have:=zjh (α:=Sum (List Int) (LR (Int×List Int) Int)) (u:=zc3 l i) (x:=x) (n:=l.length) (ws l i) (by omega) (by omega) (by omega) (by omega) (by omega) (fun z=>zt (some z));simp only[c1,c2,c3,c4,c5,c6,c7,c8,d1,d2,decide_true,decide_false,zo,zd,zq,zX,not_true,qY,or_self,and_self,if_true,if_false];simp only[zq] at this;rw[this];simp[e4]
   ·simp[qY,c1,c2,c3,c4,c5,c6,c7,c8,d1,d2]
  ·simp[qY,c1,c2,c3,c4,c5,c6,c7,c8,d1]) (fun _=>by
  simp only[zgB];rw[zh,if_neg (by omega)]
  rfl)
 have e0:((0:Int),List.replicate (Int.toNat ((l.length:Nat):Int)) (0:Int))=(((0:Nat):Int),zc3 l 0):=by simp[zc3]
 rw[zV,e0,L1];cases hs:(List.range l.length).findSome? (jO l) with
 | some e=>rfl
 | none =>
  simp only[zX];have e5:wi (((l.length:Nat):Int) - 1)=((l.length - 1:Nat):Int):=by rw[qp (by omega) (by omega)];omega
  have L2:=q8 (B:=zgA l ((l.length:Int),zc3 l l.length)) (fun i=>(i:Int)) (l.length - 1) (yi l) (d:=((l.length - 1:Nat):Int)) (fun i hi hg=>by
   simp only[zgA,ws,e5];have e4:wi ((i:Int)+1)=((i+1:Nat):Int):=by rw[qp (by omega) (by omega)];omega
   rw[zh,if_pos (by omega),zp ⟨by omega,by omega⟩,Aj,yH (by rw[ws];omega)];simp only[zi,e4,yi];by_cases c:(zc3 l l.length).getD i 0=1
   ·simp only[c,not_true,decide_false,zd,if_true];rfl
   ·simp only[c,not_false_eq_true,decide_true,zo,if_false]
    rfl) (fun _=>by
   simp only[zgA,e5];rw[zh,if_neg (by omega)]
   rfl)
  rw[zV,show (0:Int)=((0:Nat):Int) from rfl,L2];cases (List.range (l.length - 1)).findSome? (yi l) with
  | some e=>rfl
  | none=>rfl
structure FormOk (l:List Node):Prop where
 pos:0 < l.length
 most:l.length<=30
 node:∀ (i:Nat) (x:Node),l[i]? = some x->qY i x=0
 use:∀ i,i < l.length - 1->(zc3 l l.length).getD i 0=1
def form_ok {l:List Node}:zeG l=0↔FormOk l:=by
 unfold zeG;by_cases h0:l.length=0
 ·rw[if_pos h0];exact ⟨fun h=>(by cases h),fun h=>by have:=h.pos;omega⟩
 by_cases h1:30 < l.length
 ·rw[if_neg h0,if_pos h1];exact ⟨fun h=>(by cases h),fun h=>by have:=h.most;omega⟩
 rw[if_neg h0,if_neg h1];cases hs:(List.range l.length).findSome? (jO l) with
 | some e =>
  obtain ⟨i,hi,he⟩:=Ax hs;have hi:=AU.1 hi;have hx:=Aa hi;unfold jO at he;rw[hx] at he;simp only at he;refine ⟨fun h => ?_,fun h => ?_⟩
  ·split at he
   ·cases he
   ·rename_i hn;cases he;exact absurd h hn
  ·rw[if_pos (h.node i _ hx)] at he;cases he
 | none =>
  have bG:∀ (i:Nat) (x:Node),l[i]? = some x->qY i x=0:=fun i x hx =>
   zg8 hx (A8.1 hs i (AU.2 (Ac.1 hx).1))
  simp only;cases cV:(List.range (l.length - 1)).findSome? (yi l) with
  | some e =>
   obtain ⟨i,hi,he⟩:=Ax cV;unfold yi at he;refine ⟨fun h => ?_,fun h => ?_⟩
   ·split at he
    ·cases he
    ·cases he;cases h
   ·rw[if_pos (h.use i (AU.1 hi))] at he;cases he
  | none =>
   refine ⟨fun _=>⟨by omega,by omega,bG,fun i hi => ?_⟩,fun _=>rfl⟩;have:=A8.1 cV i (AU.2 hi);unfold yi at this;split at this
   ·assumption
   ·cases this
end
section
def zfZ:∀ (x y:List UInt8),Op.bytesLess x y=decide (x < y)
 | [],[]=>by simp[Op.bytesLess]
 | _ :: _,[]=>by simp[Op.bytesLess]
 | [],_ :: _=>by simp[Op.bytesLess]
 | a :: x,b :: y=>by
  rw[Op.bytesLess,zfZ x y];simp only[List.cons_lt_cons_iff];by_cases h1:a < b<;>by_cases h2:a=b<;>by_cases h3:x < y<;>simp[h1,h2,h3]
def zjj (s:ByteArray):s.toList=s.data.toList:=ByteArray.toList_eq s
def zdy (x:List UInt8):¬ x < x:=List.lt_irrefl x
def zfD {x y z:List UInt8} (h:x < y) (k:y < z):x < z:=List.lt_trans h k
def l8_le {x y:List UInt8}:x<=y↔x < y∨x=y:=by
 refine ⟨fun h => ?_,fun h => ?_⟩
 ·by_cases e:x=y
  ·exact .inr e
  ·exact .inl (Decidable.byContradiction fun hn=>e (List.le_antisymm h (not_lt.1 hn)))
 ·rcases h with h | rfl
  ·exact List.le_of_lt h
  ·exact le_refl x
def zeK:∀ {as bs:List (List UInt8)},as.Pairwise (· < ·)->bs.Pairwise (· < ·)->(∀ x,x∈as↔x∈bs)->as=bs
 | [],[],_,_,_=>rfl
 | [],b :: bs,_,_,h=>absurd ((h b).2 (by simp)) (by simp)
 | a :: as,[],_,_,h=>absurd ((h a).1 (by simp)) (by simp)
 | a :: as,b :: bs,ha,hb,h=>by
  obtain ⟨nW,fy⟩:=BP.1 ha;obtain ⟨eJ,cA⟩:=BP.1 hb;have e:a=b:=by
   rcases Au.1 ((h a).1 (by simp)) with e | hm
   ·exact e
   ·rcases Au.1 ((h b).2 (by simp)) with e | fi
    ·exact e.symm
    ·exact absurd (zfD (eJ a hm) (nW b fi)) (zdy b)
  subst e;congr 1;refine zeK fy cA fun x => ?_;have hx:=h x;simp only[Au] at hx;refine ⟨fun hm => ?_,fun hm => ?_⟩
  ·rcases hx.1 (.inr hm) with rfl | fi
   ·exact absurd (nW x hm) (zdy x)
   ·exact fi
  ·rcases hx.2 (.inr hm) with rfl | fi
   ·exact absurd (eJ x hm) (zdy x)
   ·exact fi
def ziJ (zs:List (List UInt8)) (hz:zs.Pairwise (·<=·)):∀ m,m<=zs.length->(Lib.compactUpTo zs.toArray m).Pairwise (· < ·)∧(∀ x,x∈Lib.compactUpTo zs.toArray m↔x∈zs.take m)∧∀ k y,m=k+1->zs[k]? = some y->∀ x∈Lib.compactUpTo zs.toArray m,x<=y:=by
 intro m
 induction m with
 | zero=>intro _;exact ⟨by simp[Lib.compactUpTo],by simp[Lib.compactUpTo],fun k y e=>by omega⟩
 | succ m ih =>
  intro hm;obtain ⟨i1,i2,i3⟩:=ih (by omega);have hg:zs[m]? = some zs[m]:=Aa (by omega);have e1:zs.toArray[m]! = zs[m]:=by simp[getElem!_pos,show m < zs.length by omega]
  have ht:zs.take (m+1)=zs.take m++[zs[m]]:=by rw[BT,hg];rfl
  rw[Lib.compactUpTo_succ,e1];by_cases hk:Lib.keeps zs.toArray m=true
  ·rw[if_pos hk];have ae:∀ x∈Lib.compactUpTo zs.toArray m,x < zs[m]:=by
    intro x hx;cases m with
    | zero=>simp[Lib.compactUpTo] at hx
    | succ k =>
     have h1:=i3 k zs[k] rfl (Aa (by omega)) x hx;have h2:zs[k]<=zs[k+1]:=(CF.1 hz) k (k+1) (by omega) (by omega) (by omega);have e2:zs.toArray[k]! = zs[k]:=by simp[getElem!_pos,show k < zs.length by omega]
     have h3:zs[k+1]≠zs[k]:=by
      unfold Lib.keeps at hk;have:=of_decide_eq_true hk;rcases this with h | h
      ·omega
      ·rw[Cm,e2,e1] at h;exact h
     rcases l8_le.1 h2 with h2 | h2
     ·rcases l8_le.1 h1 with h1 | rfl
      ·exact zfD h1 h2
      ·exact h2
     ·exact absurd h2.symm h3
   refine ⟨BJ.2 ⟨i1,by simp,fun x hx y hy => ?_⟩,fun x => ?_,fun k y e hy x hx => ?_⟩
   ·obtain rfl:=Ak.1 hy;exact ae x hx
   ·rw[ht,Al,Al,i2]
   ·obtain rfl:k=m:=by omega
    rw[hg] at hy;cases hy;rcases Al.1 hx with hx | hx
    ·exact l8_le.2 (.inl (ae x hx))
    ·obtain rfl:=Ak.1 hx;exact le_refl _
  ·rw[if_neg hk,BV];cases m with
   | zero=>exact absurd (Lib.keeps_lt_one _ 0 (by omega)) hk
   | succ k =>
    have e2:zs.toArray[k]! = zs[k]:=by simp[getElem!_pos,show k < zs.length by omega]
    have h3:zs[k+1]=zs[k]:=(by unfold Lib.keeps at hk;have h:=hk;rw[decide_eq_true_eq] at h;have h:=not_or.1 h;have:=Decidable.not_not.1 h.2;rw[Cm,e2,e1] at this;exact this);refine ⟨i1,fun x => ?_,fun k' y e hy x hx => ?_⟩
    ·rw[ht,Al,i2,Ak];refine ⟨.inl,fun h => ?_⟩;rcases h with h | rfl
     ·exact h
     ·rw[h3];exact BM.2 ⟨k,by omega,rfl⟩
    ·obtain rfl:k'=k+1:=by omega
     rw[hg] at hy;cases hy;rw[h3];exact i3 k zs[k] rfl (Aa (by omega)) x hx
def sort8 (l:List (List UInt8)):(l.mergeSort fun x y=>decide (x<=y)).Pairwise (·<=·):=by have h:=List.pairwise_mergeSort (le:=fun (x y:List UInt8)=>decide (x<=y)) (fun a b c h1 h2=>by simp only[decide_eq_true_eq] at *;exact List.le_trans h1 h2) (fun a b=>by simp only[B0,decide_eq_true_eq];exact List.le_total a b) l;exact h.imp fun h=>by simpa using h
def zjY (l:List ByteArray):(sL (ko (zh4 l))).Pairwise (· < ·)∧∀ x,x∈sL (ko (zh4 l))↔x∈sL l:=by
 have sb:∀ z:List (List UInt8),sL (bL z)=z:=by
  intro z;unfold sL bL;rw[Bb]
  conv=>rhs;rw[← List.map_id z]
  exact An fun s _=>by simp
 have e:sL (ko (zh4 l))=Lib.compact ((sL l).mergeSort fun x y=>decide (x<=y)):=(by unfold ko zh4;rw[sb,sb]);obtain ⟨h1,h2,_⟩:=ziJ _ (sort8 (sL l)) _ (AO _);rw[e];unfold Lib.compact;refine ⟨h1,fun x => ?_⟩;rw[h2,AZ];exact (List.mergeSort_perm _ _).mem_iff
def zew (out:List ByteArray) (s:ByteArray):Nat:=(out.takeWhile fun a=>Op.bytesLess a.toList s.toList).length
def insB (out:List ByteArray) (s:ByteArray):List ByteArray:=if out[zew out s]? = some s then out else out.take (zew out s)++[s]++out.drop (zew out s)
def takeW {α:Type} (p:α->Bool):∀ (l:List α),(∀ x∈l.take (l.takeWhile p).length,p x=true)∧(∀ y,l[(l.takeWhile p).length]? = some y->p y=false)∧(l.takeWhile p).length<=l.length
 | []=>by simp
 | a :: l=>by
  obtain ⟨h1,h2,h3⟩:=takeW p l;cases hp:p a with
  | true =>
   simp only[List.takeWhile_cons,hp,if_true,AM,Cg,A7];refine ⟨fun x hx => ?_,h2,by omega⟩;rcases Au.1 hx with rfl | hx
   ·exact hp
   ·exact h1 x hx
  | false =>simp[List.takeWhile_cons,hp]
def zjp (a b:List ByteArray):sL (a++b)=sL a++sL b:=by simp[sL]
def insB_ok {out:List ByteArray} {s:ByteArray} (h:(sL out).Pairwise (· < ·)):(sL (insB out s)).Pairwise (· < ·)∧∀ x,x∈sL (insB out s)↔x∈sL out∨x=s.data.toList:=by
 obtain ⟨t1,t2,t3⟩:=takeW (fun a:ByteArray=>Op.bytesLess a.toList s.toList) out;have aK:∀ {x},x∈sL out↔∃ b∈out,b.data.toList=x:=by intro x;simp[sL]
 have ax:∀ {a b:ByteArray},a.data.toList=b.data.toList->a=b:=fun {a b} h=>(by obtain ⟨⟨a⟩⟩:=a;obtain ⟨⟨b⟩⟩:=b;simp at h;subst h;rfl);unfold insB;by_cases c:out[zew out s]? = some s
 ·rw[if_pos c];refine ⟨h,fun x=>⟨.inl,fun hx => ?_⟩⟩;rcases hx with hx | rfl
  ·exact hx
  ·exact aK.2 ⟨s,Ae c,rfl⟩
 ·rw[if_neg c];have ha:∀ x∈sL (out.take (zew out s)),x < s.data.toList:=(by intro x hx;obtain ⟨b,hb,rfl⟩:∃ b∈out.take (zew out s),b.data.toList=x:=Am.1 hx;have:=t1 b hb;rw[zfZ,zjj,zjj] at this;exact of_decide_eq_true this);have hd:out=out.take (zew out s)++out.drop (zew out s):=(CR _ _).symm;have hp:(sL (out.take (zew out s))++sL (out.drop (zew out s))).Pairwise (· < ·):=by rw[← zjp,← hd];exact h
  obtain ⟨p1,p2,p3⟩:=BJ.1 hp;have hb:∀ x∈sL (out.drop (zew out s)),s.data.toList < x:=by
   intro x hx;cases hdr:out.drop (zew out s) with
   | nil=>rw[hdr] at hx;simp[sL] at hx
   | cons y r =>
    have hy:out[zew out s]? = some y:=by rw[← List.head?_drop,hdr];rfl
    have h1:=t2 y hy;rw[zfZ,zjj,zjj] at h1;have h1:¬ y.data.toList < s.data.toList:=of_decide_eq_false h1;have ae:s.data.toList < y.data.toList:=by
     rcases l8_le.1 (not_lt.1 h1) with h | h
     ·exact h
     ·exact absurd (by rw[hy,ax h]) c
    rw[hdr] at hx p2;have e:sL (y :: r)=y.data.toList :: sL r:=rfl;rw[e] at hx p2;rcases Au.1 hx with rfl | hx
    ·exact ae
    ·exact zfD ae ((BP.1 p2).1 x hx)
  rw[zjp,zjp];refine ⟨BJ.2 ⟨BJ.2 ⟨p1,by simp[sL],fun x hx y hy => ?_⟩,p2,fun x hx y hy => ?_⟩,fun x => ?_⟩
  ·obtain rfl:y=s.data.toList:=by simpa[sL] using hy
   exact ha x hx
  ·rcases Al.1 hx with hx | hx
   ·exact p3 x hx y hy
   ·obtain rfl:x=s.data.toList:=by simpa[sL] using hx
    exact hb y hy
  ·rw[Al,Al]
   conv=>rhs;rw[hd,zjp,Al]
   have:x∈sL [s]↔x=s.data.toList:=by simp[sL]
   rw[this];constructor
   ·rintro ((h | h) | h)
    ·exact .inl (.inl h)
    ·exact .inr h
    ·exact .inl (.inr h)
   ·rintro ((h | h) | h)
    ·exact .inl (.inl h)
    ·exact .inr h
    ·exact .inl (.inr h)
def yW (l:List Node):List ByteArray:=(l.filter fun x=>decide (x.op=2)).map Node.name
def refsOf (l:List Node):List ByteArray:=ko (zh4 (yW l))
def zlf (l:List Node):List ByteArray:=l.foldl (fun out x=>if x.op=2 then insB out x.name else out) []
def insL_ok (l:List Node):(sL (zlf l)).Pairwise (· < ·)∧∀ x,x∈sL (zlf l)↔x∈sL (yW l):=by
 unfold zlf;have:∀ (l:List Node) (out:List ByteArray),(sL out).Pairwise (· < ·)->(sL (l.foldl (fun out x=>if x.op=2 then insB out x.name else out) out)).Pairwise (· < ·)∧∀ x,x∈sL (l.foldl (fun out x=>if x.op=2 then insB out x.name else out) out)↔x∈sL out∨x∈sL (yW l):=by
  intro l
  induction l with
  | nil=>intro out h;exact ⟨h,fun x=>by simp[yW,sL]⟩
  | cons y l ih =>
   intro out h;rw[Bf];by_cases c:y.op=2
   ·rw[if_pos c];obtain ⟨k1,k2⟩:=insB_ok (s:=y.name) h;obtain ⟨j1,j2⟩:=ih _ k1;refine ⟨j1,fun x => ?_⟩;rw[j2,k2];have:yW (y :: l)=y.name :: yW l:=by simp[yW,c]
    rw[this];have e:sL (y.name :: yW l)=y.name.data.toList :: sL (yW l):=rfl;rw[e,Au,or_assoc]
   ·rw[if_neg c];obtain ⟨j1,j2⟩:=ih _ h;refine ⟨j1,fun x => ?_⟩;rw[j2];have:yW (y :: l)=yW l:=by simp[yW,c]
    rw[this]
 obtain ⟨h1,h2⟩:=this l [] (by simp[sL]);exact ⟨h1,fun x=>by rw[h2];simp[sL]⟩
def insL_eq (l:List Node):zlf l=refsOf l:=by
 obtain ⟨a1,a2⟩:=insL_ok l;obtain ⟨b1,b2⟩:=zjY (yW l);have:=zeK a1 b1 fun x=>(a2 x).trans (b2 x).symm;have:=congrArg bL this
 rwa [bL_sL,bL_sL] at this
def zbn (l:List Node):(yW l).length<=l.length:=by unfold yW;rw[Ao];exact BC _ _
def zb0 {l:List Node} {s:ByteArray}:s∈refsOf l↔∃ x∈l,x.op=2∧x.name=s:=by have ax:∀ {a b:ByteArray},a.data.toList=b.data.toList->a=b:=fun {a b} h=>(by obtain ⟨⟨a⟩⟩:=a;obtain ⟨⟨b⟩⟩:=b;simp at h;subst h;rfl);have h:=(zjY (yW l)).2 s.data.toList;have m:∀ (r:List ByteArray),s.data.toList∈sL r↔s∈r:=fun r=>(by unfold sL;rw[Am];exact ⟨fun ⟨b,hb,e⟩=>ax e ▸ hb,fun h=>⟨s,h,rfl⟩⟩);rw[m,m] at h;unfold refsOf;rw[h];simp only[yW,Am,Bu,decide_eq_true_eq];exact ⟨fun ⟨x,⟨h1,h2⟩,h3⟩=>⟨x,h1,h2,h3⟩,fun ⟨x,h1,h2,h3⟩=>⟨x,⟨h1,h2⟩,h3⟩⟩
def zkG (l:List Node):(refsOf l).length<=l.length:=by unfold refsOf ko;rw[zhO];refine Aw ?_ (zbn l);unfold Lib.compact Lib.compactUpTo;rw[Ao];refine Aw (BC _ _) ?_;rw[A9,zgV,zgR];exact AO _
def refL_app (a b:List Node):yW (a++b)=yW a++yW b:=by unfold yW;rw[CD,Bj]
def P243_eq (l:List Node) (hl:l.length<=1000000):P243 l=some (refsOf l):=by
 have ilen:∀ (r:List Node) (out:List ByteArray),(r.foldl (fun out x=>if x.op=2 then insB out x.name else out) out).length<=out.length+r.length:=by
  intro r
  induction r with
  | nil=>intro out;simp
  | cons y r ih =>
   intro out;rw[Bf];refine Aw (ih _) ?_;have:(if y.op=2 then insB out y.name else out).length<=out.length+1:=by
    split
    ·unfold insB;split
     ·omega
     ·simp;omega
    ·omega
   simp only[AM];omega
 have ins_succ:∀ {i:Nat} {x:Node},l[i]? = some x->zlf (l.take (i+1))=if x.op=2 then insB (zlf (l.take i)) x.name else zlf (l.take i):=fun h=>jq _ _ _ h;have blen:∀ i,(zlf (l.take i)).length<=l.length:=fun i=>Aw (ilen _ _) (by simp;omega);have hs:=zH (B:=zgx l) (fun i=>(zlf (l.take i),(i:Int))) l.length (fun i hi=>by
  have hg:=Aa hi;have e4:wi ((i:Int)+1)=((i+1:Nat):Int):=by rw[qp (by omega) (by omega)];omega
  have hb:=blen i;simp only[zgx];rw[zh,if_pos (by omega)];simp only[za,hg,zi,ins_succ hg];by_cases c:l[i].op=2
  ·simp only[c,not_true,decide_false,zd,if_true];generalize nm:zlf (l.take i)=out at hb;obtain ⟨t1,t2,t3⟩:=takeW (fun a:ByteArray=>Op.bytesLess a.toList l[i].name.toList) out;have hc:zew out l[i].name<=out.length:=t3;have hk:=zH (B:=zeo l (out,(i:Int))) (fun k=>(k:Int)) (zew out l[i].name) (fun k hk=>by
    have fK:=Aa (l:=out) (i:=k) (by omega);have e4:wi ((k:Int)+1)=((k+1:Nat):Int):=by rw[qp (by omega) (by omega)];omega
    have ht:Op.bytesLess out[k].toList l[i].name.toList=true:=t1 _ (BM.2 ⟨k,by have h5:k < (out.takeWhile fun a=>Op.bytesLess a.toList l[i].name.toList).length:=hk;omega,rfl⟩);simp only[zeo];rw[zh,if_pos (by omega)];simp only[za,fK,hg,zi,ht,zq,zX,zo,e4]
    rfl)
   have nO:zeo l (out,(i:Int)) ((zew out l[i].name:Nat):Int)=some (.dn ((zew out l[i].name:Nat):Int)):=by
    simp only[zeo];by_cases h1:zew out l[i].name < out.length
    ·have fK:=Aa h1;have ht:Op.bytesLess out[zew out l[i].name].toList l[i].name.toList=false:=t2 _ fK;rw[zh,if_pos (by omega)];simp only[za,fK,hg,zi,ht,zq,zX,zd];rfl
    ·rw[zh,if_neg (by omega)];rfl
   rw[zV,show (0:Int)=((0:Nat):Int) from rfl,hk,zI nO];simp only[zX,insB];by_cases h1:zew out l[i].name < out.length
   ·have fK:=Aa h1;rw[zh,if_pos (by omega)];simp only[za,fK,hg,zi,zq,zX,Option.some.injEq];by_cases h2:out[zew out l[i].name]=l[i].name
    ·simp only[h2,decide_true,zo,if_true,zq,zX,e4];rfl
    ·simp only[h2,decide_false,zd,if_false];rw[zp ⟨by omega,by omega,by omega⟩,zp (by unfold zu;simp;omega),zp (by unfold zu;simp;omega),zp ⟨by omega,by omega,by omega⟩,zp (by unfold zu;simp;omega)];simp only[zq,zX,e4];simp;exact Bz (by simp)
   ·have h2:¬ out[zew out l[i].name]? = some l[i].name:=by rw[AH (by omega)];simp
    rw[zh,if_neg (by omega)];simp only[zq,zX,zd,if_neg h2,za,hg,zi];rw[zp ⟨by omega,by omega,by omega⟩,zp (by unfold zu;simp;omega),zp (by unfold zu;simp;omega),zp ⟨by omega,by omega,by omega⟩,zp (by unfold zu;simp;omega)];simp only[zq,zX,e4];simp;exact Bz (by simp)
  ·simp only[c,not_false_eq_true,decide_true,zo,zq,zX,if_false,e4]
   rfl)
 have e0:(([]:List ByteArray),(0:Int))=(zlf (l.take 0),((0:Nat):Int)):=rfl;simp only[P243,S243];rw[zV,e0,hs,zI (y:=(zlf (l.take l.length),((l.length:Nat):Int))) (by simp only[zgx];rw[zh,if_neg (by omega)];rfl),AZ];simp only[zX,insL_eq]
end
section
section
variable {l:List Node}
end
end
section
end
section
def nmI (names:List ByteArray) (s:ByteArray):Int:=idxOf (fun y=>decide (y=s)) names
def P291_eq (names:List ByteArray) (s:ByteArray) (h:names.length<=9223372036854775807):P291 names s=some (nmI names s):=by
 refine yp _ names (fun i y hy => ?_) (by simp[ziZ]);have hi:=(Ac.1 hy).1;have e:(((i:Nat):Int) < ((names.length:Nat):Int)):=by omega
 simp only[ziZ,za,hy,zi,e,decide_true,zo];rw[qp (by omega) (by omega)];by_cases c:y=s<;>simp[c]
def nmI_in {names:List ByteArray} {s:ByteArray} (h:s∈names):∃ i:Nat,nmI names s=(i:Int)∧i < names.length:=by
 unfold nmI idxOf;cases hf:names.findIdx? (fun y=>decide (y=s)) with
 | none =>have:=BZ.1 hf s h;simp at this
 | some i=>exact ⟨i,rfl,(Bp.1 hf).1⟩
def zaj (names:List ByteArray) (cells out:List Cell) (x:Node):Cell :=
 if x.op=1 then zaX x.n
 else if x.op=2 then cells.getD (nmI names x.name).toNat ⟨0,0⟩
 else if x.op=3 then zaQ (out.getD x.left.toNat ⟨0,0⟩) (out.getD x.right.toNat ⟨0,0⟩) 1
 else if x.op=4 then zaQ (out.getD x.left.toNat ⟨0,0⟩) (out.getD x.right.toNat ⟨0,0⟩) (-1)
 else if x.op=5 then zcO (out.getD x.left.toNat ⟨0,0⟩) (out.getD x.right.toNat ⟨0,0⟩)
 else cover (out.getD x.left.toNat ⟨0,0⟩) (out.getD x.right.toNat ⟨0,0⟩)
def evL (l:List Node) (names:List ByteArray) (cells:List Cell) (k:Nat):List Cell:=(l.take k).foldl (fun out x=>out++[zaj names cells out x]) []
section
variable {l:List Node} {names:List ByteArray} {cells:List Cell}
def zbG {i:Nat} {x:Node} (h:l[i]? = some x):evL l names cells (i+1)=evL l names cells i++[zaj names cells (evL l names cells i) x]:=jq _ _ _ h
def wG:∀ (k:Nat),k<=l.length->(evL l names cells k).length=k
 | 0,_=>rfl
 | k+1,h=>by rw[zbG (Aa (by omega)),Bn,wG k (by omega)];rfl
def ziy:∀ (m k j:Nat),j < k->k+m<=l.length->(evL l names cells (k+m)).getD j ⟨0,0⟩=(evL l names cells k).getD j ⟨0,0⟩
 | 0,k,j,_,_=>rfl
 | m+1,k,j,hj,h=>by
  rw[← Br,zbG (Aa (by omega)),← ziy m k j hj (by omega)];simp only[Ad];rw[AE (by rw[wG _ (by omega)];omega)]
def evL_at {i:Nat} {x:Node} (h:l[i]? = some x) (k:Nat) (hk:i < k) (hl:k<=l.length):(evL l names cells k).getD i ⟨0,0⟩=zaj names cells (evL l names cells i) x:=by obtain ⟨m,rfl⟩:∃ m,k=(i+1)+m:=⟨k - (i+1),by omega⟩;rw[ziy m (i+1) i (by omega) hl,zbG h];simp only[Ad];rw[AN (by rw[wG _ (by omega)];omega),wG _ (by omega)];simp
def zai (n:Int):within (zaX n).n=true:=by
 unfold zaX;split
 ·assumption
 ·rfl
def cellN_in (hc:∀ c∈cells,within c.n=true) (out:List Cell) (x:Node):within (zaj names cells out x).n=true:=by
 have h0:within 0=true:=rfl;unfold zaj;split
 ·exact zai _
 ·split
  ·rw[Ad];cases h:cells[(nmI names x.name).toNat]? with
   | none=>exact h0
   | some c=>exact hc c (Ae h)
  ·have hp:∀ a b s,within (zaQ a b s).n=true:=by
    intro a b s;unfold zaQ
    repeat' split
    all_goals first | exact h0 | exact zai _
   split
   ·exact hp _ _ _
   ·split
    ·exact hp _ _ _
    ·split
     ·unfold zcO
      repeat' split
      all_goals first | exact h0 | exact zai _
     ·unfold cover
      repeat' split
      all_goals first | exact h0 | exact zai _
def zhv (hc:∀ c∈cells,within c.n=true):∀ (k:Nat),k<=l.length->∀ j,within ((evL l names cells k).getD j ⟨0,0⟩).n=true
 | 0,_,j=>rfl
 | k+1,h,j=>by
  rw[zbG (Aa (by omega))];simp only[Ad];by_cases hj:j < k
  ·rw[AE (by rw[wG _ (by omega)];omega)];have:=zhv hc k (by omega) j;rw[Ad] at this;exact this
  ·rw[AN (by rw[wG _ (by omega)];omega),wG _ (by omega)];by_cases e:j=k
   ·subst e;simpa using cellN_in hc _ _
   ·rw[AH (by simp;omega)];rfl
def P292n_eq (ok:FormOk l) (hn:names.length<=9223372036854775807) (hlen:names.length=cells.length) (hc:∀ c∈cells,within c.n=true) (hr:∀ x∈l,x.op=2->x.name∈names) :
  ∀ (f i:Nat),i < f->i < l.length->zhT f l (i:Int) names cells=some ((evL l names cells l.length).getD i ⟨0,0⟩):=by
 intro f
 induction f with
 | zero=>intro i h;omega
 | succ f ih =>
  intro i se iR;have hg:=Aa iR;have bG:=ok.node i _ hg;have cW:=zc4 bG;show S292 P146 P147 P148 P150 P291 (zhT f) l (i:Int) names cells=_;rw[evL_at hg l.length iR (AO _)];simp only[S292,za,hg,zi];generalize hx:l[i]=x at hg bG cW;have aM:x∈l:=Ae hg;by_cases c1:x.op=1
  ·simp[c1,zgK,zaj]
  by_cases c2:x.op=2
  ·obtain ⟨k,bS,bB⟩:=nmI_in (hr x aM c2);have bj:zl cells (nmI names x.name)=some (cells.getD (nmI names x.name).toNat ⟨0,0⟩):=(by rw[bS,za,Aj,Ad,Aa (by omega)];rfl);simp only[c1,c2,decide_true,decide_false,zo,zd,P291_eq names _ hn,zi,bj,zaj,if_true,if_false];simp
  obtain ⟨a1,a2,a3,a4,_⟩:=zdv bG (by omega);have get:∀ a:Int,0<=a->a < i->zhT f l a names cells=some ((evL l names cells i).getD a.toNat ⟨0,0⟩):=(by intro a h0 h1;obtain ⟨n,rfl⟩:=CN h0;rw[ih n (by omega) (by omega),Aj];obtain ⟨m,hm⟩:∃ m,l.length=i+m:=⟨l.length - i,by omega⟩;have:=ziy (l:=l) (names:=names) (cells:=cells) m i n (by omega) (by omega);rw[← hm] at this;rw[this]);have w1:=zhv (l:=l) (names:=names) hc i (by omega) x.left.toNat;have w2:=zhv (l:=l) (names:=names) hc i (by omega) x.right.toNat;simp only[c1,c2,decide_false,zd,get _ a1 a2,get _ a3 a4,zi];by_cases c3:x.op=3
  ·simp[c3,oF,zaj]
  by_cases c4:x.op=4
  ·simp[c4,oF,zaj]
  by_cases c5:x.op=5
  ·simp only[decide_eq_false c3,decide_eq_false c4,decide_eq_true c5,zo,zd,P147_eq w1 w2,zi];simp[c5,zaj]
  ·simp only[decide_eq_false c3,decide_eq_false c4,decide_eq_false c5,zd,P148_eq w1 w2,zi];simp[c1,c2,c3,c4,c5,zaj]
end
end
section
end
end Ab
