import Derived.Test.YtkaifdgeigdbhaaGreatDoorH9
open List (getElem?_eq_getElem le_refl mem_append mem_map mem_range)
open Option (map_none map_some)
set_option linter.unusedVariables false
set_option linter.unusedSimpArgs false
namespace Ab
open Go
section
theorem yo {σ α:Type} {B:σ->Option (LR σ α)} (st:Nat->σ) (n:Nat) (g:Nat->Option α) {d:σ} (h:∀ i,i < n->(∀ j,j < i->g j=none)->B (st i)=some (match g i with | some r=>.fin r | none=>.nx (st (i+1))))
  (hn:(∀ j,j < n->g j=none)->B (st n)=some (.dn d)):lpO B (st 0)=some (match (List.range n).findSome? g with | some r=>.inr r | none=>.inl d):=by
 have key:∀ (m k:Nat),k+m=n->(∀ j,j < k->g j=none)->lpO B (st k)=some (match (List.range' k m).findSome? g with | some r=>.inr r | none=>.inl d):=by
  intro m
  induction m with
  | zero =>
   intro k hk hg;obtain rfl:k=n:=by omega
   rw[qm (hn hg)];rfl
  | succ m ih =>
   intro k hk hg;have hs:=h k (by omega) hg;rw[List.range'_succ,List.findSome?_cons];cases hgk:g k with
   | some r=>rw[hgk] at hs;rw[zaj hs]
   | none =>
    rw[hgk] at hs;rw[zdP hs];exact ih (k+1) (by omega) fun j hj=>by
     by_cases e:j=k
     ·rw[e];exact hgk
     ·exact hg j (by omega)
 rw[key n 0 (by omega) (fun j hj=>by omega),List.range_eq_range']
def zjg (u:List Int) (x:Node):List Int :=
 if 3<=x.op then (u.set x.left.toNat (wi (u.getD x.left.toNat 0+1))).set x.right.toNat (wi ((u.set x.left.toNat (wi (u.getD x.left.toNat 0+1))).getD x.right.toNat 0+1)) else u
def zbO (l:List Node) (i:Nat):List Int:=(l.take i).foldl zjg (List.replicate l.length 0)
theorem useN_len (u:List Int) (x:Node):(zjg u x).length=u.length:=by unfold zjg;split<;>simp
theorem yC (l:List Node) (i:Nat):(zbO l i).length=l.length:=by
 unfold zbO;generalize l.take i=r;have:∀ (r:List Node) (u:List Int),(r.foldl zjg u).length=u.length:=by
  intro r
  induction r with
  | nil=>intro u;rfl
  | cons x r ih=>intro u;rw[List.foldl_cons,ih,useN_len]
 rw[this,List.length_replicate]
theorem zfg {l:List Node} {i:Nat} {x:Node} (h:l[i]? = some x):zbO l (i+1)=zjg (zbO l i) x:=wu _ _ _ h
def jl (l:List Node) (i:Nat):Option Int:=match l[i]? with | some x=>if qH i x=0 then none else some (qH i x) | none=>none
def jJ (l:List Node) (i:Nat):Option Int:=if (zbO l l.length).getD i 0=1 then none else some 3
def zdq (l:List Node):Int :=
 if l.length=0 then 5 else if 30 < l.length then 4 else
  match (List.range l.length).findSome? (jl l) with
  | some e=>e
  | none=>match (List.range (l.length - 1)).findSome? (jJ l) with
   | some e=>e
   | none=>0
theorem P251_eq {l:List Node} {i:Nat} {x:Node} (h:l[i]? = some x) (hi:i<=9223372036854775807):P251 l (i:Int)=some (zq (qH i x)):=by simp only[P251,zh,h,Int.toNat_natCast];rw[zC (by omega)]
theorem P252_eq (n:Int):P252 n=some (decide (3<=n) && decide (n<=6)):=by by_cases h1:3<=n<;>by_cases h2:n<=6<;>simp[P252,S252,h1,h2]
theorem zes {i:Nat} {x:Node} (h:qH i x=0):1<=x.op∧x.op<=6:=by
 unfold qH at h;split at h
 ·cases h
 ·omega
theorem zfI {i:Nat} {x:Node} (h:qH i x=0) (h3:3<=x.op):0<=x.left∧x.left < i∧0<=x.right∧x.right < i∧x.n=0∧x.name=⟨#[]⟩:=by
 have:=zes h;unfold qH at h;rw[if_neg (by omega),if_neg (by omega),if_neg (by omega)] at h;split at h
 ·cases h
 ·split at h
  ·rename_i h1 h2;exact ⟨by omega,by omega,by omega,by omega,h2.1,h2.2⟩
  ·cases h
theorem zfH {l:List Node} {i:Nat} {x:Node} (h:l[i]? = some x) (hn:jl l i=none):qH i x=0:=by
 unfold jl at hn;rw[h] at hn;simp only at hn;split at hn
 ·assumption
 ·cases hn
theorem yb {u:List Int} {k:Nat} (h:k < u.length):u[k]? = some (u.getD k 0):=by rw[List.getD_eq_getElem?_getD,getElem?_eq_getElem h];rfl
theorem zhA {α:Type} {u:List Int} {x:Node} {n:Nat} (hu:u.length=n) (h0:0<=x.left) (h1:x.left < n) (h2:0<=x.right) (h3:x.right < n) (h4:3<=x.op) (k:List Int->Option α) :
  (ck (decide (0<=Node.left x∧Node.left x < ((List.length u:Nat):Int))) <|
   bno (u[(Int.toNat (Node.left x))]?) fun y5 =>
   ck (decide (0<=Node.left x∧Node.left x < ((List.length u:Nat):Int))) <|
   bno (u[(Int.toNat (Node.left x))]?) fun y6 =>
   ck (decide (0<=Node.right x∧Node.right x < ((List.length (List.set u (Int.toNat (Node.left x)) (wi (y5+(1:Int)))):Nat):Int))) <|
   bno ((List.set u (Int.toNat (Node.left x)) (wi (y5+(1:Int))))[(Int.toNat (Node.right x))]?) fun y7 =>
   ck (decide (0<=Node.right x∧Node.right x < ((List.length (List.set u (Int.toNat (Node.left x)) (wi (y5+(1:Int)))):Nat):Int))) <|
   bno ((List.set u (Int.toNat (Node.left x)) (wi (y5+(1:Int))))[(Int.toNat (Node.right x))]?) fun y8 =>
   k (List.set (List.set u (Int.toNat (Node.left x)) (wi (y5+(1:Int)))) (Int.toNat (Node.right x)) (wi (y7+(1:Int)))))=k (zjg u x):=by
 have e1:u[x.left.toNat]? = some (u.getD x.left.toNat 0):=yb (by omega);have c1:0<=x.left∧x.left < ((u.length:Nat):Int):=⟨h0,by omega⟩;rw[zC c1,e1];simp only[zl];rw[zC c1];have e2:(u.set x.left.toNat (wi (u.getD x.left.toNat 0+1)))[x.right.toNat]? = some ((u.set x.left.toNat (wi (u.getD x.left.toNat 0+1))).getD x.right.toNat 0):=yb (by rw[List.length_set];omega);have c2:0<=x.right∧x.right < (((u.set x.left.toNat (wi (u.getD x.left.toNat 0+1))).length:Nat):Int):=⟨h2,by rw[List.length_set];omega⟩;rw[zC c2,e2];simp only[zl];rw[zC c2];unfold zjg;rw[if_pos h4]
theorem P241_eq (l:List Node):P241 l=some (zq (zdq l)):=by
 simp only[P241,S241];unfold zdq;by_cases h0:l.length=0
 ·simp[h0,zq]
 by_cases h1:30 < l.length
 ·have:(30:Int) < ((l.length:Nat):Int):=by omega
  simp[h0,h1,this,zq]
 rw[zu,if_neg (by omega),zu,if_neg (by omega),zC ⟨by omega,Int.le_refl _,by unfold zF;omega⟩,if_neg h0,if_neg h1];have L1:=yo (B:=zfa P251 P252 l) (fun i=>((i:Int),zbO l i)) l.length (fun i=>(jl l i).map zq) (d:=((l.length:Int),zbO l l.length)) (fun i hi hg=>by
  have hx:=getElem?_eq_getElem hi;simp only[zfa];rw[zu,if_pos (by omega)];simp only[zh,hx,zl,P251_eq hx (by omega),zZ,jl,P252_eq];by_cases hz:qH i l[i]=0
  ·have hop:=zes hz;have e4:wi ((i:Int)+1)=((i+1:Nat):Int):=by rw[ju (by omega) (by omega)];omega
   rw[zfg hx];simp only[hz,decide_true,Bool.not_true,zg,if_true,map_none,e4];by_cases h3:3<=l[i].op
   ·obtain ⟨a1,a2,a3,a4,_⟩:=zfI hz h3;have e6:(decide (3<=l[i].op) && decide (l[i].op<=6))=true:=by simp[h3,hop.2]
    simp only[e6,zo];have:=zhA (α:=Sum (List Int) (LR (Int×List Int) Err)) (u:=zbO l i) (x:=l[i]) (n:=l.length) (yC l i) a1 (by omega) a3 (by omega) h3 (fun z=>zB (some z));rw[this];rfl
   ·have e6:(decide (3<=l[i].op) && decide (l[i].op<=6))=false:=by simp[h3]
    simp only[e6,zg,zM,ji,zjg,if_neg h3];rfl
  ·simp only[hz,decide_false,Bool.not_false,zo,if_false,map_some]
   rfl) (fun _=>by
  simp only[zfa];rw[zu,if_neg (by omega)]
  rfl)
 have e0:((0:Int),List.replicate (Int.toNat ((l.length:Nat):Int)) (0:Int))=(((0:Nat):Int),zbO l 0):=by simp[zbO]
 rw[qY,e0,L1,qn];cases hs:(List.range l.length).findSome? (jl l) with
 | some e=>rfl
 | none =>
  simp only[map_none,ji];have L2:=yo (B:=ze9 l ((l.length:Int),zbO l l.length)) (fun i=>(i:Int)) l.length (fun i=>if i < l.length - 1 then (jJ l i).map zq else none) (d:=((l.length:Nat):Int)) (fun i hi hg=>by
   simp only[ze9,yC];have e4:wi ((i:Int)+1)=((i+1:Nat):Int):=by rw[ju (by omega) (by omega)];omega
   have e5:wi (((l.length:Nat):Int) - 1)=((l.length - 1:Nat):Int):=by rw[ju (by omega) (by omega)];omega
   rw[zu,if_pos (by omega),zC ⟨by omega,by omega⟩,Int.toNat_natCast,yb (by rw[yC];exact hi)];simp only[zl,e4,e5,jJ];by_cases c:(zbO l l.length).getD i 0=1
   ·simp only[c,not_true,decide_false,zg,zM,ji,if_true,map_none,ite_self];rfl
   ·by_cases d:i < l.length - 1
    ·have:(i:Int) < ((l.length - 1:Nat):Int):=by omega
     simp only[c,d,this,not_false_eq_true,decide_true,zo,zM,ji,if_false,if_true,map_some];rfl
    ·have:¬ (i:Int) < ((l.length - 1:Nat):Int):=by omega
     simp only[c,d,this,not_false_eq_true,decide_true,decide_false,zo,zM,ji,zg,if_false]
     rfl) (fun _=>by
   simp only[ze9,yC];rw[zu,if_neg (by omega)]
   rfl)
  rw[qY,show (0:Int)=((0:Nat):Int) from rfl,L2];have e3:(List.range l.length).findSome? (fun i=>if i < l.length - 1 then (jJ l i).map zq else none)=((List.range (l.length - 1)).findSome? (jJ l)).map zq:=by
   obtain ⟨n,hn⟩:∃ n,l.length=n+1:=⟨l.length - 1,by omega⟩;rw[← qn,hn,List.range_succ,List.findSome?_append];simp only[Nat.add_sub_cancel];have:∀ (r:List Nat),(∀ i∈r,i < n)->r.findSome? (fun i=>if i < n then (jJ l i).map zq else none)=r.findSome? fun i=>(jJ l i).map zq:=by
    intro r
    induction r with
    | nil=>intro _;rfl
    | cons a r ih =>intro h;rw[List.findSome?_cons,List.findSome?_cons,if_pos (h a (by simp)),ih fun i hi=>h i (List.mem_cons_of_mem _ hi)]
   rw[this _ fun i hi=>mem_range.1 hi];simp
  rw[e3];cases (List.range (l.length - 1)).findSome? (jJ l) with
  | some e=>rfl
  | none=>rfl
theorem P240_eq (l:List Node):P240 l=some (zdq l):=by
 simp only[P240,S240];unfold zdq;by_cases h0:l.length=0
 ·simp[h0]
 by_cases h1:30 < l.length
 ·have:(30:Int) < ((l.length:Nat):Int):=by omega
  simp[h0,h1,this]
 rw[zu,if_neg (by omega),zu,if_neg (by omega),zC ⟨by omega,Int.le_refl _,by unfold zF;omega⟩,if_neg h0,if_neg h1];have L1:=yo (B:=zfc P97 l) (fun i=>((i:Int),zbO l i)) l.length (fun i=>jl l i) (d:=((l.length:Int),zbO l l.length)) (fun i hi hg=>by
  have hx:=getElem?_eq_getElem hi;have e4:wi ((i:Int)+1)=((i+1:Nat):Int):=by rw[ju (by omega) (by omega)];omega
  simp only[zfc];rw[zu,if_pos (by omega)];simp only[zh,hx,zl,jl,P97_eq];rw[zfg hx];generalize l[i]=x at hx;by_cases c1:x.op < 1
  ·simp[qH,c1]
  by_cases c2:6 < x.op
  ·simp[qH,c1,c2]
  by_cases c3:x.op=1
  ·have hu:zjg (zbO l i) x=zbO l i:=by unfold zjg;rw[if_neg (by omega)]
   by_cases c4:x.n < 0
   ·simp[qH,c3,c4]
   by_cases c5:1000000 < x.n
   ·simp[qH,c3,c4,c5]
   by_cases d1:x.name=⟨#[]⟩<;>by_cases d2:x.left=0<;>by_cases d3:x.right=0<;>simp[qH,c3,c4,c5,d1,d2,d3,hu,e4]
  by_cases c4:x.op=2
  ·have hu:zjg (zbO l i) x=zbO l i:=by unfold zjg;rw[if_neg (by omega)]
   by_cases c5:zY x.name=true
   ·simp[qH,c4,c5]
   simp only[Bool.not_eq_true] at c5;by_cases d1:x.n=0<;>by_cases d2:x.left=0<;>by_cases d3:x.right=0<;>simp[qH,c4,c5,d1,d2,d3,hu,e4]
  by_cases c5:x.left < 0
  ·simp[qH,c1,c2,c3,c4,c5]
  by_cases c6:(i:Int)<=x.left
  ·simp[qH,c1,c2,c3,c4,c5,c6]
  by_cases c7:x.right < 0
  ·simp[qH,c1,c2,c3,c4,c5,c6,c7]
  by_cases c8:(i:Int)<=x.right
  ·simp[qH,c1,c2,c3,c4,c5,c6,c7,c8]
  by_cases d1:x.n=0
  ·by_cases d2:x.name=⟨#[]⟩
   ·have:=zhA (α:=Sum (List Int) (LR (Int×List Int) Int)) (u:=zbO l i) (x:=x) (n:=l.length) (yC l i) (by omega) (by omega) (by omega) (by omega) (by omega) (fun z=>zB (some z));simp only[c1,c2,c3,c4,c5,c6,c7,c8,d1,d2,decide_true,decide_false,zo,zg,zM,ji,not_true,qH,or_self,and_self,if_true,if_false];simp only[zM] at this;rw[this];simp[e4]
   ·simp[qH,c1,c2,c3,c4,c5,c6,c7,c8,d1,d2]
  ·simp[qH,c1,c2,c3,c4,c5,c6,c7,c8,d1]) (fun _=>by
  simp only[zfc];rw[zu,if_neg (by omega)]
  rfl)
 have e0:((0:Int),List.replicate (Int.toNat ((l.length:Nat):Int)) (0:Int))=(((0:Nat):Int),zbO l 0):=by simp[zbO]
 rw[qY,e0,L1];cases hs:(List.range l.length).findSome? (jl l) with
 | some e=>rfl
 | none =>
  simp only[ji];have e5:wi (((l.length:Nat):Int) - 1)=((l.length - 1:Nat):Int):=by rw[ju (by omega) (by omega)];omega
  have L2:=yo (B:=zfb l ((l.length:Int),zbO l l.length)) (fun i=>(i:Int)) (l.length - 1) (jJ l) (d:=((l.length - 1:Nat):Int)) (fun i hi hg=>by
   simp only[zfb,yC,e5];have e4:wi ((i:Int)+1)=((i+1:Nat):Int):=by rw[ju (by omega) (by omega)];omega
   rw[zu,if_pos (by omega),zC ⟨by omega,by omega⟩,Int.toNat_natCast,yb (by rw[yC];omega)];simp only[zl,e4,jJ];by_cases c:(zbO l l.length).getD i 0=1
   ·simp only[c,not_true,decide_false,zg,if_true];rfl
   ·simp only[c,not_false_eq_true,decide_true,zo,if_false]
    rfl) (fun _=>by
   simp only[zfb,e5];rw[zu,if_neg (by omega)]
   rfl)
  rw[qY,show (0:Int)=((0:Nat):Int) from rfl,L2];cases (List.range (l.length - 1)).findSome? (jJ l) with
  | some e=>rfl
  | none=>rfl
structure FormOk (l:List Node):Prop where
 pos:0 < l.length
 most:l.length<=30
 node:∀ (i:Nat) (x:Node),l[i]? = some x->qH i x=0
 use:∀ i,i < l.length - 1->(zbO l l.length).getD i 0=1
theorem form_ok {l:List Node}:zdq l=0↔FormOk l:=by
 unfold zdq;by_cases h0:l.length=0
 ·rw[if_pos h0];exact ⟨fun h=>(by cases h),fun h=>by have:=h.pos;omega⟩
 by_cases h1:30 < l.length
 ·rw[if_neg h0,if_pos h1];exact ⟨fun h=>(by cases h),fun h=>by have:=h.most;omega⟩
 rw[if_neg h0,if_neg h1];cases hs:(List.range l.length).findSome? (jl l) with
 | some e =>
  obtain ⟨i,hi,he⟩:=List.exists_of_findSome?_eq_some hs;have hi:=mem_range.1 hi;have hx:=getElem?_eq_getElem hi;unfold jl at he;rw[hx] at he;simp only at he;refine ⟨fun h => ?_,fun h => ?_⟩
  ·split at he
   ·cases he
   ·rename_i hn;cases he;exact absurd h hn
  ·rw[if_pos (h.node i _ hx)] at he;cases he
 | none =>
  have hnode:∀ (i:Nat) (x:Node),l[i]? = some x->qH i x=0:=fun i x hx =>
   zfH hx (List.findSome?_eq_none_iff.1 hs i (mem_range.2 (List.getElem?_eq_some_iff.1 hx).1))
  simp only;cases hs2:(List.range (l.length - 1)).findSome? (jJ l) with
  | some e =>
   obtain ⟨i,hi,he⟩:=List.exists_of_findSome?_eq_some hs2;unfold jJ at he;refine ⟨fun h => ?_,fun h => ?_⟩
   ·split at he
    ·cases he
    ·cases he;cases h
   ·rw[if_pos (h.use i (mem_range.1 hi))] at he;cases he
  | none =>
   refine ⟨fun _=>⟨by omega,by omega,hnode,fun i hi => ?_⟩,fun _=>rfl⟩;have:=List.findSome?_eq_none_iff.1 hs2 i (mem_range.2 hi);unfold jJ at this;split at this
   ·assumption
   ·cases this
end
section
theorem l8_trans {x y z:List UInt8} (h:x < y) (k:y < z):x < z:=List.lt_trans h k
theorem l8_le {x y:List UInt8}:x<=y↔x < y∨x=y:=by
 refine ⟨fun h => ?_,fun h => ?_⟩
 ·by_cases e:x=y
  ·exact .inr e
  ·exact .inl (Decidable.byContradiction fun hn=>e (List.le_antisymm h (List.not_lt.1 hn)))
 ·rcases h with h | rfl
  ·exact List.le_of_lt h
  ·exact le_refl x
theorem zhh (zs:List (List UInt8)) (hz:zs.Pairwise (·<=·)):∀ m,m<=zs.length->(Lib.compactUpTo zs.toArray m).Pairwise (· < ·)∧(∀ x,x∈Lib.compactUpTo zs.toArray m↔x∈zs.take m)∧∀ k y,m=k+1->zs[k]? = some y->∀ x∈Lib.compactUpTo zs.toArray m,x<=y:=by
 intro m
 induction m with
 | zero=>intro _;exact ⟨by simp[Lib.compactUpTo],by simp[Lib.compactUpTo],fun k y e=>by omega⟩
 | succ m ih =>
  intro hm;obtain ⟨i1,i2,i3⟩:=ih (by omega);have hg:zs[m]? = some zs[m]:=getElem?_eq_getElem (by omega);have e1:zs.toArray[m]! = zs[m]:=by simp[getElem!_pos,show m < zs.length by omega]
  have ht:zs.take (m+1)=zs.take m++[zs[m]]:=by rw[List.take_add_one,hg];rfl
  rw[Lib.compactUpTo_succ,e1];by_cases hk:Lib.keeps zs.toArray m=true
  ·rw[if_pos hk];have hlt:∀ x∈Lib.compactUpTo zs.toArray m,x < zs[m]:=by
    intro x hx;cases m with
    | zero=>simp[Lib.compactUpTo] at hx
    | succ k =>
     have h1:=i3 k zs[k] rfl (getElem?_eq_getElem (by omega)) x hx;have h2:zs[k]<=zs[k+1]:=(List.pairwise_iff_getElem.1 hz) k (k+1) (by omega) (by omega) (by omega);have e2:zs.toArray[k]! = zs[k]:=by simp[getElem!_pos,show k < zs.length by omega]
     have h3:zs[k+1]≠zs[k]:=by
      unfold Lib.keeps at hk;have:=of_decide_eq_true hk;rcases this with h | h
      ·omega
      ·rw[Nat.add_sub_cancel,e2,e1] at h;exact h
     rcases l8_le.1 h2 with h2 | h2
     ·rcases l8_le.1 h1 with h1 | rfl
      ·exact l8_trans h1 h2
      ·exact h2
     ·exact absurd h2.symm h3
   refine ⟨List.pairwise_append.2 ⟨i1,by simp,fun x hx y hy => ?_⟩,fun x => ?_,fun k y e hy x hx => ?_⟩
   ·obtain rfl:=List.mem_singleton.1 hy;exact hlt x hx
   ·rw[ht,mem_append,mem_append,i2]
   ·obtain rfl:k=m:=by omega
    rw[hg] at hy;cases hy;rcases mem_append.1 hx with hx | hx
    ·exact l8_le.2 (.inl (hlt x hx))
    ·obtain rfl:=List.mem_singleton.1 hx;exact le_refl _
  ·rw[if_neg hk,List.append_nil];cases m with
   | zero=>exact absurd (Lib.keeps_lt_one _ 0 (by omega)) hk
   | succ k =>
    have e2:zs.toArray[k]! = zs[k]:=by simp[getElem!_pos,show k < zs.length by omega]
    have h3:zs[k+1]=zs[k]:=(by unfold Lib.keeps at hk;have h:=hk;rw[decide_eq_true_eq] at h;have h:=not_or.1 h;have:=Decidable.not_not.1 h.2;rw[Nat.add_sub_cancel,e2,e1] at this;exact this);refine ⟨i1,fun x => ?_,fun k' y e hy x hx => ?_⟩
    ·rw[ht,mem_append,i2,List.mem_singleton];refine ⟨.inl,fun h => ?_⟩;rcases h with h | rfl
     ·exact h
     ·rw[h3];exact List.mem_take_iff_getElem.2 ⟨k,by omega,rfl⟩
    ·obtain rfl:k'=k+1:=by omega
     rw[hg] at hy;cases hy;rw[h3];exact i3 k zs[k] rfl (getElem?_eq_getElem (by omega)) x hx
theorem sort8 (l:List (List UInt8)):(l.mergeSort fun x y=>decide (x<=y)).Pairwise (·<=·):=by have h:=List.pairwise_mergeSort (le:=fun (x y:List UInt8)=>decide (x<=y)) (fun a b c h1 h2=>by simp only[decide_eq_true_eq] at *;exact List.le_trans h1 h2) (fun a b=>by simp only[Bool.or_eq_true,decide_eq_true_eq];exact List.le_total a b) l;exact h.imp fun h=>by simpa using h
theorem compS_sL (l:List ByteArray):(sL (compS (sortS l))).Pairwise (· < ·)∧∀ x,x∈sL (compS (sortS l))↔x∈sL l:=by
 have sb:∀ z:List (List UInt8),sL (bL z)=z:=by
  intro z;unfold sL bL;rw[List.map_map]
  conv=>rhs;rw[← List.map_id z]
  exact List.map_congr_left fun s _=>by simp
 have e:sL (compS (sortS l))=Lib.compact ((sL l).mergeSort fun x y=>decide (x<=y)):=(by unfold compS sortS;rw[sb,sb]);obtain ⟨h1,h2,_⟩:=zhh _ (sort8 (sL l)) _ (Nat.le_refl _);rw[e];unfold Lib.compact;refine ⟨h1,fun x => ?_⟩;rw[h2,List.take_length];exact (List.mergeSort_perm _ _).mem_iff
def zeh (l:List Node):List ByteArray:=(l.filter fun x=>decide (x.op=2)).map Node.name
def refsOf (l:List Node):List ByteArray:=compS (sortS (zeh l))
theorem zeg (l:List Node):(zeh l).length<=l.length:=by unfold zeh;rw[List.length_map];exact List.length_filter_le _ _
theorem zdF {l:List Node} {s:ByteArray}:s∈refsOf l↔∃ x∈l,x.op=2∧x.name=s:=by have hinj:∀ {a b:ByteArray},a.data.toList=b.data.toList->a=b:=fun {a b} h=>(by obtain ⟨⟨a⟩⟩:=a;obtain ⟨⟨b⟩⟩:=b;simp at h;subst h;rfl);have h:=(compS_sL (zeh l)).2 s.data.toList;have m:∀ (r:List ByteArray),s.data.toList∈sL r↔s∈r:=fun r=>(by unfold sL;rw[mem_map];exact ⟨fun ⟨b,hb,e⟩=>hinj e ▸ hb,fun h=>⟨s,h,rfl⟩⟩);rw[m,m] at h;unfold refsOf;rw[h];simp only[zeh,mem_map,List.mem_filter,decide_eq_true_eq];exact ⟨fun ⟨x,⟨h1,h2⟩,h3⟩=>⟨x,h1,h2,h3⟩,fun ⟨x,h1,h2,h3⟩=>⟨x,⟨h1,h2⟩,h3⟩⟩
theorem refL_app (a b:List Node):zeh (a++b)=zeh a++zeh b:=by unfold zeh;rw[List.filter_append,List.map_append]
end
section
section
variable {l:List Node}
end
end
section
end
section
def nmI (names:List ByteArray) (s:ByteArray):Int:=idxOf (fun y=>decide (y=s)) names
theorem nmI_in {names:List ByteArray} {s:ByteArray} (h:s∈names):∃ i:Nat,nmI names s=(i:Int)∧i < names.length:=by
 unfold nmI idxOf;cases hf:names.findIdx? (fun y=>decide (y=s)) with
 | none =>have:=List.findIdx?_eq_none_iff.1 hf s h;simp at this
 | some i=>exact ⟨i,rfl,(List.findIdx?_eq_some_iff_getElem.1 hf).1⟩
def zbM (names:List ByteArray) (cells out:List Cell) (x:Node):Cell :=
 if x.op=1 then w7 x.n
 else if x.op=2 then cells.getD (nmI names x.name).toNat ⟨0,0⟩
 else if x.op=3 then yP (out.getD x.left.toNat ⟨0,0⟩) (out.getD x.right.toNat ⟨0,0⟩) 1
 else if x.op=4 then yP (out.getD x.left.toNat ⟨0,0⟩) (out.getD x.right.toNat ⟨0,0⟩) (-1)
 else if x.op=5 then zcJ (out.getD x.left.toNat ⟨0,0⟩) (out.getD x.right.toNat ⟨0,0⟩)
 else cover (out.getD x.left.toNat ⟨0,0⟩) (out.getD x.right.toNat ⟨0,0⟩)
def evL (l:List Node) (names:List ByteArray) (cells:List Cell) (k:Nat):List Cell:=(l.take k).foldl (fun out x=>out++[zbM names cells out x]) []
section
variable {l:List Node} {names:List ByteArray} {cells:List Cell}
theorem zbW {i:Nat} {x:Node} (h:l[i]? = some x):evL l names cells (i+1)=evL l names cells i++[zbM names cells (evL l names cells i) x]:=wu _ _ _ h
theorem yO:∀ (k:Nat),k<=l.length->(evL l names cells k).length=k
 | 0,_=>rfl
 | k+1,h=>by rw[zbW (getElem?_eq_getElem (by omega)),List.length_append,yO k (by omega)];rfl
theorem wy (n:Int):within (w7 n).n=true:=by
 unfold w7;split
 ·assumption
 ·rfl
theorem cellN_in (hc:∀ c∈cells,within c.n=true) (out:List Cell) (x:Node):within (zbM names cells out x).n=true:=by
 have h0:within 0=true:=rfl;unfold zbM;split
 ·exact wy _
 ·split
  ·rw[List.getD_eq_getElem?_getD];cases h:cells[(nmI names x.name).toNat]? with
   | none=>exact h0
   | some c=>exact hc c (List.mem_of_getElem? h)
  ·have hp:∀ a b s,within (yP a b s).n=true:=by
    intro a b s;unfold yP
    repeat' split
    all_goals first | exact h0 | exact wy _
   split
   ·exact hp _ _ _
   ·split
    ·exact hp _ _ _
    ·split
     ·unfold zcJ
      repeat' split
      all_goals first | exact h0 | exact wy _
     ·unfold cover
      repeat' split
      all_goals first | exact h0 | exact wy _
theorem evL_in (hc:∀ c∈cells,within c.n=true):∀ (k:Nat),k<=l.length->∀ j,within ((evL l names cells k).getD j ⟨0,0⟩).n=true
 | 0,_,j=>rfl
 | k+1,h,j=>by
  rw[zbW (getElem?_eq_getElem (by omega))];simp only[List.getD_eq_getElem?_getD];by_cases hj:j < k
  ·rw[List.getElem?_append_left (by rw[yO _ (by omega)];omega)];have:=evL_in hc k (by omega) j;rw[List.getD_eq_getElem?_getD] at this;exact this
  ·rw[List.getElem?_append_right (by rw[yO _ (by omega)];omega),yO _ (by omega)];by_cases e:j=k
   ·subst e;simpa using cellN_in hc _ _
   ·rw[List.getElem?_eq_none (by simp;omega)];rfl
end
end
section
end
end Ab
