import Derived.Test.YtchidgkpkhloeaaGreatDoorH9
open List (foldl_cons getD_eq_getElem?_getD getElem?_eq_getElem le_refl mem_append mem_cons mem_map mem_range not_lt pairwise_append)
open Nat (le_trans)
open Option (map_none map_some)
open Int (toNat_natCast)
set_option linter.unusedVariables false
set_option linter.unusedSimpArgs false
namespace Ab
open Go
section
theorem jN {σ α:Type} {B:σ->Option (LR σ α)} (st:Nat->σ) (n:Nat) (g:Nat->Option α) {d:σ} (h:∀ i,i < n->(∀ j,j < i->g j=none)->B (st i)=some (match g i with | some r=>.fin r | none=>.nx (st (i+1))))
  (hn:(∀ j,j < n->g j=none)->B (st n)=some (.dn d)):lpO B (st 0)=some (match (List.range n).findSome? g with | some r=>.inr r | none=>.inl d):=by
 have key:∀ (m k:Nat),k+m=n->(∀ j,j < k->g j=none)->lpO B (st k)=some (match (List.range' k m).findSome? g with | some r=>.inr r | none=>.inl d):=by
  intro m
  induction m with
  | zero =>
   intro k hk hg;obtain rfl:k=n:=by omega
   rw[zP (hn hg)];rfl
  | succ m ih =>
   intro k hk hg;have hs:=h k (by omega) hg;rw[List.range'_succ,List.findSome?_cons];cases hgk:g k with
   | some r=>rw[hgk] at hs;rw[wB hs]
   | none =>
    rw[hgk] at hs;rw[zaN hs];exact ih (k+1) (by omega) fun j hj=>by
     by_cases e:j=k
     ·rw[e];exact hgk
     ·exact hg j (by omega)
 rw[key n 0 (by omega) (fun j hj=>by omega),List.range_eq_range']
def zj1 (u:List Int) (x:Node):List Int :=
 if 3<=x.op then (u.set x.left.toNat (wi (u.getD x.left.toNat 0+1))).set x.right.toNat (wi ((u.set x.left.toNat (wi (u.getD x.left.toNat 0+1))).getD x.right.toNat 0+1)) else u
def zb0 (l:List Node) (i:Nat):List Int:=(l.take i).foldl zj1 (List.replicate l.length 0)
theorem useN_len (u:List Int) (x:Node):(zj1 u x).length=u.length:=by unfold zj1;split<;>simp
theorem yO (l:List Node) (i:Nat):(zb0 l i).length=l.length:=by
 unfold zb0;generalize l.take i=r;have:∀ (r:List Node) (u:List Int),(r.foldl zj1 u).length=u.length:=by
  intro r
  induction r with
  | nil=>intro u;rfl
  | cons x r ih=>intro u;rw[foldl_cons,ih,useN_len]
 rw[this,List.length_replicate]
theorem zfL {l:List Node} {i:Nat} {x:Node} (h:l[i]? = some x):zb0 l (i+1)=zj1 (zb0 l i) x:=jQ _ _ _ h
def jm (l:List Node) (i:Nat):Option Int:=match l[i]? with | some x=>if qI i x=0 then none else some (qI i x) | none=>none
def jM (l:List Node) (i:Nat):Option Int:=if (zb0 l l.length).getD i 0=1 then none else some 3
def zdM (l:List Node):Int :=
 if l.length=0 then 5 else if 30 < l.length then 4 else
  match (List.range l.length).findSome? (jm l) with
  | some e=>e
  | none=>match (List.range (l.length - 1)).findSome? (jM l) with
   | some e=>e
   | none=>0
theorem P251_eq {l:List Node} {i:Nat} {x:Node} (h:l[i]? = some x) (hi:i<=9223372036854775807):P251 l (i:Int)=some (zn (qI i x)):=by simp only[P251,zb,h,toNat_natCast];rw[zp (by omega)]
theorem P252_eq (n:Int):P252 n=some (decide (3<=n) && decide (n<=6)):=by by_cases h1:3<=n<;>by_cases h2:n<=6<;>simp[P252,S252,h1,h2]
theorem zb4 {i:Nat} {x:Node} (h:qI i x=0):1<=x.op∧x.op<=6:=by
 unfold qI at h;split at h
 ·cases h
 ·omega
theorem zcA {i:Nat} {x:Node} (h:qI i x=0) (h3:3<=x.op):0<=x.left∧x.left < i∧0<=x.right∧x.right < i∧x.n=0∧x.name=⟨#[]⟩:=by
 have:=zb4 h;unfold qI at h;rw[if_neg (by omega),if_neg (by omega),if_neg (by omega)] at h;split at h
 ·cases h
 ·split at h
  ·rename_i h1 h2;exact ⟨by omega,by omega,by omega,by omega,h2.1,h2.2⟩
  ·cases h
theorem zf9 {l:List Node} {i:Nat} {x:Node} (h:l[i]? = some x) (hn:jm l i=none):qI i x=0:=by
 unfold jm at hn;rw[h] at hn;simp only at hn;split at hn
 ·assumption
 ·cases hn
theorem yk {u:List Int} {k:Nat} (h:k < u.length):u[k]? = some (u.getD k 0):=by rw[getD_eq_getElem?_getD,getElem?_eq_getElem h];rfl
theorem zie {α:Type} {u:List Int} {x:Node} {n:Nat} (hu:u.length=n) (h0:0<=x.left) (h1:x.left < n) (h2:0<=x.right) (h3:x.right < n) (h4:3<=x.op) (k:List Int->Option α) :
  (ck (decide (0<=Node.left x∧Node.left x < ((List.length u:Nat):Int))) <|
   bno (u[(Int.toNat (Node.left x))]?) fun y5 =>
   ck (decide (0<=Node.left x∧Node.left x < ((List.length u:Nat):Int))) <|
   bno (u[(Int.toNat (Node.left x))]?) fun y6 =>
   ck (decide (0<=Node.right x∧Node.right x < ((List.length (List.set u (Int.toNat (Node.left x)) (wi (y5+(1:Int)))):Nat):Int))) <|
   bno ((List.set u (Int.toNat (Node.left x)) (wi (y5+(1:Int))))[(Int.toNat (Node.right x))]?) fun y7 =>
   ck (decide (0<=Node.right x∧Node.right x < ((List.length (List.set u (Int.toNat (Node.left x)) (wi (y5+(1:Int)))):Nat):Int))) <|
   bno ((List.set u (Int.toNat (Node.left x)) (wi (y5+(1:Int))))[(Int.toNat (Node.right x))]?) fun y8 =>
   k (List.set (List.set u (Int.toNat (Node.left x)) (wi (y5+(1:Int)))) (Int.toNat (Node.right x)) (wi (y7+(1:Int)))))=k (zj1 u x):=by
 have e1:u[x.left.toNat]? = some (u.getD x.left.toNat 0):=yk (by omega);have c1:0<=x.left∧x.left < ((u.length:Nat):Int):=⟨h0,by omega⟩;rw[zp c1,e1];simp only[zi];rw[zp c1];have e2:(u.set x.left.toNat (wi (u.getD x.left.toNat 0+1)))[x.right.toNat]? = some ((u.set x.left.toNat (wi (u.getD x.left.toNat 0+1))).getD x.right.toNat 0):=yk (by rw[List.length_set];omega);have c2:0<=x.right∧x.right < (((u.set x.left.toNat (wi (u.getD x.left.toNat 0+1))).length:Nat):Int):=⟨h2,by rw[List.length_set];omega⟩;rw[zp c2,e2];simp only[zi];rw[zp c2];unfold zj1;rw[if_pos h4]
theorem P241_eq (l:List Node):P241 l=some (zn (zdM l)):=by
 simp only[P241,S241];unfold zdM;by_cases h0:l.length=0
 ·simp[h0,zn]
 by_cases h1:30 < l.length
 ·have:(30:Int) < ((l.length:Nat):Int):=by omega
  simp[h0,h1,this,zn]
 rw[zl,if_neg (by omega),zl,if_neg (by omega),zp ⟨by omega,Int.le_refl _,by unfold zu;omega⟩,if_neg h0,if_neg h1];have L1:=jN (B:=zfB P251 P252 l) (fun i=>((i:Int),zb0 l i)) l.length (fun i=>(jm l i).map zn) (d:=((l.length:Int),zb0 l l.length)) (fun i hi hg=>by
  have hx:=getElem?_eq_getElem hi;simp only[zfB];rw[zl,if_pos (by omega)];simp only[zb,hx,zi,P251_eq hx (by omega),zG,jm,P252_eq];by_cases hz:qI i l[i]=0
  ·have hop:=zb4 hz;have e4:wi ((i:Int)+1)=((i+1:Nat):Int):=by rw[qL (by omega) (by omega)];omega
   rw[zfL hx];simp only[hz,decide_true,Bool.not_true,zd,if_true,map_none,e4];by_cases h3:3<=l[i].op
   ·obtain ⟨a1,a2,a3,a4,_⟩:=zcA hz h3;have e6:(decide (3<=l[i].op) && decide (l[i].op<=6))=true:=by simp[h3,hop.2]
    simp only[e6,zm];have:=zie (α:=Sum (List Int) (LR (Int×List Int) Err)) (u:=zb0 l i) (x:=l[i]) (n:=l.length) (yO l i) a1 (by omega) a3 (by omega) h3 (fun z=>zw (some z));rw[this];rfl
   ·have e6:(decide (3<=l[i].op) && decide (l[i].op<=6))=false:=by simp[h3]
    simp only[e6,zd,zx,qp,zj1,if_neg h3];rfl
  ·simp only[hz,decide_false,Bool.not_false,zm,if_false,map_some]
   rfl) (fun _=>by
  simp only[zfB];rw[zl,if_neg (by omega)]
  rfl)
 have e0:((0:Int),List.replicate (Int.toNat ((l.length:Nat):Int)) (0:Int))=(((0:Nat):Int),zb0 l 0):=by simp[zb0]
 rw[qy,e0,L1,qb];cases hs:(List.range l.length).findSome? (jm l) with
 | some e=>rfl
 | none =>
  simp only[map_none,qp];have L2:=jN (B:=zfA l ((l.length:Int),zb0 l l.length)) (fun i=>(i:Int)) l.length (fun i=>if i < l.length - 1 then (jM l i).map zn else none) (d:=((l.length:Nat):Int)) (fun i hi hg=>by
   simp only[zfA,yO];have e4:wi ((i:Int)+1)=((i+1:Nat):Int):=by rw[qL (by omega) (by omega)];omega
   have e5:wi (((l.length:Nat):Int) - 1)=((l.length - 1:Nat):Int):=by rw[qL (by omega) (by omega)];omega
   rw[zl,if_pos (by omega),zp ⟨by omega,by omega⟩,toNat_natCast,yk (by rw[yO];exact hi)];simp only[zi,e4,e5,jM];by_cases c:(zb0 l l.length).getD i 0=1
   ·simp only[c,not_true,decide_false,zd,zx,qp,if_true,map_none,ite_self];rfl
   ·by_cases d:i < l.length - 1
    ·have:(i:Int) < ((l.length - 1:Nat):Int):=by omega
     simp only[c,d,this,not_false_eq_true,decide_true,zm,zx,qp,if_false,if_true,map_some];rfl
    ·have:¬ (i:Int) < ((l.length - 1:Nat):Int):=by omega
     simp only[c,d,this,not_false_eq_true,decide_true,decide_false,zm,zx,qp,zd,if_false]
     rfl) (fun _=>by
   simp only[zfA,yO];rw[zl,if_neg (by omega)]
   rfl)
  rw[qy,show (0:Int)=((0:Nat):Int) from rfl,L2];have e3:(List.range l.length).findSome? (fun i=>if i < l.length - 1 then (jM l i).map zn else none)=((List.range (l.length - 1)).findSome? (jM l)).map zn:=by
   obtain ⟨n,hn⟩:∃ n,l.length=n+1:=⟨l.length - 1,by omega⟩;rw[← qb,hn,List.range_succ,List.findSome?_append];simp only[Nat.add_sub_cancel];have:∀ (r:List Nat),(∀ i∈r,i < n)->r.findSome? (fun i=>if i < n then (jM l i).map zn else none)=r.findSome? fun i=>(jM l i).map zn:=by
    intro r
    induction r with
    | nil=>intro _;rfl
    | cons a r ih =>intro h;rw[List.findSome?_cons,List.findSome?_cons,if_pos (h a (by simp)),ih fun i hi=>h i (List.mem_cons_of_mem _ hi)]
   rw[this _ fun i hi=>mem_range.1 hi];simp
  rw[e3];cases (List.range (l.length - 1)).findSome? (jM l) with
  | some e=>rfl
  | none=>rfl
theorem P240_eq (l:List Node):P240 l=some (zdM l):=by
 simp only[P240,S240];unfold zdM;by_cases h0:l.length=0
 ·simp[h0]
 by_cases h1:30 < l.length
 ·have:(30:Int) < ((l.length:Nat):Int):=by omega
  simp[h0,h1,this]
 rw[zl,if_neg (by omega),zl,if_neg (by omega),zp ⟨by omega,Int.le_refl _,by unfold zu;omega⟩,if_neg h0,if_neg h1];have L1:=jN (B:=zfD P97 l) (fun i=>((i:Int),zb0 l i)) l.length (fun i=>jm l i) (d:=((l.length:Int),zb0 l l.length)) (fun i hi hg=>by
  have hx:=getElem?_eq_getElem hi;have e4:wi ((i:Int)+1)=((i+1:Nat):Int):=by rw[qL (by omega) (by omega)];omega
  simp only[zfD];rw[zl,if_pos (by omega)];simp only[zb,hx,zi,jm,P97_eq];rw[zfL hx];generalize l[i]=x at hx;by_cases c1:x.op < 1
  ·simp[qI,c1]
  by_cases c2:6 < x.op
  ·simp[qI,c1,c2]
  by_cases c3:x.op=1
  ·have hu:zj1 (zb0 l i) x=zb0 l i:=by unfold zj1;rw[if_neg (by omega)]
   by_cases c4:x.n < 0
   ·simp[qI,c3,c4]
   by_cases c5:1000000 < x.n
   ·simp[qI,c3,c4,c5]
   by_cases d1:x.name=⟨#[]⟩<;>by_cases d2:x.left=0<;>by_cases d3:x.right=0<;>simp[qI,c3,c4,c5,d1,d2,d3,hu,e4]
  by_cases c4:x.op=2
  ·have hu:zj1 (zb0 l i) x=zb0 l i:=by unfold zj1;rw[if_neg (by omega)]
   by_cases c5:zZ x.name=true
   ·simp[qI,c4,c5]
   simp only[Bool.not_eq_true] at c5;by_cases d1:x.n=0<;>by_cases d2:x.left=0<;>by_cases d3:x.right=0<;>simp[qI,c4,c5,d1,d2,d3,hu,e4]
  by_cases c5:x.left < 0
  ·simp[qI,c1,c2,c3,c4,c5]
  by_cases c6:(i:Int)<=x.left
  ·simp[qI,c1,c2,c3,c4,c5,c6]
  by_cases c7:x.right < 0
  ·simp[qI,c1,c2,c3,c4,c5,c6,c7]
  by_cases c8:(i:Int)<=x.right
  ·simp[qI,c1,c2,c3,c4,c5,c6,c7,c8]
  by_cases d1:x.n=0
  ·by_cases d2:x.name=⟨#[]⟩
   ·have:=zie (α:=Sum (List Int) (LR (Int×List Int) Int)) (u:=zb0 l i) (x:=x) (n:=l.length) (yO l i) (by omega) (by omega) (by omega) (by omega) (by omega) (fun z=>zw (some z));simp only[c1,c2,c3,c4,c5,c6,c7,c8,d1,d2,decide_true,decide_false,zm,zd,zx,qp,not_true,qI,or_self,and_self,if_true,if_false];simp only[zx] at this;rw[this];simp[e4]
   ·simp[qI,c1,c2,c3,c4,c5,c6,c7,c8,d1,d2]
  ·simp[qI,c1,c2,c3,c4,c5,c6,c7,c8,d1]) (fun _=>by
  simp only[zfD];rw[zl,if_neg (by omega)]
  rfl)
 have e0:((0:Int),List.replicate (Int.toNat ((l.length:Nat):Int)) (0:Int))=(((0:Nat):Int),zb0 l 0):=by simp[zb0]
 rw[qy,e0,L1];cases hs:(List.range l.length).findSome? (jm l) with
 | some e=>rfl
 | none =>
  simp only[qp];have e5:wi (((l.length:Nat):Int) - 1)=((l.length - 1:Nat):Int):=by rw[qL (by omega) (by omega)];omega
  have L2:=jN (B:=zfC l ((l.length:Int),zb0 l l.length)) (fun i=>(i:Int)) (l.length - 1) (jM l) (d:=((l.length - 1:Nat):Int)) (fun i hi hg=>by
   simp only[zfC,yO,e5];have e4:wi ((i:Int)+1)=((i+1:Nat):Int):=by rw[qL (by omega) (by omega)];omega
   rw[zl,if_pos (by omega),zp ⟨by omega,by omega⟩,toNat_natCast,yk (by rw[yO];omega)];simp only[zi,e4,jM];by_cases c:(zb0 l l.length).getD i 0=1
   ·simp only[c,not_true,decide_false,zd,if_true];rfl
   ·simp only[c,not_false_eq_true,decide_true,zm,if_false]
    rfl) (fun _=>by
   simp only[zfC,e5];rw[zl,if_neg (by omega)]
   rfl)
  rw[qy,show (0:Int)=((0:Nat):Int) from rfl,L2];cases (List.range (l.length - 1)).findSome? (jM l) with
  | some e=>rfl
  | none=>rfl
structure FormOk (l:List Node):Prop where
 pos:0 < l.length
 most:l.length<=30
 node:∀ (i:Nat) (x:Node),l[i]? = some x->qI i x=0
 use:∀ i,i < l.length - 1->(zb0 l l.length).getD i 0=1
theorem form_ok {l:List Node}:zdM l=0↔FormOk l:=by
 unfold zdM;by_cases h0:l.length=0
 ·rw[if_pos h0];exact ⟨fun h=>(by cases h),fun h=>by have:=h.pos;omega⟩
 by_cases h1:30 < l.length
 ·rw[if_neg h0,if_pos h1];exact ⟨fun h=>(by cases h),fun h=>by have:=h.most;omega⟩
 rw[if_neg h0,if_neg h1];cases hs:(List.range l.length).findSome? (jm l) with
 | some e =>
  obtain ⟨i,hi,he⟩:=List.exists_of_findSome?_eq_some hs;have hi:=mem_range.1 hi;have hx:=getElem?_eq_getElem hi;unfold jm at he;rw[hx] at he;simp only at he;refine ⟨fun h => ?_,fun h => ?_⟩
  ·split at he
   ·cases he
   ·rename_i hn;cases he;exact absurd h hn
  ·rw[if_pos (h.node i _ hx)] at he;cases he
 | none =>
  have hnode:∀ (i:Nat) (x:Node),l[i]? = some x->qI i x=0:=fun i x hx =>
   zf9 hx (List.findSome?_eq_none_iff.1 hs i (mem_range.2 (List.getElem?_eq_some_iff.1 hx).1))
  simp only;cases hs2:(List.range (l.length - 1)).findSome? (jM l) with
  | some e =>
   obtain ⟨i,hi,he⟩:=List.exists_of_findSome?_eq_some hs2;unfold jM at he;refine ⟨fun h => ?_,fun h => ?_⟩
   ·split at he
    ·cases he
    ·cases he;cases h
   ·rw[if_pos (h.use i (mem_range.1 hi))] at he;cases he
  | none =>
   refine ⟨fun _=>⟨by omega,by omega,hnode,fun i hi => ?_⟩,fun _=>rfl⟩;have:=List.findSome?_eq_none_iff.1 hs2 i (mem_range.2 hi);unfold jM at this;split at this
   ·assumption
   ·cases this
end
section
theorem zfd:∀ (x y:List UInt8),Op.bytesLess x y=decide (x < y)
 | [],[]=>by simp[Op.bytesLess]
 | _ :: _,[]=>by simp[Op.bytesLess]
 | [],_ :: _=>by simp[Op.bytesLess]
 | a :: x,b :: y=>by
  rw[Op.bytesLess,zfd x y];simp only[List.cons_lt_cons_iff];by_cases h1:a < b<;>by_cases h2:a=b<;>by_cases h3:x < y<;>simp[h1,h2,h3]
theorem zif (s:ByteArray):s.toList=s.data.toList:=ByteArray.toList_eq s
theorem zcH (x:List UInt8):¬ x < x:=List.lt_irrefl x
theorem zeS {x y z:List UInt8} (h:x < y) (k:y < z):x < z:=List.lt_trans h k
theorem l8_le {x y:List UInt8}:x<=y↔x < y∨x=y:=by
 refine ⟨fun h => ?_,fun h => ?_⟩
 ·by_cases e:x=y
  ·exact .inr e
  ·exact .inl (Decidable.byContradiction fun hn=>e (List.le_antisymm h (not_lt.1 hn)))
 ·rcases h with h | rfl
  ·exact List.le_of_lt h
  ·exact le_refl x
theorem zdR:∀ {as bs:List (List UInt8)},as.Pairwise (· < ·)->bs.Pairwise (· < ·)->(∀ x,x∈as↔x∈bs)->as=bs
 | [],[],_,_,_=>rfl
 | [],b :: bs,_,_,h=>absurd ((h b).2 (by simp)) (by simp)
 | a :: as,[],_,_,h=>absurd ((h a).1 (by simp)) (by simp)
 | a :: as,b :: bs,ha,hb,h=>by
  obtain ⟨ha1,ha2⟩:=List.pairwise_cons.1 ha;obtain ⟨hb1,hb2⟩:=List.pairwise_cons.1 hb;have e:a=b:=by
   rcases mem_cons.1 ((h a).1 (by simp)) with e | hm
   ·exact e
   ·rcases mem_cons.1 ((h b).2 (by simp)) with e | hm2
    ·exact e.symm
    ·exact absurd (zeS (hb1 a hm) (ha1 b hm2)) (zcH b)
  subst e;congr 1;refine zdR ha2 hb2 fun x => ?_;have hx:=h x;simp only[mem_cons] at hx;refine ⟨fun hm => ?_,fun hm => ?_⟩
  ·rcases hx.1 (.inr hm) with rfl | hm2
   ·exact absurd (ha1 x hm) (zcH x)
   ·exact hm2
  ·rcases hx.2 (.inr hm) with rfl | hm2
   ·exact absurd (hb1 x hm) (zcH x)
   ·exact hm2
theorem zhP (zs:List (List UInt8)) (hz:zs.Pairwise (·<=·)):∀ m,m<=zs.length->(Lib.compactUpTo zs.toArray m).Pairwise (· < ·)∧(∀ x,x∈Lib.compactUpTo zs.toArray m↔x∈zs.take m)∧∀ k y,m=k+1->zs[k]? = some y->∀ x∈Lib.compactUpTo zs.toArray m,x<=y:=by
 intro m
 induction m with
 | zero=>intro _;exact ⟨by simp[Lib.compactUpTo],by simp[Lib.compactUpTo],fun k y e=>by omega⟩
 | succ m ih =>
  intro hm;obtain ⟨i1,i2,i3⟩:=ih (by omega);have hg:zs[m]? = some zs[m]:=getElem?_eq_getElem (by omega);have e1:zs.toArray[m]! = zs[m]:=by simp[getElem!_pos,show m < zs.length by omega]
  have ht:zs.take (m+1)=zs.take m++[zs[m]]:=by rw[List.take_add_one,hg];rfl
  rw[Lib.compactUpTo_succ,e1];by_cases hk:Lib.keeps zs.toArray m=true
  ·rw[if_pos hk];have hlt:∀ x∈Lib.compactUpTo zs.toArray m,x < zs[m]:=by
    intro x hx;cases m with
    | zero=>simp[Lib.compactUpTo] at hx
    | succ k =>
     have h1:=i3 k zs[k] rfl (getElem?_eq_getElem (by omega)) x hx;have h2:zs[k]<=zs[k+1]:=(List.pairwise_iff_getElem.1 hz) k (k+1) (by omega) (by omega) (by omega);have e2:zs.toArray[k]! = zs[k]:=by simp[getElem!_pos,show k < zs.length by omega]
     have h3:zs[k+1]≠zs[k]:=by
      unfold Lib.keeps at hk;have:=of_decide_eq_true hk;rcases this with h | h
      ·omega
      ·rw[Nat.add_sub_cancel,e2,e1] at h;exact h
     rcases l8_le.1 h2 with h2 | h2
     ·rcases l8_le.1 h1 with h1 | rfl
      ·exact zeS h1 h2
      ·exact h2
     ·exact absurd h2.symm h3
   refine ⟨pairwise_append.2 ⟨i1,by simp,fun x hx y hy => ?_⟩,fun x => ?_,fun k y e hy x hx => ?_⟩
   ·obtain rfl:=List.mem_singleton.1 hy;exact hlt x hx
   ·rw[ht,mem_append,mem_append,i2]
   ·obtain rfl:k=m:=by omega
    rw[hg] at hy;cases hy;rcases mem_append.1 hx with hx | hx
    ·exact l8_le.2 (.inl (hlt x hx))
    ·obtain rfl:=List.mem_singleton.1 hx;exact le_refl _
  ·rw[if_neg hk,List.append_nil];cases m with
   | zero=>exact absurd (Lib.keeps_lt_one _ 0 (by omega)) hk
   | succ k =>
    have e2:zs.toArray[k]! = zs[k]:=by simp[getElem!_pos,show k < zs.length by omega]
    have h3:zs[k+1]=zs[k]:=(by unfold Lib.keeps at hk;have h:=hk;rw[decide_eq_true_eq] at h;have h:=not_or.1 h;have:=Decidable.not_not.1 h.2;rw[Nat.add_sub_cancel,e2,e1] at this;exact this);refine ⟨i1,fun x => ?_,fun k' y e hy x hx => ?_⟩
    ·rw[ht,mem_append,i2,List.mem_singleton];refine ⟨.inl,fun h => ?_⟩;rcases h with h | rfl
     ·exact h
     ·rw[h3];exact List.mem_take_iff_getElem.2 ⟨k,by omega,rfl⟩
    ·obtain rfl:k'=k+1:=by omega
     rw[hg] at hy;cases hy;rw[h3];exact i3 k zs[k] rfl (getElem?_eq_getElem (by omega)) x hx
theorem sort8 (l:List (List UInt8)):(l.mergeSort fun x y=>decide (x<=y)).Pairwise (·<=·):=by have h:=List.pairwise_mergeSort (le:=fun (x y:List UInt8)=>decide (x<=y)) (fun a b c h1 h2=>by simp only[decide_eq_true_eq] at *;exact List.le_trans h1 h2) (fun a b=>by simp only[Bool.or_eq_true,decide_eq_true_eq];exact List.le_total a b) l;exact h.imp fun h=>by simpa using h
theorem ziW (l:List ByteArray):(sL (zjT (zg6 l))).Pairwise (· < ·)∧∀ x,x∈sL (zjT (zg6 l))↔x∈sL l:=by
 have sb:∀ z:List (List UInt8),sL (bL z)=z:=by
  intro z;unfold sL bL;rw[List.map_map]
  conv=>rhs;rw[← List.map_id z]
  exact List.map_congr_left fun s _=>by simp
 have e:sL (zjT (zg6 l))=Lib.compact ((sL l).mergeSort fun x y=>decide (x<=y)):=(by unfold zjT zg6;rw[sb,sb]);obtain ⟨h1,h2,_⟩:=zhP _ (sort8 (sL l)) _ (Nat.le_refl _);rw[e];unfold Lib.compact;refine ⟨h1,fun x => ?_⟩;rw[h2,List.take_length];exact (List.mergeSort_perm _ _).mem_iff
def zdA (out:List ByteArray) (s:ByteArray):Nat:=(out.takeWhile fun a=>Op.bytesLess a.toList s.toList).length
def insB (out:List ByteArray) (s:ByteArray):List ByteArray:=if out[zdA out s]? = some s then out else out.take (zdA out s)++[s]++out.drop (zdA out s)
theorem takeW {α:Type} (p:α->Bool):∀ (l:List α),(∀ x∈l.take (l.takeWhile p).length,p x=true)∧(∀ y,l[(l.takeWhile p).length]? = some y->p y=false)∧(l.takeWhile p).length<=l.length
 | []=>by simp
 | a :: l=>by
  obtain ⟨h1,h2,h3⟩:=takeW p l;cases hp:p a with
  | true =>
   simp only[List.takeWhile_cons,hp,if_true,List.length_cons,List.take_succ_cons,List.getElem?_cons_succ];refine ⟨fun x hx => ?_,h2,by omega⟩;rcases mem_cons.1 hx with rfl | hx
   ·exact hp
   ·exact h1 x hx
  | false =>simp[List.takeWhile_cons,hp]
theorem zik (a b:List ByteArray):sL (a++b)=sL a++sL b:=by simp[sL]
theorem insB_ok {out:List ByteArray} {s:ByteArray} (h:(sL out).Pairwise (· < ·)):(sL (insB out s)).Pairwise (· < ·)∧∀ x,x∈sL (insB out s)↔x∈sL out∨x=s.data.toList:=by
 obtain ⟨t1,t2,t3⟩:=takeW (fun a:ByteArray=>Op.bytesLess a.toList s.toList) out;have hin:∀ {x},x∈sL out↔∃ b∈out,b.data.toList=x:=by intro x;simp[sL]
 have hinj:∀ {a b:ByteArray},a.data.toList=b.data.toList->a=b:=fun {a b} h=>(by obtain ⟨⟨a⟩⟩:=a;obtain ⟨⟨b⟩⟩:=b;simp at h;subst h;rfl);unfold insB;by_cases c:out[zdA out s]? = some s
 ·rw[if_pos c];refine ⟨h,fun x=>⟨.inl,fun hx => ?_⟩⟩;rcases hx with hx | rfl
  ·exact hx
  ·exact hin.2 ⟨s,List.mem_of_getElem? c,rfl⟩
 ·rw[if_neg c];have ha:∀ x∈sL (out.take (zdA out s)),x < s.data.toList:=(by intro x hx;obtain ⟨b,hb,rfl⟩:∃ b∈out.take (zdA out s),b.data.toList=x:=mem_map.1 hx;have:=t1 b hb;rw[zfd,zif,zif] at this;exact of_decide_eq_true this);have hd:out=out.take (zdA out s)++out.drop (zdA out s):=(List.take_append_drop _ _).symm;have hp:(sL (out.take (zdA out s))++sL (out.drop (zdA out s))).Pairwise (· < ·):=by rw[← zik,← hd];exact h
  obtain ⟨p1,p2,p3⟩:=pairwise_append.1 hp;have hb:∀ x∈sL (out.drop (zdA out s)),s.data.toList < x:=by
   intro x hx;cases hdr:out.drop (zdA out s) with
   | nil=>rw[hdr] at hx;simp[sL] at hx
   | cons y r =>
    have hy:out[zdA out s]? = some y:=by rw[← List.head?_drop,hdr];rfl
    have h1:=t2 y hy;rw[zfd,zif,zif] at h1;have h1:¬ y.data.toList < s.data.toList:=of_decide_eq_false h1;have hlt:s.data.toList < y.data.toList:=by
     rcases l8_le.1 (not_lt.1 h1) with h | h
     ·exact h
     ·exact absurd (by rw[hy,hinj h]) c
    rw[hdr] at hx p2;have e:sL (y :: r)=y.data.toList :: sL r:=rfl;rw[e] at hx p2;rcases mem_cons.1 hx with rfl | hx
    ·exact hlt
    ·exact zeS hlt ((List.pairwise_cons.1 p2).1 x hx)
  rw[zik,zik];refine ⟨pairwise_append.2 ⟨pairwise_append.2 ⟨p1,by simp[sL],fun x hx y hy => ?_⟩,p2,fun x hx y hy => ?_⟩,fun x => ?_⟩
  ·obtain rfl:y=s.data.toList:=by simpa[sL] using hy
   exact ha x hx
  ·rcases mem_append.1 hx with hx | hx
   ·exact p3 x hx y hy
   ·obtain rfl:x=s.data.toList:=by simpa[sL] using hx
    exact hb y hy
  ·rw[mem_append,mem_append]
   conv=>rhs;rw[hd,zik,mem_append]
   have:x∈sL [s]↔x=s.data.toList:=by simp[sL]
   rw[this];constructor
   ·rintro ((h | h) | h)
    ·exact .inl (.inl h)
    ·exact .inr h
    ·exact .inl (.inr h)
   ·rintro ((h | h) | h)
    ·exact .inl (.inl h)
    ·exact .inr h
    ·exact .inl (.inr h)
def zao (l:List Node):List ByteArray:=(l.filter fun x=>decide (x.op=2)).map Node.name
def refsOf (l:List Node):List ByteArray:=zjT (zg6 (zao l))
def zj4 (l:List Node):List ByteArray:=l.foldl (fun out x=>if x.op=2 then insB out x.name else out) []
theorem insL_ok (l:List Node):(sL (zj4 l)).Pairwise (· < ·)∧∀ x,x∈sL (zj4 l)↔x∈sL (zao l):=by
 unfold zj4;have:∀ (l:List Node) (out:List ByteArray),(sL out).Pairwise (· < ·)->(sL (l.foldl (fun out x=>if x.op=2 then insB out x.name else out) out)).Pairwise (· < ·)∧∀ x,x∈sL (l.foldl (fun out x=>if x.op=2 then insB out x.name else out) out)↔x∈sL out∨x∈sL (zao l):=by
  intro l
  induction l with
  | nil=>intro out h;exact ⟨h,fun x=>by simp[zao,sL]⟩
  | cons y l ih =>
   intro out h;rw[foldl_cons];by_cases c:y.op=2
   ·rw[if_pos c];obtain ⟨k1,k2⟩:=insB_ok (s:=y.name) h;obtain ⟨j1,j2⟩:=ih _ k1;refine ⟨j1,fun x => ?_⟩;rw[j2,k2];have:zao (y :: l)=y.name :: zao l:=by simp[zao,c]
    rw[this];have e:sL (y.name :: zao l)=y.name.data.toList :: sL (zao l):=rfl;rw[e,mem_cons,or_assoc]
   ·rw[if_neg c];obtain ⟨j1,j2⟩:=ih _ h;refine ⟨j1,fun x => ?_⟩;rw[j2];have:zao (y :: l)=zao l:=by simp[zao,c]
    rw[this]
 obtain ⟨h1,h2⟩:=this l [] (by simp[sL]);exact ⟨h1,fun x=>by rw[h2];simp[sL]⟩
theorem insL_eq (l:List Node):zj4 l=refsOf l:=by
 obtain ⟨a1,a2⟩:=insL_ok l;obtain ⟨b1,b2⟩:=ziW (zao l);have:=zdR a1 b1 fun x=>(a2 x).trans (b2 x).symm;have:=congrArg bL this
 rwa [bL_sL,bL_sL] at this
theorem zb1 (l:List Node):(zao l).length<=l.length:=by unfold zao;rw[List.length_map];exact List.length_filter_le _ _
theorem zbb {l:List Node} {s:ByteArray}:s∈refsOf l↔∃ x∈l,x.op=2∧x.name=s:=by have hinj:∀ {a b:ByteArray},a.data.toList=b.data.toList->a=b:=fun {a b} h=>(by obtain ⟨⟨a⟩⟩:=a;obtain ⟨⟨b⟩⟩:=b;simp at h;subst h;rfl);have h:=(ziW (zao l)).2 s.data.toList;have m:∀ (r:List ByteArray),s.data.toList∈sL r↔s∈r:=fun r=>(by unfold sL;rw[mem_map];exact ⟨fun ⟨b,hb,e⟩=>hinj e ▸ hb,fun h=>⟨s,h,rfl⟩⟩);rw[m,m] at h;unfold refsOf;rw[h];simp only[zao,mem_map,List.mem_filter,decide_eq_true_eq];exact ⟨fun ⟨x,⟨h1,h2⟩,h3⟩=>⟨x,h1,h2,h3⟩,fun ⟨x,h1,h2,h3⟩=>⟨x,⟨h1,h2⟩,h3⟩⟩
theorem zjy (l:List Node):(refsOf l).length<=l.length:=by unfold refsOf zjT;rw[zgO];refine le_trans ?_ (zb1 l);unfold Lib.compact Lib.compactUpTo;rw[List.length_map];refine le_trans (List.length_filter_le _ _) ?_;rw[List.length_range,zfU,zfQ];exact Nat.le_refl _
theorem refL_app (a b:List Node):zao (a++b)=zao a++zao b:=by unfold zao;rw[List.filter_append,List.map_append]
theorem P243_eq (l:List Node) (hl:l.length<=1000000):P243 l=some (refsOf l):=by
 have ilen:∀ (r:List Node) (out:List ByteArray),(r.foldl (fun out x=>if x.op=2 then insB out x.name else out) out).length<=out.length+r.length:=by
  intro r
  induction r with
  | nil=>intro out;simp
  | cons y r ih =>
   intro out;rw[foldl_cons];refine le_trans (ih _) ?_;have:(if y.op=2 then insB out y.name else out).length<=out.length+1:=by
    split
    ·unfold insB;split
     ·omega
     ·simp;omega
    ·omega
   simp only[List.length_cons];omega
 have ins_succ:∀ {i:Nat} {x:Node},l[i]? = some x->zj4 (l.take (i+1))=if x.op=2 then insB (zj4 (l.take i)) x.name else zj4 (l.take i):=fun h=>jQ _ _ _ h;have blen:∀ i,(zj4 (l.take i)).length<=l.length:=fun i=>le_trans (ilen _ _) (by simp;omega);have hs:=zJ (B:=zfz l) (fun i=>(zj4 (l.take i),(i:Int))) l.length (fun i hi=>by
  have hg:=getElem?_eq_getElem hi;have e4:wi ((i:Int)+1)=((i+1:Nat):Int):=by rw[qL (by omega) (by omega)];omega
  have hb:=blen i;simp only[zfz];rw[zl,if_pos (by omega)];simp only[zb,hg,zi,ins_succ hg];by_cases c:l[i].op=2
  ·simp only[c,not_true,decide_false,zd,if_true];generalize hout:zj4 (l.take i)=out at hb;obtain ⟨t1,t2,t3⟩:=takeW (fun a:ByteArray=>Op.bytesLess a.toList l[i].name.toList) out;have hc:zdA out l[i].name<=out.length:=t3;have hk:=zJ (B:=zdv l (out,(i:Int))) (fun k=>(k:Int)) (zdA out l[i].name) (fun k hk=>by
    have hgk:=getElem?_eq_getElem (l:=out) (i:=k) (by omega);have e4:wi ((k:Int)+1)=((k+1:Nat):Int):=by rw[qL (by omega) (by omega)];omega
    have ht:Op.bytesLess out[k].toList l[i].name.toList=true:=t1 _ (List.mem_take_iff_getElem.2 ⟨k,by have h5:k < (out.takeWhile fun a=>Op.bytesLess a.toList l[i].name.toList).length:=hk;omega,rfl⟩);simp only[zdv];rw[zl,if_pos (by omega)];simp only[zb,hgk,hg,zi,ht,zx,qp,zm,e4]
    rfl)
   have hdn:zdv l (out,(i:Int)) ((zdA out l[i].name:Nat):Int)=some (.dn ((zdA out l[i].name:Nat):Int)):=by
    simp only[zdv];by_cases h1:zdA out l[i].name < out.length
    ·have hgk:=getElem?_eq_getElem h1;have ht:Op.bytesLess out[zdA out l[i].name].toList l[i].name.toList=false:=t2 _ hgk;rw[zl,if_pos (by omega)];simp only[zb,hgk,hg,zi,ht,zx,qp,zd];rfl
    ·rw[zl,if_neg (by omega)];rfl
   rw[qy,show (0:Int)=((0:Nat):Int) from rfl,hk,zP hdn];simp only[qp,insB];by_cases h1:zdA out l[i].name < out.length
   ·have hgk:=getElem?_eq_getElem h1;rw[zl,if_pos (by omega)];simp only[zb,hgk,hg,zi,zx,qp,Option.some.injEq];by_cases h2:out[zdA out l[i].name]=l[i].name
    ·simp only[h2,decide_true,zm,if_true,zx,qp,e4];rfl
    ·simp only[h2,decide_false,zd,if_false];rw[zp ⟨by omega,by omega,by omega⟩,zp (by unfold zu;simp;omega),zp (by unfold zu;simp;omega),zp ⟨by omega,by omega,by omega⟩,zp (by unfold zu;simp;omega)];simp only[zx,qp,e4];simp;exact List.take_of_length_le (by simp)
   ·have h2:¬ out[zdA out l[i].name]? = some l[i].name:=by rw[List.getElem?_eq_none (by omega)];simp
    rw[zl,if_neg (by omega)];simp only[zx,qp,zd,if_neg h2,zb,hg,zi];rw[zp ⟨by omega,by omega,by omega⟩,zp (by unfold zu;simp;omega),zp (by unfold zu;simp;omega),zp ⟨by omega,by omega,by omega⟩,zp (by unfold zu;simp;omega)];simp only[zx,qp,e4];simp;exact List.take_of_length_le (by simp)
  ·simp only[c,not_false_eq_true,decide_true,zm,zx,qp,if_false,e4]
   rfl)
 have e0:(([]:List ByteArray),(0:Int))=(zj4 (l.take 0),((0:Nat):Int)):=rfl;simp only[P243,S243];rw[qy,e0,hs,zP (y:=(zj4 (l.take l.length),((l.length:Nat):Int))) (by simp only[zfz];rw[zl,if_neg (by omega)];rfl),List.take_length];simp only[qp,insL_eq]
end
section
section
variable {l:List Node}
end
end
section
end
section
def nmI (names:List ByteArray) (s:ByteArray):Int:=idxOf (fun y=>decide (y=s)) names
theorem P291_eq (names:List ByteArray) (s:ByteArray) (h:names.length<=9223372036854775807):P291 names s=some (nmI names s):=by
 refine jT _ names (fun i y hy => ?_) (by simp[zh4]);have hi:=(List.getElem?_eq_some_iff.1 hy).1;have e:(((i:Nat):Int) < ((names.length:Nat):Int)):=by omega
 simp only[zh4,zb,hy,zi,e,decide_true,zm];rw[qL (by omega) (by omega)];by_cases c:y=s<;>simp[c]
theorem nmI_in {names:List ByteArray} {s:ByteArray} (h:s∈names):∃ i:Nat,nmI names s=(i:Int)∧i < names.length:=by
 unfold nmI idxOf;cases hf:names.findIdx? (fun y=>decide (y=s)) with
 | none =>have:=List.findIdx?_eq_none_iff.1 hf s h;simp at this
 | some i=>exact ⟨i,rfl,(List.findIdx?_eq_some_iff_getElem.1 hf).1⟩
def wK (names:List ByteArray) (cells out:List Cell) (x:Node):Cell :=
 if x.op=1 then yM x.n
 else if x.op=2 then cells.getD (nmI names x.name).toNat ⟨0,0⟩
 else if x.op=3 then wG (out.getD x.left.toNat ⟨0,0⟩) (out.getD x.right.toNat ⟨0,0⟩) 1
 else if x.op=4 then wG (out.getD x.left.toNat ⟨0,0⟩) (out.getD x.right.toNat ⟨0,0⟩) (-1)
 else if x.op=5 then zbP (out.getD x.left.toNat ⟨0,0⟩) (out.getD x.right.toNat ⟨0,0⟩)
 else cover (out.getD x.left.toNat ⟨0,0⟩) (out.getD x.right.toNat ⟨0,0⟩)
def evL (l:List Node) (names:List ByteArray) (cells:List Cell) (k:Nat):List Cell:=(l.take k).foldl (fun out x=>out++[wK names cells out x]) []
section
variable {l:List Node} {names:List ByteArray} {cells:List Cell}
theorem zaV {i:Nat} {x:Node} (h:l[i]? = some x):evL l names cells (i+1)=evL l names cells i++[wK names cells (evL l names cells i) x]:=jQ _ _ _ h
theorem wa:∀ (k:Nat),k<=l.length->(evL l names cells k).length=k
 | 0,_=>rfl
 | k+1,h=>by rw[zaV (getElem?_eq_getElem (by omega)),List.length_append,wa k (by omega)];rfl
theorem zhF:∀ (m k j:Nat),j < k->k+m<=l.length->(evL l names cells (k+m)).getD j ⟨0,0⟩=(evL l names cells k).getD j ⟨0,0⟩
 | 0,k,j,_,_=>rfl
 | m+1,k,j,hj,h=>by
  rw[← Nat.add_assoc,zaV (getElem?_eq_getElem (by omega)),← zhF m k j hj (by omega)];simp only[getD_eq_getElem?_getD];rw[List.getElem?_append_left (by rw[wa _ (by omega)];omega)]
theorem evL_at {i:Nat} {x:Node} (h:l[i]? = some x) (k:Nat) (hk:i < k) (hl:k<=l.length):(evL l names cells k).getD i ⟨0,0⟩=wK names cells (evL l names cells i) x:=by obtain ⟨m,rfl⟩:∃ m,k=(i+1)+m:=⟨k - (i+1),by omega⟩;rw[zhF m (i+1) i (by omega) hl,zaV h];simp only[getD_eq_getElem?_getD];rw[List.getElem?_append_right (by rw[wa _ (by omega)];omega),wa _ (by omega)];simp
theorem wJ (n:Int):within (yM n).n=true:=by
 unfold yM;split
 ·assumption
 ·rfl
theorem cellN_in (hc:∀ c∈cells,within c.n=true) (out:List Cell) (x:Node):within (wK names cells out x).n=true:=by
 have h0:within 0=true:=rfl;unfold wK;split
 ·exact wJ _
 ·split
  ·rw[getD_eq_getElem?_getD];cases h:cells[(nmI names x.name).toNat]? with
   | none=>exact h0
   | some c=>exact hc c (List.mem_of_getElem? h)
  ·have hp:∀ a b s,within (wG a b s).n=true:=by
    intro a b s;unfold wG
    repeat' split
    all_goals first | exact h0 | exact wJ _
   split
   ·exact hp _ _ _
   ·split
    ·exact hp _ _ _
    ·split
     ·unfold zbP
      repeat' split
      all_goals first | exact h0 | exact wJ _
     ·unfold cover
      repeat' split
      all_goals first | exact h0 | exact wJ _
theorem zgv (hc:∀ c∈cells,within c.n=true):∀ (k:Nat),k<=l.length->∀ j,within ((evL l names cells k).getD j ⟨0,0⟩).n=true
 | 0,_,j=>rfl
 | k+1,h,j=>by
  rw[zaV (getElem?_eq_getElem (by omega))];simp only[getD_eq_getElem?_getD];by_cases hj:j < k
  ·rw[List.getElem?_append_left (by rw[wa _ (by omega)];omega)];have:=zgv hc k (by omega) j;rw[getD_eq_getElem?_getD] at this;exact this
  ·rw[List.getElem?_append_right (by rw[wa _ (by omega)];omega),wa _ (by omega)];by_cases e:j=k
   ·subst e;simpa using cellN_in hc _ _
   ·rw[List.getElem?_eq_none (by simp;omega)];rfl
theorem P292n_eq (ok:FormOk l) (hn:names.length<=9223372036854775807) (hlen:names.length=cells.length) (hc:∀ c∈cells,within c.n=true) (hr:∀ x∈l,x.op=2->x.name∈names) :
  ∀ (f i:Nat),i < f->i < l.length->zj0 f l (i:Int) names cells=some ((evL l names cells l.length).getD i ⟨0,0⟩):=by
 intro f
 induction f with
 | zero=>intro i h;omega
 | succ f ih =>
  intro i hif hil;have hg:=getElem?_eq_getElem hil;have hnode:=ok.node i _ hg;have hop:=zb4 hnode;show S292 P146 P147 P148 P150 P291 (zj0 f) l (i:Int) names cells=_;rw[evL_at hg l.length hil (Nat.le_refl _)];simp only[S292,zb,hg,zi];generalize hx:l[i]=x at hg hnode hop;have hmem:x∈l:=List.mem_of_getElem? hg;by_cases c1:x.op=1
  ·simp[c1,zfH,wK]
  by_cases c2:x.op=2
  ·obtain ⟨k,hk1,hk2⟩:=nmI_in (hr x hmem c2);have hcell:zj cells (nmI names x.name)=some (cells.getD (nmI names x.name).toNat ⟨0,0⟩):=(by rw[hk1,zb,toNat_natCast,getD_eq_getElem?_getD,getElem?_eq_getElem (by omega)];rfl);simp only[c1,c2,decide_true,decide_false,zm,zd,P291_eq names _ hn,zi,hcell,wK,if_true,if_false];simp
  obtain ⟨a1,a2,a3,a4,_⟩:=zcA hnode (by omega);have get:∀ a:Int,0<=a->a < i->zj0 f l a names cells=some ((evL l names cells i).getD a.toNat ⟨0,0⟩):=(by intro a h0 h1;obtain ⟨n,rfl⟩:=Int.eq_ofNat_of_zero_le h0;rw[ih n (by omega) (by omega),toNat_natCast];obtain ⟨m,hm⟩:∃ m,l.length=i+m:=⟨l.length - i,by omega⟩;have:=zhF (l:=l) (names:=names) (cells:=cells) m i n (by omega) (by omega);rw[← hm] at this;rw[this]);have w1:=zgv (l:=l) (names:=names) hc i (by omega) x.left.toNat;have w2:=zgv (l:=l) (names:=names) hc i (by omega) x.right.toNat;simp only[c1,c2,decide_false,zd,get _ a1 a2,get _ a3 a4,zi];by_cases c3:x.op=3
  ·simp[c3,zia,wK]
  by_cases c4:x.op=4
  ·simp[c4,zia,wK]
  by_cases c5:x.op=5
  ·simp only[decide_eq_false c3,decide_eq_false c4,decide_eq_true c5,zm,zd,P147_eq w1 w2,zi];simp[c5,wK]
  ·simp only[decide_eq_false c3,decide_eq_false c4,decide_eq_false c5,zd,P148_eq w1 w2,zi];simp[c1,c2,c3,c4,c5,wK]
end
end
section
end
end Ab
