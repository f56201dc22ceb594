import Derived.Test.YtchidgkpkhloeaaGreatDoorH9
open List (mem_range)
open Option (map_none map_some)
set_option linter.unusedVariables false
set_option linter.unusedSimpArgs false
namespace Ab
open Go
section
theorem qX {σ α:Type} {B:σ->Option (LR σ α)} (st:Nat->σ) (n:Nat) (g:Nat->Option α) {d:σ} (h:∀ i,i < n->(∀ j,j < i->g j=none)->B (st i)=some (match g i with | some r=>.fin r | none=>.nx (st (i+1))))
  (hn:(∀ j,j < n->g j=none)->B (st n)=some (.dn d)):lpO B (st 0)=some (match (List.range n).findSome? g with | some r=>.inr r | none=>.inl d):=by
 have key:∀ (m k:Nat),k+m=n->(∀ j,j < k->g j=none)->lpO B (st k)=some (match (List.range' k m).findSome? g with | some r=>.inr r | none=>.inl d):=by
  intro m
  induction m with
  | zero =>
   intro k hk hg;obtain rfl:k=n:=by omega
   rw[q8 (hn hg)];rfl
  | succ m ih =>
   intro k hk hg;have hs:=h k (by omega) hg;rw[List.range'_succ,List.findSome?_cons];cases hgk:g k with
   | some r=>rw[hgk] at hs;rw[zdW hs]
   | none =>
    rw[hgk] at hs;rw[zfa hs];exact ih (k+1) (by omega) fun j hj=>by
     by_cases e:j=k
     ·rw[e];exact hgk
     ·exact hg j (by omega)
 rw[key n 0 (by omega) (fun j hj=>by omega),List.range_eq_range']
def zio (u:List Int) (x:Node):List Int :=
 if 3<=x.op then (u.set x.left.toNat (wi (u.getD x.left.toNat 0+1))).set x.right.toNat (wi ((u.set x.left.toNat (wi (u.getD x.left.toNat 0+1))).getD x.right.toNat 0+1)) else u
def zby (l:List Node) (i:Nat):List Int:=(l.take i).foldl zio (List.replicate l.length 0)
theorem useN_len (u:List Int) (x:Node):(zio u x).length=u.length:=by unfold zio;split<;>simp
theorem yv (l:List Node) (i:Nat):(zby l i).length=l.length:=by
 unfold zby;generalize l.take i=r;have:∀ (r:List Node) (u:List Int),(r.foldl zio u).length=u.length:=by
  intro r
  induction r with
  | nil=>intro u;rfl
  | cons x r ih=>intro u;rw[List.foldl_cons,ih,useN_len]
 rw[this,List.length_replicate]
theorem zeH {l:List Node} {i:Nat} {x:Node} (h:l[i]? = some x):zby l (i+1)=zio (zby l i) x:=zaD _ _ _ h
def jc (l:List Node) (i:Nat):Option Int:=match l[i]? with | some x=>if qz i x=0 then none else some (qz i x) | none=>none
def jw (l:List Node) (i:Nat):Option Int:=if (zby l l.length).getD i 0=1 then none else some 3
def zcQ (l:List Node):Int :=
 if l.length=0 then 5 else if 30 < l.length then 4 else
  match (List.range l.length).findSome? (jc l) with
  | some e=>e
  | none=>match (List.range (l.length - 1)).findSome? (jw l) with
   | some e=>e
   | none=>0
theorem P251_eq {l:List Node} {i:Nat} {x:Node} (h:l[i]? = some x) (hi:i<=9223372036854775807):P251 l (i:Int)=some (zp (qz i x)):=by simp only[P251,zi,h,Int.toNat_natCast];rw[zP (by omega)]
theorem P252_eq (n:Int):P252 n=some (decide (3<=n) && decide (n<=6)):=by by_cases h1:3<=n<;>by_cases h2:n<=6<;>simp[P252,S252,h1,h2]
theorem zg6 {i:Nat} {x:Node} (h:qz i x=0):1<=x.op∧x.op<=6:=by
 unfold qz at h;split at h
 ·cases h
 ·omega
theorem nodeE_two {i:Nat} {x:Node} (h:qz i x=0) (h3:3<=x.op):0<=x.left∧x.left < i∧0<=x.right∧x.right < i∧x.n=0∧x.name=⟨#[]⟩:=by
 have:=zg6 h;unfold qz at h;rw[if_neg (by omega),if_neg (by omega),if_neg (by omega)] at h;split at h
 ·cases h
 ·split at h
  ·rename_i h1 h2;exact ⟨by omega,by omega,by omega,by omega,h2.1,h2.2⟩
  ·cases h
theorem ze2 {l:List Node} {i:Nat} {x:Node} (h:l[i]? = some x) (hn:jc l i=none):qz i x=0:=by
 unfold jc at hn;rw[h] at hn;simp only at hn;split at hn
 ·assumption
 ·cases hn
theorem jQ {u:List Int} {k:Nat} (h:k < u.length):u[k]? = some (u.getD k 0):=by rw[List.getD_eq_getElem?_getD,List.getElem?_eq_getElem h];rfl
theorem zgR {α:Type} {u:List Int} {x:Node} {n:Nat} (hu:u.length=n) (h0:0<=x.left) (h1:x.left < n) (h2:0<=x.right) (h3:x.right < n) (h4:3<=x.op) (k:List Int->Option α) :
  (ck (decide (0<=Node.left x∧Node.left x < ((List.length u:Nat):Int))) <|
   bno (u[(Int.toNat (Node.left x))]?) fun y5 =>
   ck (decide (0<=Node.left x∧Node.left x < ((List.length u:Nat):Int))) <|
   bno (u[(Int.toNat (Node.left x))]?) fun y6 =>
   ck (decide (0<=Node.right x∧Node.right x < ((List.length (List.set u (Int.toNat (Node.left x)) (wi (y5+(1:Int)))):Nat):Int))) <|
   bno ((List.set u (Int.toNat (Node.left x)) (wi (y5+(1:Int))))[(Int.toNat (Node.right x))]?) fun y7 =>
   ck (decide (0<=Node.right x∧Node.right x < ((List.length (List.set u (Int.toNat (Node.left x)) (wi (y5+(1:Int)))):Nat):Int))) <|
   bno ((List.set u (Int.toNat (Node.left x)) (wi (y5+(1:Int))))[(Int.toNat (Node.right x))]?) fun y8 =>
   k (List.set (List.set u (Int.toNat (Node.left x)) (wi (y5+(1:Int)))) (Int.toNat (Node.right x)) (wi (y7+(1:Int)))))=k (zio u x):=by
 have e1:u[x.left.toNat]? = some (u.getD x.left.toNat 0):=jQ (by omega);have c1:0<=x.left∧x.left < ((u.length:Nat):Int):=⟨h0,by omega⟩;rw[zP c1,e1];simp only[zB];rw[zP c1];have e2:(u.set x.left.toNat (wi (u.getD x.left.toNat 0+1)))[x.right.toNat]? = some ((u.set x.left.toNat (wi (u.getD x.left.toNat 0+1))).getD x.right.toNat 0):=jQ (by rw[List.length_set];omega);have c2:0<=x.right∧x.right < (((u.set x.left.toNat (wi (u.getD x.left.toNat 0+1))).length:Nat):Int):=⟨h2,by rw[List.length_set];omega⟩;rw[zP c2,e2];simp only[zB];rw[zP c2];unfold zio;rw[if_pos h4]
theorem P241_eq (l:List Node):P241 l=some (zp (zcQ l)):=by
 simp only[P241,S241];unfold zcQ;by_cases h0:l.length=0
 ·simp[h0,zp]
 by_cases h1:30 < l.length
 ·have:(30:Int) < ((l.length:Nat):Int):=by omega
  simp[h0,h1,this,zp]
 rw[zA,if_neg (by omega),zA,if_neg (by omega),zP ⟨by omega,Int.le_refl _,by unfold zZ;omega⟩,if_neg h0,if_neg h1];have L1:=qX (B:=zeA P251 P252 l) (fun i=>((i:Int),zby l i)) l.length (fun i=>(jc l i).map zp) (d:=((l.length:Int),zby l l.length)) (fun i hi hg=>by
  have hx:=List.getElem?_eq_getElem hi;simp only[zeA];rw[zA,if_pos (by omega)];simp only[zi,hx,zB,P251_eq hx (by omega),qa,jc,P252_eq];by_cases hz:qz i l[i]=0
  ·have hop:=zg6 hz;have e4:wi ((i:Int)+1)=((i+1:Nat):Int):=by rw[j9 (by omega) (by omega)];omega
   rw[zeH hx];simp only[hz,decide_true,Bool.not_true,zj,if_true,map_none,e4];by_cases h3:3<=l[i].op
   ·obtain ⟨a1,a2,a3,a4,_⟩:=nodeE_two hz h3;have e6:(decide (3<=l[i].op) && decide (l[i].op<=6))=true:=by simp[h3,hop.2]
    simp only[e6,zt];have:=zgR (α:=Sum (List Int) (LR (Int×List Int) Err)) (u:=zby l i) (x:=l[i]) (n:=l.length) (yv l i) a1 (by omega) a3 (by omega) h3 (fun z=>zx (some z));rw[this];rfl
   ·have e6:(decide (3<=l[i].op) && decide (l[i].op<=6))=false:=by simp[h3]
    simp only[e6,zj,qj,yO,zio,if_neg h3];rfl
  ·simp only[hz,decide_false,Bool.not_false,zt,if_false,map_some]
   rfl) (fun _=>by
  simp only[zeA];rw[zA,if_neg (by omega)]
  rfl)
 have e0:((0:Int),List.replicate (Int.toNat ((l.length:Nat):Int)) (0:Int))=(((0:Nat):Int),zby l 0):=by simp[zby]
 rw[yF,e0,L1,qd];cases hs:(List.range l.length).findSome? (jc l) with
 | some e=>rfl
 | none =>
  simp only[map_none,yO];have L2:=qX (B:=zez l ((l.length:Int),zby l l.length)) (fun i=>(i:Int)) l.length (fun i=>if i < l.length - 1 then (jw l i).map zp else none) (d:=((l.length:Nat):Int)) (fun i hi hg=>by
   simp only[zez,yv];have e4:wi ((i:Int)+1)=((i+1:Nat):Int):=by rw[j9 (by omega) (by omega)];omega
   have e5:wi (((l.length:Nat):Int) - 1)=((l.length - 1:Nat):Int):=by rw[j9 (by omega) (by omega)];omega
   rw[zA,if_pos (by omega),zP ⟨by omega,by omega⟩,Int.toNat_natCast,jQ (by rw[yv];exact hi)];simp only[zB,e4,e5,jw];by_cases c:(zby l l.length).getD i 0=1
   ·simp only[c,not_true,decide_false,zj,qj,yO,if_true,map_none,ite_self];rfl
   ·by_cases d:i < l.length - 1
    ·have:(i:Int) < ((l.length - 1:Nat):Int):=by omega
     simp only[c,d,this,not_false_eq_true,decide_true,zt,qj,yO,if_false,if_true,map_some];rfl
    ·have:¬ (i:Int) < ((l.length - 1:Nat):Int):=by omega
     simp only[c,d,this,not_false_eq_true,decide_true,decide_false,zt,qj,yO,zj,if_false]
     rfl) (fun _=>by
   simp only[zez,yv];rw[zA,if_neg (by omega)]
   rfl)
  rw[yF,show (0:Int)=((0:Nat):Int) from rfl,L2];have e3:(List.range l.length).findSome? (fun i=>if i < l.length - 1 then (jw l i).map zp else none)=((List.range (l.length - 1)).findSome? (jw l)).map zp:=by
   obtain ⟨n,hn⟩:∃ n,l.length=n+1:=⟨l.length - 1,by omega⟩;rw[← qd,hn,List.range_succ,List.findSome?_append];simp only[Nat.add_sub_cancel];have:∀ (r:List Nat),(∀ i∈r,i < n)->r.findSome? (fun i=>if i < n then (jw l i).map zp else none)=r.findSome? fun i=>(jw l i).map zp:=by
    intro r
    induction r with
    | nil=>intro _;rfl
    | cons a r ih =>intro h;rw[List.findSome?_cons,List.findSome?_cons,if_pos (h a (by simp)),ih fun i hi=>h i (List.mem_cons_of_mem _ hi)]
   rw[this _ fun i hi=>mem_range.1 hi];simp
  rw[e3];cases (List.range (l.length - 1)).findSome? (jw l) with
  | some e=>rfl
  | none=>rfl
theorem P240_eq (l:List Node):P240 l=some (zcQ l):=by
 simp only[P240,S240];unfold zcQ;by_cases h0:l.length=0
 ·simp[h0]
 by_cases h1:30 < l.length
 ·have:(30:Int) < ((l.length:Nat):Int):=by omega
  simp[h0,h1,this]
 rw[zA,if_neg (by omega),zA,if_neg (by omega),zP ⟨by omega,Int.le_refl _,by unfold zZ;omega⟩,if_neg h0,if_neg h1];have L1:=qX (B:=zeC P97 l) (fun i=>((i:Int),zby l i)) l.length (fun i=>jc l i) (d:=((l.length:Int),zby l l.length)) (fun i hi hg=>by
  have hx:=List.getElem?_eq_getElem hi;have e4:wi ((i:Int)+1)=((i+1:Nat):Int):=by rw[j9 (by omega) (by omega)];omega
  simp only[zeC];rw[zA,if_pos (by omega)];simp only[zi,hx,zB,jc,P97_eq];rw[zeH hx];generalize l[i]=x at hx;by_cases c1:x.op < 1
  ·simp[qz,c1]
  by_cases c2:6 < x.op
  ·simp[qz,c1,c2]
  by_cases c3:x.op=1
  ·have hu:zio (zby l i) x=zby l i:=by unfold zio;rw[if_neg (by omega)]
   by_cases c4:x.n < 0
   ·simp[qz,c3,c4]
   by_cases c5:1000000 < x.n
   ·simp[qz,c3,c4,c5]
   by_cases d1:x.name=⟨#[]⟩<;>by_cases d2:x.left=0<;>by_cases d3:x.right=0<;>simp[qz,c3,c4,c5,d1,d2,d3,hu,e4]
  by_cases c4:x.op=2
  ·have hu:zio (zby l i) x=zby l i:=by unfold zio;rw[if_neg (by omega)]
   by_cases c5:zT x.name=true
   ·simp[qz,c4,c5]
   simp only[Bool.not_eq_true] at c5;by_cases d1:x.n=0<;>by_cases d2:x.left=0<;>by_cases d3:x.right=0<;>simp[qz,c4,c5,d1,d2,d3,hu,e4]
  by_cases c5:x.left < 0
  ·simp[qz,c1,c2,c3,c4,c5]
  by_cases c6:(i:Int)<=x.left
  ·simp[qz,c1,c2,c3,c4,c5,c6]
  by_cases c7:x.right < 0
  ·simp[qz,c1,c2,c3,c4,c5,c6,c7]
  by_cases c8:(i:Int)<=x.right
  ·simp[qz,c1,c2,c3,c4,c5,c6,c7,c8]
  by_cases d1:x.n=0
  ·by_cases d2:x.name=⟨#[]⟩
   ·have:=zgR (α:=Sum (List Int) (LR (Int×List Int) Int)) (u:=zby l i) (x:=x) (n:=l.length) (yv l i) (by omega) (by omega) (by omega) (by omega) (by omega) (fun z=>zx (some z));simp only[c1,c2,c3,c4,c5,c6,c7,c8,d1,d2,decide_true,decide_false,zt,zj,qj,yO,not_true,qz,or_self,and_self,if_true,if_false];simp only[qj] at this;rw[this];simp[e4]
   ·simp[qz,c1,c2,c3,c4,c5,c6,c7,c8,d1,d2]
  ·simp[qz,c1,c2,c3,c4,c5,c6,c7,c8,d1]) (fun _=>by
  simp only[zeC];rw[zA,if_neg (by omega)]
  rfl)
 have e0:((0:Int),List.replicate (Int.toNat ((l.length:Nat):Int)) (0:Int))=(((0:Nat):Int),zby l 0):=by simp[zby]
 rw[yF,e0,L1];cases hs:(List.range l.length).findSome? (jc l) with
 | some e=>rfl
 | none =>
  simp only[yO];have e5:wi (((l.length:Nat):Int) - 1)=((l.length - 1:Nat):Int):=by rw[j9 (by omega) (by omega)];omega
  have L2:=qX (B:=zeB l ((l.length:Int),zby l l.length)) (fun i=>(i:Int)) (l.length - 1) (jw l) (d:=((l.length - 1:Nat):Int)) (fun i hi hg=>by
   simp only[zeB,yv,e5];have e4:wi ((i:Int)+1)=((i+1:Nat):Int):=by rw[j9 (by omega) (by omega)];omega
   rw[zA,if_pos (by omega),zP ⟨by omega,by omega⟩,Int.toNat_natCast,jQ (by rw[yv];omega)];simp only[zB,e4,jw];by_cases c:(zby l l.length).getD i 0=1
   ·simp only[c,not_true,decide_false,zj,if_true];rfl
   ·simp only[c,not_false_eq_true,decide_true,zt,if_false]
    rfl) (fun _=>by
   simp only[zeB,e5];rw[zA,if_neg (by omega)]
   rfl)
  rw[yF,show (0:Int)=((0:Nat):Int) from rfl,L2];cases (List.range (l.length - 1)).findSome? (jw l) with
  | some e=>rfl
  | none=>rfl
structure FormOk (l:List Node):Prop where
 pos:0 < l.length
 most:l.length<=30
 node:∀ (i:Nat) (x:Node),l[i]? = some x->qz i x=0
 use:∀ i,i < l.length - 1->(zby l l.length).getD i 0=1
theorem form_ok {l:List Node}:zcQ l=0↔FormOk l:=by
 unfold zcQ;by_cases h0:l.length=0
 ·rw[if_pos h0];exact ⟨fun h=>(by cases h),fun h=>by have:=h.pos;omega⟩
 by_cases h1:30 < l.length
 ·rw[if_neg h0,if_pos h1];exact ⟨fun h=>(by cases h),fun h=>by have:=h.most;omega⟩
 rw[if_neg h0,if_neg h1];cases hs:(List.range l.length).findSome? (jc l) with
 | some e =>
  obtain ⟨i,hi,he⟩:=List.exists_of_findSome?_eq_some hs;have hi:=mem_range.1 hi;have hx:=List.getElem?_eq_getElem hi;unfold jc at he;rw[hx] at he;simp only at he;refine ⟨fun h => ?_,fun h => ?_⟩
  ·split at he
   ·cases he
   ·rename_i hn;cases he;exact absurd h hn
  ·rw[if_pos (h.node i _ hx)] at he;cases he
 | none =>
  have hnode:∀ (i:Nat) (x:Node),l[i]? = some x->qz i x=0:=fun i x hx =>
   ze2 hx (List.findSome?_eq_none_iff.1 hs i (mem_range.2 (List.getElem?_eq_some_iff.1 hx).1))
  simp only;cases hs2:(List.range (l.length - 1)).findSome? (jw l) with
  | some e =>
   obtain ⟨i,hi,he⟩:=List.exists_of_findSome?_eq_some hs2;unfold jw at he;refine ⟨fun h => ?_,fun h => ?_⟩
   ·split at he
    ·cases he
    ·cases he;cases h
   ·rw[if_pos (h.use i (mem_range.1 hi))] at he;cases he
  | none =>
   refine ⟨fun _=>⟨by omega,by omega,hnode,fun i hi => ?_⟩,fun _=>rfl⟩;have:=List.findSome?_eq_none_iff.1 hs2 i (mem_range.2 hi);unfold jw at this;split at this
   ·assumption
   ·cases this
end
section
def zeT (l:List Node):List ByteArray:=(l.filter fun x=>decide (x.op=2)).map Node.name
def refsOf (l:List Node):List ByteArray:=compS (sortS (zeT l))
theorem zdI (l:List Node):(zeT l).length<=l.length:=by unfold zeT;rw[List.length_map];exact List.length_filter_le _ _
theorem refL_app (a b:List Node):zeT (a++b)=zeT a++zeT b:=by unfold zeT;rw[List.filter_append,List.map_append]
end
section
section
variable {l:List Node}
end
end
section
end
section
def nmI (names:List ByteArray) (s:ByteArray):Int:=idxOf (fun y=>decide (y=s)) names
def cellN (names:List ByteArray) (cells out:List Cell) (x:Node):Cell :=
 if x.op=1 then zds x.n
 else if x.op=2 then cells.getD (nmI names x.name).toNat ⟨0,0⟩
 else if x.op=3 then zgy (out.getD x.left.toNat ⟨0,0⟩) (out.getD x.right.toNat ⟨0,0⟩) 1
 else if x.op=4 then zgy (out.getD x.left.toNat ⟨0,0⟩) (out.getD x.right.toNat ⟨0,0⟩) (-1)
 else if x.op=5 then zfx (out.getD x.left.toNat ⟨0,0⟩) (out.getD x.right.toNat ⟨0,0⟩)
 else cover (out.getD x.left.toNat ⟨0,0⟩) (out.getD x.right.toNat ⟨0,0⟩)
def evL (l:List Node) (names:List ByteArray) (cells:List Cell) (k:Nat):List Cell:=(l.take k).foldl (fun out x=>out++[cellN names cells out x]) []
section
variable {l:List Node} {names:List ByteArray} {cells:List Cell}
end
end
section
end
end Ab
