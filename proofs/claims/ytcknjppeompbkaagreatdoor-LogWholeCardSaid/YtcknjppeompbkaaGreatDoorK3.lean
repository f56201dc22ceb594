import Derived.Test.YtcknjppeompbkaaGreatDoorK21
import Derived.Test.YtcknjppeompbkaaGreatDoorMR4
set_option linter.all false
noncomputable section
namespace Ab
open Go
section
set_option maxRecDepth 100000
section
variable (F241:LN->(Option Err)) (F251:LN->Int->(Option Err)) (F252:Int->(Option Bool)) (F255:(List ByteArray)->(Option (List ByteArray))) (F256:(List ByteArray)->(Option (List ByteArray)))
def tc252:TCode:=.seq (rg [om 2 (cb false)]) (.seq (.regionJ ⟨[.slot 2 .bool],[3,4,5,6,7,8],[],[]⟩ [om 3 0,oq 4 (.bin .int .geq 3 (ci 3)),om 5 4,og 6 (.mov 0) 5 true [],og 7 (.bin .int .leq 6 (ci 6)) 5 true [],oq 8 (.pick 5 7 (cb false)),om 2 8] [] false) (.ret)) 
def tf252:TFunc:=⟨1,9,[.tmp 2],false,tc252,[]⟩
def S252 (a0:Int):Option Bool :=
 jn (σ:=Bool) (α:=Bool) (br (decide ((3:Int)<=a0))
 (zD (some (decide (a0<=(6:Int)))))
 (zD (some false))) fun x1 =>
 some x1
def P252:=S252
def k252:CSpec:=⟨252,[.int],.bool,fun x=>P252 x,false,[]⟩
def r252 {S:Seat} (h:Ok1 S 252 tf252):RtF S [] (Rt S k252):=okr h rfl fun x=>by kernel_rfl
def tc241:TCode:=.seq (rg [om 2 cz]) (.seq (.block 0 (.seq (rg [om 10 0,oq 11 (.len false 10),oq 12 (.bin .int .eql 11 (ci 0)),om 9 12]) (.cond 9 (.seq (rg [oq 13 (.ifc 1 (ci 5)),om 2 13]) (.ret)) (.seq (rg [om 15 0,oq 16 (.len false 15),oq 17 (.bin .int .gtr 16 (ci 30)),om 14 17]) (.cond 14 (.seq (rg [oq 18 (.ifc 1 (ci 4)),om 2 18]) (.ret)) (.skip)))))) (.seq (rg [om 19 0,oq 20 (.len false 19),oq 21 (.mksl 1 [.int .i64 0] 20 20),om 3 21]) (.seq (.seq (rg [om 22 0,oq 23 (.len false 22),om 24 (ci 0)]) (.loop ⟨[.slot 24 .int,.rowH 21 .int],[4,5,6,25,26,27,28,29,30,31,32,33,35,36,37,38,39,40,41,42,43,44,45,46,47,48,49,50,51,52],[5],[]⟩ 1 (.seq (rg [oq 25 (.bin .int .lss 24 23)]) (.seq (.cond 25 (.skip) (.exit 1)) (.seq (.block 2 (.seq (rg [om 26 24,oq 27 (.ia 5 22 24),oq 28 (.load (some 5) 27),oq 5 (.alloc [.int .i64 0,.int .i64 0,.string ⟨#[]⟩,.int .i64 0,.int .i64 0]),om 4 26,on (.store 5 5 28)]) (.seq (.seq (rg [om 29 0,om 30 4,oq 31 (.call false [] 251 [29,30]),om 6 31]) (.seq (rg [om 32 6,oq 33 (.eqn false true 32)]) (.cond 33 (.seq (rg [om 34 6,om 2 34]) (.ret)) (.skip)))) (.seq (rg [oq 35 (.fa 0 5),oq 36 (.load none 35),oq 37 (.call false [] 252 [36])]) (.condJ ⟨[.rowH 21 .int],[38,39,40,41,42,43,44,45,46,47,48,49,50,51],[],[]⟩ 37 (.seq (rg [om 38 3,oq 39 (.fa 3 5),oq 40 (.load none 39),oq 41 (.ia 1 38 40),oq 42 (.load none 41),oq 43 (.bin .int .add 42 (ci 1)),oq 44 (.ia 1 38 40),on (.store 1 44 43)]) (rg [om 45 3,oq 46 (.fa 4 5),oq 47 (.load none 46),oq 48 (.ia 1 45 47),oq 49 (.load none 48),oq 50 (.bin .int .add 49 (ci 1)),oq 51 (.ia 1 45 47),on (.store 1 51 50)])) (.skip)))))) (rg [oq 52 (.bin .int .add 24 (ci 1)),om 24 52])))))) (.seq (.seq (rg [om 53 3,oq 54 (.len false 53),om 55 (ci 0)]) (.loop ⟨[.slot 55 .int],[7,8,56,57,58,59,60,61,62,63,64,65,66,67,68,70],[],[]⟩ 3 (.seq (rg [oq 56 (.bin .int .lss 55 54)]) (.seq (.cond 56 (.skip) (.exit 3)) (.seq (.block 4 (.seq (rg [om 57 55,oq 58 (.ia 1 53 55),oq 59 (.load none 58),om 7 57,om 8 59]) (.seq (.regionJ ⟨[.slot 68 .bool],[60,61,62,63,64,65,66,67],[],[]⟩ [om 60 8,oq 61 (.bin .int .neq 60 (ci 1)),om 62 61,og 63 (.mov 7) 62 true [],og 64 (.mov 0) 62 true [],og 65 (.len false 64) 62 true [],og 66 (.bin .int .sub 65 (ci 1)) 62 true [],og 67 (.bin .int .lss 63 66) 62 true [],oq 68 (.pick 62 67 (cb false))] [] false) (.cond 68 (.seq (rg [oq 69 (.ifc 1 (ci 3)),om 2 69]) (.ret)) (.skip))))) (rg [oq 70 (.bin .int .add 55 (ci 1)),om 55 70])))))) (.seq (rg [om 2 cz]) (.ret)))))) 
def tf241:TFunc:=⟨1,71,[.tmp 2],false,tc241,[]⟩
def zfi (a0:LN) (x1:(Int×LI)):Option (LR (Int×LI) Err) :=
 br (decide (x1.1 < (a0.length:Int)))
 (bno (qb a0 x1.1) fun y2 =>
 bno (F251 a0 x1.1) fun y3 =>
 br (!(Err.isNil y3))
 (wj (some y3))
 (bno (F252 (Node.op y2)) fun y4 =>
 jn (σ:=(List Int)) (α:=(LR (Int×(List Int)) Err)) (br y4
 (ck (decide (0<=Node.left y2∧Node.left y2 < (x1.2.length:Int))) <|
 bno ((x1.2)[(Int.toNat (Node.left y2))]?) fun y5 =>
 ck (decide (0<=Node.left y2∧Node.left y2 < (x1.2.length:Int))) <|
 bno ((x1.2)[(Int.toNat (Node.left y2))]?) fun y6 =>
 ck (decide (0<=Node.right y2∧Node.right y2 < ((List.length (List.set x1.2 (Int.toNat (Node.left y2)) (wi (y5+(1:Int)))):Nat):Int))) <|
 bno ((List.set x1.2 (Int.toNat (Node.left y2)) (wi (y5+(1:Int))))[(Int.toNat (Node.right y2))]?) fun y7 =>
 ck (decide (0<=Node.right y2∧Node.right y2 < ((List.length (List.set x1.2 (Int.toNat (Node.left y2)) (wi (y5+(1:Int)))):Nat):Int))) <|
 bno ((List.set x1.2 (Int.toNat (Node.left y2)) (wi (y5+(1:Int))))[(Int.toNat (Node.right y2))]?) fun y8 =>
 zD (some (List.set (List.set x1.2 (Int.toNat (Node.left y2)) (wi (y5+(1:Int)))) (Int.toNat (Node.right y2)) (wi (y7+(1:Int))))))
 (zD (some x1.2))) fun x9 =>
 nxO (some (wi (x1.1+(1:Int)),x9))))
 (dnO (some (x1.1,x1.2)))
def zfh (a0:LN) (eZ:(Int×LI)) (fj:Int):Option (LR Int Err) :=
 br (decide (fj < (eZ.2.length:Int)))
 (ck (decide (0<=fj∧fj < (eZ.2.length:Int))) <|
 bno ((eZ.2)[(Int.toNat fj)]?) fun lE =>
 jn (σ:=Bool) (α:=(LR Int Err)) (br (decide (¬ lE=(1:Int)))
 (zD (some (decide (fj < (wi ((a0.length:Int) - (1:Int)))))))
 (zD (some false))) fun x13 =>
 br x13
 (wj (some (Err.no (3:Int))))
 (nxO (some (wi (fj+(1:Int))))))
 (dnO (some fj))
def S241 (a0:LN):Option Err :=
 br (decide ((a0.length:Int)=(0:Int)))
 (some (Err.no (5:Int)))
 (br (decide ((30:Int) < (a0.length:Int)))
 (some (Err.no (4:Int)))
 (ck (decide (0<=(a0.length:Int)∧(a0.length:Int)<=(a0.length:Int)∧(a0.length:Int)<=qB)) <|
 lp (zfi F251 F252 a0) ((0:Int),List.replicate (Int.toNat (a0.length:Int)) (0:Int)) fun eZ =>
 lp (zfh a0 eZ) (0:Int) fun oD =>
 some Err.nil))
def P241:=S241 P251 P252
def k241:CSpec:=⟨241,[(.sl .node)],.err,fun x=>P241 x,false,[]⟩
def r241 {S:Seat} (h:Ok1 S 241 tf241):RtF S [k251,k252] (Rt S k241):=okr h rfl fun x=>by kernel_rfl
end
end
section
def yD {σ α:Type} {B:σ->Option (LR σ α)} (st:Nat->σ) (n:Nat) (g:Nat->Option α) {d:σ} (h:∀ i,i < n->(∀ j,j < i->g j=none)->B (st i)=some (match g i with | some r=>.fin r | none=>.nx (st (i+1))))
  (hn:(∀ j,j < n->g j=none)->B (st n)=some (.dn d)):lpO B (st 0)=some (match (List.range n).findSome? g with | some r=>.inr r | none=>.inl d):=by
 have key:∀ (m k:Nat),k+m=n->(∀ j,j < k->g j=none)->lpO B (st k)=some (match (List.range' k m).findSome? g with | some r=>.inr r | none=>.inl d):=by
  intro m
  induction m with
  | zero =>
   intro k hk hg;obtain rfl:k=n:=by omega
   rw[jt (hn hg)];rfl
  | succ m ih =>
   intro k hk hg;have hs:=h k (by omega) hg;rw[List.range'_succ,Cw];cases mG:g k with
   | some r=>rw[mG] at hs;rw[wK hs]
   | none =>
    rw[mG] at hs;rw[zcJ hs];exact ih (k+1) (by omega) fun j hj=>by
     by_cases e:j=k
     ·rw[e];exact mG
     ·exact hg j (by omega)
 rw[key n 0 (by omega) (fun j hj=>by omega),List.range_eq_range']
def zjl (u:List Int) (x:Node):List Int :=
 if 3<=x.op then (u.set x.left.toNat (wi (u.getD x.left.toNat 0+1))).set x.right.toNat (wi ((u.set x.left.toNat (wi (u.getD x.left.toNat 0+1))).getD x.right.toNat 0+1)) else u
def zca (l:List Node) (i:Nat):List Int:=(l.take i).foldl zjl (List.replicate l.length 0)
def useN_len (u:List Int) (x:Node):(zjl u x).length=u.length:=by unfold zjl;split<;>simp
def yT (l:List Node) (i:Nat):(zca l i).length=l.length:=by
 unfold zca;generalize l.take i=r;have:∀ (r:List Node) (u:List Int),(r.foldl zjl u).length=u.length:=by
  intro r
  induction r with
  | nil=>intro u;rfl
  | cons x r ih=>intro u;rw[Br,ih,useN_len]
 rw[this,Cm]
def zfq {l:List Node} {i:Nat} {x:Node} (h:l[i]? = some x):zca l (i+1)=zjl (zca l i) x:=n9 _ _ _ h
def jx (l:List Node) (i:Nat):Option Int:=match l[i]? with | some x=>if qO i x=0 then none else some (qO i x) | none=>none
def jW (l:List Node) (i:Nat):Option Int:=if (zca l l.length).getD i 0=1 then none else some 3
def zdH (l:List Node):Int :=
 if l.length=0 then 5 else if 30 < l.length then 4 else
  match (List.range l.length).findSome? (jx l) with
  | some e=>e
  | none=>match (List.range (l.length - 1)).findSome? (jW l) with
   | some e=>e
   | none=>0
def P251_eq {l:List Node} {i:Nat} {x:Node} (h:l[i]? = some x) (hi:i<=9223372036854775807):P251 l (i:Int)=some (zp (qO i x)):=by simp only[P251,zn,h,Bw];rw[zL (by omega)]
def P252_eq (n:Int):P252 n=some (decide (3<=n) && decide (n<=6)):=by by_cases h1:3<=n<;>by_cases h2:n<=6<;>simp[P252,S252,h1,h2]
def n4 {i:Nat} {x:Node} (h:qO i x=0):1<=x.op∧x.op<=6:=by
 unfold qO at h;split at h
 ·cases h
 ·omega
def nodeE_two {i:Nat} {x:Node} (h:qO i x=0) (h3:3<=x.op):0<=x.left∧x.left < i∧0<=x.right∧x.right < i∧x.n=0∧x.name=⟨#[]⟩:=by
 have:=n4 h;unfold qO at h;rw[if_neg (by omega),if_neg (by omega),if_neg (by omega)] at h;split at h
 ·cases h
 ·split at h
  ·rename_i h1 h2;exact ⟨by omega,by omega,by omega,by omega,h2.1,h2.2⟩
  ·cases h
def zfO {l:List Node} {i:Nat} {x:Node} (h:l[i]? = some x) (hn:jx l i=none):qO i x=0:=by
 unfold jx at hn;rw[h] at hn;simp only at hn;split at hn
 ·assumption
 ·cases hn
def yp {u:List Int} {k:Nat} (h:k < u.length):u[k]? = some (u.getD k 0):=by rw[AF,Ac h];rfl
def zhN {α:Type} {u:List Int} {x:Node} {n:Nat} (hu:u.length=n) (h0:0<=x.left) (h1:x.left < n) (h2:0<=x.right) (h3:x.right < n) (h4:3<=x.op) (k:List Int->Option α) :
  (ck (decide (0<=Node.left x∧Node.left x < ((List.length u:Nat):Int))) <|
   bno (u[(Int.toNat (Node.left x))]?) fun y5 =>
   ck (decide (0<=Node.left x∧Node.left x < ((List.length u:Nat):Int))) <|
   bno (u[(Int.toNat (Node.left x))]?) fun y6 =>
   ck (decide (0<=Node.right x∧Node.right x < ((List.length (List.set u (Int.toNat (Node.left x)) (wi (y5+(1:Int)))):Nat):Int))) <|
   bno ((List.set u (Int.toNat (Node.left x)) (wi (y5+(1:Int))))[(Int.toNat (Node.right x))]?) fun y7 =>
   ck (decide (0<=Node.right x∧Node.right x < ((List.length (List.set u (Int.toNat (Node.left x)) (wi (y5+(1:Int)))):Nat):Int))) <|
   bno ((List.set u (Int.toNat (Node.left x)) (wi (y5+(1:Int))))[(Int.toNat (Node.right x))]?) fun y8 =>
   k (List.set (List.set u (Int.toNat (Node.left x)) (wi (y5+(1:Int)))) (Int.toNat (Node.right x)) (wi (y7+(1:Int)))))=k (zjl u x):=by
 have e1:u[x.left.toNat]? = some (u.getD x.left.toNat 0):=yp (by omega);have c1:0<=x.left∧x.left < ((u.length:Nat):Int):=⟨h0,by omega⟩;rw[zL c1,e1];simp only[zq];rw[zL c1];have e2:(u.set x.left.toNat (wi (u.getD x.left.toNat 0+1)))[x.right.toNat]? = some ((u.set x.left.toNat (wi (u.getD x.left.toNat 0+1))).getD x.right.toNat 0):=yp (by rw[List.length_set];omega);have c2:0<=x.right∧x.right < (((u.set x.left.toNat (wi (u.getD x.left.toNat 0+1))).length:Nat):Int):=⟨h2,by rw[List.length_set];omega⟩;rw[zL c2,e2];simp only[zq];rw[zL c2];unfold zjl;rw[if_pos h4]
def P241_eq (l:List Node):P241 l=some (zp (zdH l)):=by
 simp only[P241,S241];unfold zdH;by_cases h0:l.length=0
 ·simp[h0,zp]
 by_cases h1:30 < l.length
 ·have:(30:Int) < ((l.length:Nat):Int):=by omega
  simp[h0,h1,this,zp]
 rw[zO,if_neg (by omega),zO,if_neg (by omega),zL ⟨by omega,Int.le_refl _,by unfold qB;omega⟩,if_neg h0,if_neg h1];have L1:=yD (B:=zfi P251 P252 l) (fun i=>((i:Int),zca l i)) l.length (fun i=>(jx l i).map zp) (d:=((l.length:Int),zca l l.length)) (fun i hi hg=>by
  have hx:=Ac hi;simp only[zfi];rw[zO,if_pos (by omega)];simp only[zn,hx,zq,P251_eq hx (by omega),zT,jx,P252_eq];by_cases hz:qO i l[i]=0
  ·have cx:=n4 hz;have e4:wi ((i:Int)+1)=((i+1:Nat):Int):=by rw[ww (by omega) (by omega)];omega
   rw[zfq hx];simp only[hz,decide_true,Bf,zi,if_true,BE,e4];by_cases h3:3<=l[i].op
   ·obtain ⟨a1,a2,a3,a4,_⟩:=nodeE_two hz h3;have e6:(decide (3<=l[i].op) && decide (l[i].op<=6))=true:=by simp[h3,cx.2]
    simp only[e6,zw];have:=zhN (α:=Sum (List Int) (LR (Int×List Int) Err)) (u:=zca l i) (x:=l[i]) (n:=l.length) (yT l i) a1 (by omega) a3 (by omega) h3 (fun z=>zD (some z));rw[this];rfl
   ·have e6:(decide (3<=l[i].op) && decide (l[i].op<=6))=false:=by simp[h3]
    simp only[e6,zi,qp,yR,zjl,if_neg h3];rfl
  ·simp only[hz,decide_false,BV,zw,if_false,AE]
   rfl) (fun _=>by
  simp only[zfi];rw[zO,if_neg (by omega)]
  rfl)
 have e0:((0:Int),List.replicate (Int.toNat ((l.length:Nat):Int)) (0:Int))=(((0:Nat):Int),zca l 0):=by simp[zca]
 rw[wc,e0,L1,qt];cases hs:(List.range l.length).findSome? (jx l) with
 | some e=>rfl
 | none =>
  simp only[BE,yR];have L2:=yD (B:=zfh l ((l.length:Int),zca l l.length)) (fun i=>(i:Int)) l.length (fun i=>if i < l.length - 1 then (jW l i).map zp else none) (d:=((l.length:Nat):Int)) (fun i hi hg=>by
   simp only[zfh,yT];have e4:wi ((i:Int)+1)=((i+1:Nat):Int):=by rw[ww (by omega) (by omega)];omega
   have e5:wi (((l.length:Nat):Int) - 1)=((l.length - 1:Nat):Int):=by rw[ww (by omega) (by omega)];omega
   rw[zO,if_pos (by omega),zL ⟨by omega,by omega⟩,Bw,yp (by rw[yT];exact hi)];simp only[zq,e4,e5,jW];by_cases c:(zca l l.length).getD i 0=1
   ·simp only[c,not_true,decide_false,zi,qp,yR,if_true,BE,ite_self];rfl
   ·by_cases d:i < l.length - 1
    ·have:(i:Int) < ((l.length - 1:Nat):Int):=by omega
     simp only[c,d,this,not_false_eq_true,decide_true,zw,qp,yR,if_false,if_true,AE];rfl
    ·have:¬ (i:Int) < ((l.length - 1:Nat):Int):=by omega
     simp only[c,d,this,not_false_eq_true,decide_true,decide_false,zw,qp,yR,zi,if_false]
     rfl) (fun _=>by
   simp only[zfh,yT];rw[zO,if_neg (by omega)]
   rfl)
  rw[wc,show (0:Int)=((0:Nat):Int) from rfl,L2];have e3:(List.range l.length).findSome? (fun i=>if i < l.length - 1 then (jW l i).map zp else none)=((List.range (l.length - 1)).findSome? (jW l)).map zp:=by
   obtain ⟨n,hn⟩:∃ n,l.length=n+1:=⟨l.length - 1,by omega⟩;rw[← qt,hn,Ck,List.findSome?_append];simp only[CA];have:∀ (r:List Nat),(∀ i∈r,i < n)->r.findSome? (fun i=>if i < n then (jW l i).map zp else none)=r.findSome? fun i=>(jW l i).map zp:=by
    intro r
    induction r with
    | nil=>intro _;rfl
    | cons a r ih =>intro h;rw[Cw,Cw,if_pos (h a (by simp)),ih fun i hi=>h i (Ad _ hi)]
   rw[this _ fun i hi=>Bc.1 hi];simp
  rw[e3];cases (List.range (l.length - 1)).findSome? (jW l) with
  | some e=>rfl
  | none=>rfl
def P240_eq (l:List Node):P240 l=some (zdH l):=by
 simp only[P240,S240];unfold zdH;by_cases h0:l.length=0
 ·simp[h0]
 by_cases h1:30 < l.length
 ·have:(30:Int) < ((l.length:Nat):Int):=by omega
  simp[h0,h1,this]
 rw[zO,if_neg (by omega),zO,if_neg (by omega),zL ⟨by omega,Int.le_refl _,by unfold qB;omega⟩,if_neg h0,if_neg h1];have L1:=yD (B:=zfk P97 l) (fun i=>((i:Int),zca l i)) l.length (fun i=>jx l i) (d:=((l.length:Int),zca l l.length)) (fun i hi hg=>by
  have hx:=Ac hi;have e4:wi ((i:Int)+1)=((i+1:Nat):Int):=by rw[ww (by omega) (by omega)];omega
  simp only[zfk];rw[zO,if_pos (by omega)];simp only[zn,hx,zq,jx,P97_eq];rw[zfq hx];generalize l[i]=x at hx;by_cases c1:x.op < 1
  ·simp[qO,c1]
  by_cases c2:6 < x.op
  ·simp[qO,c1,c2]
  by_cases c3:x.op=1
  ·have hu:zjl (zca l i) x=zca l i:=by unfold zjl;rw[if_neg (by omega)]
   by_cases c4:x.n < 0
   ·simp[qO,c3,c4]
   by_cases c5:1000000 < x.n
   ·simp[qO,c3,c4,c5]
   by_cases d1:x.name=⟨#[]⟩<;>by_cases d2:x.left=0<;>by_cases d3:x.right=0<;>simp[qO,c3,c4,c5,d1,d2,d3,hu,e4]
  by_cases c4:x.op=2
  ·have hu:zjl (zca l i) x=zca l i:=by unfold zjl;rw[if_neg (by omega)]
   by_cases c5:qa x.name=true
   ·simp[qO,c4,c5]
   simp only[BZ] at c5;by_cases d1:x.n=0<;>by_cases d2:x.left=0<;>by_cases d3:x.right=0<;>simp[qO,c4,c5,d1,d2,d3,hu,e4]
  by_cases c5:x.left < 0
  ·simp[qO,c1,c2,c3,c4,c5]
  by_cases c6:(i:Int)<=x.left
  ·simp[qO,c1,c2,c3,c4,c5,c6]
  by_cases c7:x.right < 0
  ·simp[qO,c1,c2,c3,c4,c5,c6,c7]
  by_cases c8:(i:Int)<=x.right
  ·simp[qO,c1,c2,c3,c4,c5,c6,c7,c8]
  by_cases d1:x.n=0
  ·by_cases d2:x.name=⟨#[]⟩
   ·have:=zhN (α:=Sum (List Int) (LR (Int×List Int) Int)) (u:=zca l i) (x:=x) (n:=l.length) (yT l i) (by omega) (by omega) (by omega) (by omega) (by omega) (fun z=>zD (some z));simp only[c1,c2,c3,c4,c5,c6,c7,c8,d1,d2,decide_true,decide_false,zw,zi,qp,yR,not_true,qO,or_self,and_self,if_true,if_false];simp only[qp] at this;rw[this];simp[e4]
   ·simp[qO,c1,c2,c3,c4,c5,c6,c7,c8,d1,d2]
  ·simp[qO,c1,c2,c3,c4,c5,c6,c7,c8,d1]) (fun _=>by
  simp only[zfk];rw[zO,if_neg (by omega)]
  rfl)
 have e0:((0:Int),List.replicate (Int.toNat ((l.length:Nat):Int)) (0:Int))=(((0:Nat):Int),zca l 0):=by simp[zca]
 rw[wc,e0,L1];cases hs:(List.range l.length).findSome? (jx l) with
 | some e=>rfl
 | none =>
  simp only[yR];have e5:wi (((l.length:Nat):Int) - 1)=((l.length - 1:Nat):Int):=by rw[ww (by omega) (by omega)];omega
  have L2:=yD (B:=zfj l ((l.length:Int),zca l l.length)) (fun i=>(i:Int)) (l.length - 1) (jW l) (d:=((l.length - 1:Nat):Int)) (fun i hi hg=>by
   simp only[zfj,yT,e5];have e4:wi ((i:Int)+1)=((i+1:Nat):Int):=by rw[ww (by omega) (by omega)];omega
   rw[zO,if_pos (by omega),zL ⟨by omega,by omega⟩,Bw,yp (by rw[yT];omega)];simp only[zq,e4,jW];by_cases c:(zca l l.length).getD i 0=1
   ·simp only[c,not_true,decide_false,zi,if_true];rfl
   ·simp only[c,not_false_eq_true,decide_true,zw,if_false]
    rfl) (fun _=>by
   simp only[zfj,e5];rw[zO,if_neg (by omega)]
   rfl)
  rw[wc,show (0:Int)=((0:Nat):Int) from rfl,L2];cases (List.range (l.length - 1)).findSome? (jW l) with
  | some e=>rfl
  | none=>rfl
structure FormOk (l:List Node):Prop where
 pos:0 < l.length
 most:l.length<=30
 node:∀ (i:Nat) (x:Node),l[i]? = some x->qO i x=0
 use:∀ i,i < l.length - 1->(zca l l.length).getD i 0=1
def form_ok {l:List Node}:zdH l=0↔FormOk l:=by
 unfold zdH;by_cases h0:l.length=0
 ·rw[if_pos h0];exact ⟨fun h=>(by cases h),fun h=>by have:=h.pos;omega⟩
 by_cases h1:30 < l.length
 ·rw[if_neg h0,if_pos h1];exact ⟨fun h=>(by cases h),fun h=>by have:=h.most;omega⟩
 rw[if_neg h0,if_neg h1];cases hs:(List.range l.length).findSome? (jx l) with
 | some e =>
  obtain ⟨i,hi,he⟩:=AW hs;have hi:=Bc.1 hi;have hx:=Ac hi;unfold jx at he;rw[hx] at he;simp only at he;refine ⟨fun h => ?_,fun h => ?_⟩
  ·split at he
   ·cases he
   ·rename_i hn;cases he;exact absurd h hn
  ·rw[if_pos (h.node i _ hx)] at he;cases he
 | none =>
  have iU:∀ (i:Nat) (x:Node),l[i]? = some x->qO i x=0:=fun i x hx =>
   zfO hx (Bp.1 hs i (Bc.2 (Aa.1 hx).1))
  simp only;cases e8:(List.range (l.length - 1)).findSome? (jW l) with
  | some e =>
   obtain ⟨i,hi,he⟩:=AW e8;unfold jW at he;refine ⟨fun h => ?_,fun h => ?_⟩
   ·split at he
    ·cases he
    ·cases he;cases h
   ·rw[if_pos (h.use i (Bc.1 hi))] at he;cases he
  | none =>
   refine ⟨fun _=>⟨by omega,by omega,iU,fun i hi => ?_⟩,fun _=>rfl⟩;have:=Bp.1 e8 i (Bc.2 hi);unfold jW at this;split at this
   ·assumption
   ·cases this
end
end Ab
