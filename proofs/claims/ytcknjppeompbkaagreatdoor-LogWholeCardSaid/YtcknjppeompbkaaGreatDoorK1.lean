import Derived.Test.YtcknjppeompbkaaGreatDoorK17
import Derived.WalkSpells
import Derived.Maps.AppendAt
import Derived.OwnWalk
import Derived.RangeFuncBox
import Derived.BigQuiet
import Derived.Deep.RegionHeld3
import Derived.BigRegion
import Derived.Deep.AppendLies
import Derived.Deep.DeepMust
import Derived.Test.YtcknjppeompbkaaGreatDoorK22
import Derived.Test.YtcknjppeompbkaaGreatDoorMQu
open List (getElem?_map length_map)
open Nat (le_refl le_trans)
open Option (map_some)
set_option linter.all false
set_option maxRecDepth 100000
set_option maxHeartbeats 4000000
noncomputable section
section
namespace Ab
open Go
def digs:List Dim->Nat->List Int×Nat
 | [],n=>([],n)
 | d :: r,n=>(((((digs r n).2 % d.members.length:Nat)):Int) :: (digs r n).1,(digs r n).2 / d.members.length)
def badM (x:Int×Dim):Bool:=decide (x.1 < 0) || decide ((x.2.members.length:Int)<=x.1)
def zaw (o:List Dim) (p:List Int):Int:=if ¬ p.length=o.length then 3 else if (p.zip o).any badM=true then 1 else 0
structure Fit (o:List Dim) (p:List Int):Prop where
 len:p.length=o.length
 mem:∀ (i:Nat) (m:Int) (d:Dim),p[i]? = some m->o[i]? = some d->0<=m∧m < d.members.length
def zcQ {o:List Dim} {p:List Int}:zaw o p=0↔Fit o p:=by
 unfold zaw;by_cases h1:p.length=o.length
 ·rw[if_neg (by simpa using h1)];by_cases h2:(p.zip o).any badM=true
  ·rw[if_pos h2];refine ⟨fun e=>(by cases e),fun h => ?_⟩;obtain ⟨x,hx,hb⟩:=List.any_eq_true.1 h2;obtain ⟨i,hi⟩:=List.mem_iff_getElem?.1 hx;obtain ⟨e1,e2⟩:=List.getElem?_zip_eq_some.1 hi;have:=h.mem i _ _ e1 e2;simp only[badM,Bool.or_eq_true,decide_eq_true_eq] at hb;omega
  ·rw[if_neg h2];refine ⟨fun _=>⟨h1,fun i m d hm hd => ?_⟩,fun _=>rfl⟩;have hx:(m,d)∈p.zip o:=List.mem_iff_getElem?.2 ⟨i,List.getElem?_zip_eq_some.2 ⟨hm,hd⟩⟩;have:¬ badM (m,d)=true:=fun e=>h2 (List.any_eq_true.2 ⟨_,hx,e⟩);simp only[badM,Bool.or_eq_true,decide_eq_true_eq] at this;omega
 ·rw[if_pos h1];exact ⟨fun e=>(by cases e),fun h=>absurd h.len h1⟩
def P58_eq (o:List Dim) (p:List Int) (h:p.length<=9223372036854775807):P58 o p=some (zp (zaw o p)):=by
 simp only[P58,S58];unfold zaw;by_cases h1:p.length=o.length
 ·have e:((p.length:Nat):Int)=((o.length:Nat):Int):=by omega
  rw[if_neg (by simpa using h1)];simp only[e,not_true,decide_false,zi];rw[zfa badM (p.zip o) (Err.no 1) Err.nil (fun i y hy => ?_) (by rw[List.length_zip,← h1,Nat.min_self];simp[S58_L1])]
  ·cases (p.zip o).any badM<;>simp[zp]
  ·obtain ⟨e1,e2⟩:=List.getElem?_zip_eq_some.1 hy;have hi:=(List.getElem?_eq_some_iff.1 e1).1;have e:((i:Nat):Int) < ((p.length:Nat):Int):=by omega
   simp only[S58_L1,e,decide_true,zw,zn,e1,e2,zq,badM];rw[ww (by omega) (by omega)];by_cases c1:y.1 < 0
   ·simp[c1]
   ·by_cases c2:(y.2.members.length:Int)<=y.1<;>simp[c1,c2]
 ·have e:¬ ((p.length:Nat):Int)=((o.length:Nat):Int):=by omega
  rw[if_pos h1];simp[e,zp]
def eg (o:List Dim) (p:List Int):Bool:=(p.zip o).all fun x=>gM x.2.members x.1.toNat
def all_any {α:Type} (f:α->Bool) (l:List α):l.all f = !l.any fun x => !f x:=by
 induction l with
 | nil=>rfl
 | cons a l ih=>simp only[List.all_cons,List.any_cons,ih];cases f a<;>rfl
def P59_eq {o:List Dim} {p:List Int} (hf:Fit o p) (h:p.length<=9223372036854775807) (hd:∀ d∈o,d.members.length<=1000):P59 o p=some (eg o p):=by
 simp only[P59,S59];rw[zfa (fun x:Int×Dim => !gM x.2.members x.1.toNat) (p.zip o) false true (fun i y hy => ?_) (by rw[List.length_zip,← hf.len,Nat.min_self];simp[S59_L1])]
 ·rw[eg,all_any];cases (p.zip o).any fun x => !gM x.2.members x.1.toNat<;>rfl
 ·obtain ⟨e1,e2⟩:=List.getElem?_zip_eq_some.1 hy;have hi:=(List.getElem?_eq_some_iff.1 e1).1;have e:((i:Nat):Int) < ((p.length:Nat):Int):=by omega
  have hm:=hf.mem i _ _ e1 e2;have hl:=hd _ (List.mem_of_getElem? e2);obtain ⟨k,hk⟩:=Int.eq_ofNat_of_zero_le hm.1;rw[hk] at hm e1;simp only[S59_L1,e,decide_true,zw,zn,e1,e2,zq,hk,P44_eq hl (by omega:k < y.2.members.length),Int.toNat_natCast];rw[ww (by omega) (by omega)];cases gM y.2.members k<;>rfl
end Ab
end
section
namespace Go.Proofs.TryzRead
open Go Go.RowKit Ab
def infoN:(Tryz.prog.info? 167).map (fun i=>(i.zero,i.size,i.bytes))=some (some (.agg #[.int .i64 0,.int .i64 0,.string ⟨#[]⟩,.int .i64 0,.int .i64 0]),5,48):=by kernel_rfl
section
variable {B:Option Nat} {v:Value} {W X:World}
def yh (B:Option Nat) (v:Value) (W:World):Stp B v W W v:=⟨rfl,rfl,rfl,le_refl _,fun _ _ _ _=>rfl,.inl rfl⟩
def zag {W:World} {o:Obj} {k:Nat} (h:k < W.heap.size):(W.alloc o).heap[k]? = W.heap[k]?:=by simp[World.alloc, -World.alloc_eq,Array.getElem?_push,Nat.ne_of_lt h]
def qE {W:World} {o O:Obj} {k:Nat} (h:W.heap[k]? = some O):(W.alloc o).heap[k]? = some O:=(zag (Array.getElem?_eq_some_iff.1 h).1).trans h
def zfs {v':Value} (h:Stp B v W X v') (o:Obj):Stp B v W (X.alloc o) v' :=
 ⟨h.os,h.tape,h.output,by have:=h.size;simp;omega,fun k hk h1 h2=>(zag (Nat.lt_of_lt_of_le hk h.size)).trans (h.block k hk h1 h2),h.own⟩
def zo {v':Value} (h:Stp B v W X v') (n:Nat):Stp B v W (X.drewN n) v':=⟨h.os,h.tape,h.output,h.size,h.block,h.own⟩
def qN {v':Value} (h:Stp B v W X v') {p:Addr} (hp:W.heap.size<=p.block∨some p.block=B) (u:Value):Stp B v W (X.setCell p u) v' :=
 ⟨h.os,h.tape,h.output,le_trans h.size (KeepsWalks.setCell X p u).size,fun k hk h1 h2=>by
  rw[← h.block k hk h1 h2];refine Below.heap_setCell _ _ _ k fun e => ?_;rcases hp with hp | hp
  ·omega
  ·exact h1 (by rw[← hp,e]),h.own⟩
def stp_grown {v':Value} {w1:World} (hg:X.grownBy w1 v.ownBlock) (bz:v'.ownBlock=v.ownBlock∨v'.ownBlock=some X.heap.size):Stp B v X w1 v' :=
 ⟨hg.os,hg.tape,hg.output,hg.size,fun k hk _ h2=>hg.block k hk h2,bz.imp id fun e=>⟨_,e,le_refl _⟩⟩
end
structure RD (rb n1:Nat) (s:ByteArray) (W:World) (at_:Nat) (v:Value) (l:List Ab.Node):Prop where
 cell:W.heap[rb]? = some (.cells #[.string s,.int .i64 at_,v] 182 (0,0))
 row:W.ownsRow n1 167 5 v l.length (zhR l)
 lt:rb < n1
 size:n1<=W.heap.size
section
variable {rb n1:Nat} {s:ByteArray} {W X:World} {a:Nat} {v v':Value} {l l':List Ab.Node}
def RD.c0 (h:RD rb n1 s W a v l):W.cell? ⟨rb,0,none⟩=some (.string s):=by simp[World.cell?,h.cell]
def RD.c1 (h:RD rb n1 s W a v l):W.cell? ⟨rb,1,none⟩=some (.int .i64 a):=by simp[World.cell?,h.cell]
def RD.c2 (h:RD rb n1 s W a v l):W.cell? ⟨rb,2,none⟩=some v:=by simp[World.cell?,h.cell]
def RD.fr (h:RD rb n1 s W a v l) (j:Nat):W.frozen? ⟨rb,j,none⟩=false:=by simp[World.frozen?,h.cell]
def RD.rbs (h:RD rb n1 s W a v l):rb < W.heap.size:=Nat.lt_of_lt_of_le h.lt h.size
def RD.ne (h:RD rb n1 s W a v l):some rb≠v.ownBlock:=fun e=>by have:=own_ge h.row rb e.symm;have:=h.lt;omega
def RD.drewN (h:RD rb n1 s W a v l) (n:Nat):RD rb n1 s (W.drewN n) a v l:=⟨h.cell,h.row.kept (row:=none) ⟨rfl,rfl,rfl,le_refl _,fun _ _ _=>rfl⟩ (Classical.em _),h.lt,h.size⟩
def RD.alloc (h:RD rb n1 s W a v l) (o:Obj):RD rb n1 s (W.alloc o) a v l:=⟨qE h.cell,h.row.alloc o,h.lt,by have:=h.size;simp;omega⟩
def RD.go (h:RD rb n1 s W a v l) (b:Nat):RD rb n1 s (W.setCell ⟨rb,1,none⟩ (.int .i64 b)) b v l:=by refine ⟨?_,h.row.kept (row:=some rb) ⟨rfl,rfl,rfl,(KeepsWalks.setCell W _ _).size,fun k _ hk=>Below.heap_setCell _ _ _ k fun e=>hk (by rw[e])⟩ (.inr fun e=>h.ne e.symm),h.lt,le_trans h.size (KeepsWalks.setCell W _ _).size⟩;simp only[World.setCell,Array.getElem?_modify,if_true,h.cell,map_some];rfl
def RD.put {w1:World} (h:RD rb n1 s X a v l) (hg:X.grownBy w1 v.ownBlock) (bz:v'.ownBlock=v.ownBlock∨v'.ownBlock=some X.heap.size) (hr:w1.ownsRow n1 167 5 v' l'.length (zhR l')):RD rb n1 s (w1.setCell ⟨rb,2,none⟩ v') a v' l':=by
 have h1:w1.heap[rb]? = some (.cells #[.string s,.int .i64 a,v] 182 (0,0)):=(hg.block rb h.rbs h.ne).trans h.cell;have ah:v'.ownBlock≠some rb:=fun e=>by
  rcases bz with e2 | e2
  ·exact h.ne (e.symm.trans e2)
  ·have:=Option.some.inj (e.symm.trans e2);have:=h.rbs;omega
 refine ⟨?_,hr.kept (row:=some rb) ⟨rfl,rfl,rfl,(KeepsWalks.setCell w1 _ _).size,fun k _ hk=>Below.heap_setCell _ _ _ k fun e=>hk (by rw[e])⟩ (.inr ah),h.lt,le_trans (le_trans h.size hg.size) (KeepsWalks.setCell w1 _ _).size⟩;simp only[World.setCell,Array.getElem?_modify,if_true,h1,map_some];rfl
end
def zl {rb n1:Nat} {s:ByteArray} {W:World} {a:Nat} {v:Value} {l:List Ab.Node} (h:RD rb n1 s W a v l) (hs:s.size<=1000) (ha:a<=s.size) :
  Calls Tryz.prog 123 #[.pointer (some ⟨rb,0,none⟩)] W fun e W'=>e=.returned (.int .u8 (pk s a))∧∃ q,W'=W.drewN q:=by
 have c0:=h.c0;have c1:=h.c1;by_cases aq:a < s.size
 ·have e1:pk s a=(s.data[a]'aq).toNat:=(by unfold pk;rw[Array.getElem?_eq_getElem aq]);have g0:(0:Int)<=(a:Int):=Int.natCast_nonneg _;have g1:(a:Int) < (s.size:Int):=by omega
  go_enter Tryz.func123,Tryz.ntmps123
  go_wp2
  go_quiet (fail)
  go_wp2
  go_quiet (fail)
  go_wp2
  go_ret;exact ⟨by rw[e1];rfl,_,World.drewN_drewN _ _ _⟩
 ·have e1:pk s a=0:=(by unfold pk;rw[Array.getElem?_eq_none (by have:s.data.size=s.size:=rfl;omega)]);have g1:(s.size:Int)<=(a:Int):=by omega
  rw[e1]
  go_enter Tryz.func123,Tryz.ntmps123
  go_wp2
  go_quiet (fail)
  go_wp2
  go_ret;exact ⟨rfl,_,rfl⟩
def qc (c:Nat) (W:World):Calls Tryz.prog 133 #[.int .u8 c] W fun e W'=>e=.returned (.bool (dgB c))∧W'=W:=by
 go_enter Tryz.func133,Tryz.ntmps133
 go_wp2
 all_goals (go_ret;refine ⟨?_,rfl⟩)
 ·have h1:(48:Int)<=(c:Int):=by assumption
  have e:decide ((c:Int)<=57)=dgB c:=by unfold dgB;rw[Bool.eq_iff_iff];simp only[decide_eq_true_eq,Bool.and_eq_true];omega
  exact congrArg (fun b=>Ending.returned (.bool b)) e
 ·have h1:(c:Int) < 48:=by assumption
  have e:false=dgB c:=by unfold dgB;rw[decide_eq_false (by omega)];rfl
  exact congrArg (fun b=>Ending.returned (.bool b)) e
def qG (c:Nat) (W:World):Calls Tryz.prog 135 #[.int .u8 c] W fun e W'=>e=.returned (.bool (ltB c))∧W'=W:=by
 go_enter Tryz.func135,Tryz.ntmps135
 go_wp2
 all_goals (go_ret;refine ⟨?_,rfl⟩)
 ·have h1:(97:Int)<=(c:Int):=by assumption
  have e:decide ((c:Int)<=122)=ltB c:=by unfold ltB;rw[Bool.eq_iff_iff];simp only[decide_eq_true_eq,Bool.and_eq_true];omega
  exact congrArg (fun b=>Ending.returned (.bool b)) e
 ·have h1:(c:Int) < 97:=by assumption
  have e:false=ltB c:=by unfold ltB;rw[decide_eq_false (by omega)];rfl
  exact congrArg (fun b=>Ending.returned (.bool b)) e
def ziM (W:World) (X Y:Obj):((W.alloc X).alloc Y).heap[W.heap.size+1]? = some Y:=by have h:=World.alloc_heap_new (W.alloc X) Y;simpa using h
def jv {rb n1:Nat} {s:ByteArray} {W:World} {a:Nat} {v:Value} {l:List Ab.Node} (h:RD rb n1 s W a v l) (x:Ab.Node) (hl:l.length < 1000) :
  Calls Tryz.prog 125 #[.pointer (some ⟨rb,0,none⟩),.agg (qK x).toArray] W fun e W'=>∃ v',e=.returned (.int .i64 l.length)∧RD rb n1 s W' a v' (l++[x])∧Stp (some rb) v W W' v':=by
 obtain ⟨i0,hi,da,cj,cU⟩:=info_parts infoN;have c2:=h.c2;have hrb:=h.rbs;have ah:=h.ne;have aG:=h.size;have f2:=h.fr 2;obtain ⟨xo,xn,xm,xl,xr⟩:=x;simp only[qK];have x0:∀ j u,(qK ⟨xo,xn,xm,xl,xr⟩)[j]? = some u->(W.alloc (.cells (qK ⟨xo,xn,xm,xl,xr⟩).toArray 167)).cell? ⟨W.heap.size,j,none⟩=some u:=fun j u hj=>(by have h:=World.alloc_heap_new W (.cells (qK ⟨xo,xn,xm,xl,xr⟩).toArray 167);simp only[World.cell?,h];simpa using hj);have hnx:some W.heap.size≠v.ownBlock:=fun e=>by have:=h.row.lt _ e.symm;omega
 have r0:=x0 0 _ rfl;have r1:=x0 1 _ rfl;have r2:=x0 2 _ rfl;have r3:=x0 3 _ rfl;have r4:=x0 4 _ rfl
 go_enter Tryz.func125,Tryz.ntmps125
 go_wp2_with fail
 go_region_law (((refine step_append_lies _ (by rfl) _ _ _ (by rfl) n1 167 i0 _ 5 48 Tryz.underlying154 hi da cj cU rfl (by omega) v l.length (zhR l) (by rfl) (((h.row.alloc _).alloc _).drew) ⟨W.heap.size+1,0,none⟩ 1 1 (qK ⟨xo,xn,xm,xl,xr⟩) (by rfl) (by rfl) (World.news_of_block (cs:=(qK ⟨xo,xn,xm,xl,xr⟩).toArray) (t:=167) (fr:=(0,0)) (ziM W _ _)) (zfN _) (by omega) (by unfold maxLen;omega) (by omega) (by simp<;>omega) (W.heap.size+2) (by simp) ?_;intro gg cap w1 iS aR bz aq;have g0:w1.heap[rb]? = some (.cells #[.string s,.int .i64 a,v] 182 (0,0)):=(aR.block rb (by simp<;>omega) ah).trans (show ((W.alloc _).alloc _).heap[rb]? = _ from qE (qE h.cell));have g1:w1.cell? ⟨rb,2,none⟩=some v:=(by simp[World.cell?,g0]);have g2:w1.frozen? ⟨rb,2,none⟩=false:=(by simp[World.frozen?,g0]))))
 all_goals go_wp2
 all_goals go_ret
 all_goals
  have bG:(Value.slice (some ⟨gg,0,none⟩) (l.length+1) cap).ownBlock=v.ownBlock∨(Value.slice (some ⟨gg,0,none⟩) (l.length+1) cap).ownBlock=some ((W.alloc (.cells (qK ⟨xo,xn,xm,xl,xr⟩).toArray 167)).alloc (.cells (qK ⟨xo,xn,xm,xl,xr⟩).toArray 167)).heap.size:=bz.imp (fun e=>e.symm) fun e=>by rw[e];simp[Value.ownBlock]
  refine ⟨_,rfl,RD.put (((h.alloc _).alloc _).drewN 1) aR bG (by rw[zgY,rowN_one,List.length_append];exact iS),qN ((zo (zfs (zfs (yh (some rb) v W) _) _) 1).trans (stp_grown aR bG)) (.inr rfl) _⟩
end Go.Proofs.TryzRead
end
section
namespace Ab
open Go
end Ab
end
section
namespace Ab
open Go
end Ab
end
section
namespace Ab
open Go Go.RowKit
def zaG {α:Type} (xs:List α):Option (List α):=ck (decide (xs.length<=wD)) (some xs)
def zbY {α:Type} {xs ys:List α} (h:zaG xs=some ys):xs.length<=wD∧ys=xs:=by obtain ⟨h1,h2⟩:=qg h;exact ⟨of_decide_eq_true h1,(Option.some.inj h2).symm⟩
def P410 (xs:List Dim):Option (List Dim):=zaG xs
def tf410:TFunc:=wQ true 3 [.string (⟨#[]⟩:ByteArray),.int .i64 0,.slice none 0 0]
def k410:CSpec:=⟨410,[.sl .dim],.own .dim,fun x=>P410 x,false,[]⟩
def r410 {S:Seat} (h:Ok1 S 410 tf410):Rt S k410:=fun (x:List Dim) (y:List Dim) hy=>by
 obtain ⟨h1,rfl⟩:=zbY (show zaG x=some y from hy);exact zgl (z:=3) h (by rw[length_map];exact h1)
def P411 (xs:List Member):Option (List Member):=zaG xs
def tf411:TFunc:=fX false 4 [.string (⟨#[]⟩:ByteArray),.int .i64 0,.int .i64 0,.string (⟨#[]⟩:ByteArray)]
def k411:CSpec:=⟨411,[.sl .member],.sl .member,fun x=>P411 x,false,[]⟩
def r411 {S:Seat} (h:Ok1 S 411 tf411):Rt S k411:=fun (x:List Member) (y:List Member) hy=>by
 obtain ⟨h1,rfl⟩:=zbY (show zaG x=some y from hy);exact zjd (z:=4) h (by rw[length_map];exact h1)
end Ab
end
section
namespace Ab
open Go Go.RowKit
def zbZ (N:Nat) (W:World) (v:Value) (l:List Int):Prop:=(l=[]∧(v=.slice none 0 0∨∃ a c,v=.slice (some a) 0 c))∨∃ b o cap,v=.slice (some ⟨b,o,none⟩) l.length cap∧b < N∧∀ j,j < l.length->W.cell? ⟨b,o+j,none⟩=some (.int .i64 (l.getD j 0))
def RowsAt (N:Nat) (W:World) (v:Value) (n:List (List Int)):Prop:=∃ b o cap,v=.slice (some ⟨b,o,none⟩) n.length cap∧b < N∧∀ k r,n[k]? = some r->∃ u,W.cell? ⟨b,o+k,none⟩=some u∧zbZ N W u r
def zbZ.keep {N:Nat} {W W':World} {v:Value} {l:List Int} (h:zbZ N W v l) (hk:∀ b,b < N->W'.heap[b]? = W.heap[b]?):zbZ N W' v l:=by
 rcases h with h | ⟨b,o,cap,h1,h2,h3⟩
 ·exact .inl h
 ·exact .inr ⟨b,o,cap,h1,h2,fun j hj=>(World.cell?_of_block (a:=⟨b,o+j,none⟩) (hk b h2)).trans (h3 j hj)⟩
def zbZ.src {P:Program} {t e:TypeId} (ht:P.underlying t=some (.slice e)) {N:Nat} {W:World} {v:Value} {l:List Int} (h:zbZ N W v l):Go.Src P 1 t v l.length (l.map (Value.int .i64)) W:=by
 have aY:∀ u∈l.map (Value.int .i64),u.oneCell'=true:=fun u hu=>by obtain ⟨x,_,rfl⟩:=List.mem_map.1 hu;rfl
 rcases h with ⟨rfl,rfl | ⟨a,c,rfl⟩⟩ | ⟨b,o,cap,rfl,h2,h3⟩
 ·exact Go.Src.ofNil W ht 0
 ·exact Go.Src.ofSlice W ht a 0 c [] (by simp) (by simp) (by simp)
 ·refine Go.Src.ofSlice W ht ⟨b,o,none⟩ l.length cap _ (by simp) (fun j u hu => ?_) aY;rw[Addr.add_lit];rw[getElem?_map,Option.map_eq_some_iff] at hu;obtain ⟨x,hx,rfl⟩:=hu;have hj:=(List.getElem?_eq_some_iff.1 hx).1;rw[h3 j hj,List.getD_eq_getElem?_getD,hx];rfl
structure SmallR (n:List (List Int)) (i:Int):Prop where
 rng:Rng n
 lo:0<=i
 hi:i.toNat < n.length
 len:n.length<=1000
 rows:∀ k,(n.getD k []).length<=1000
def ReachAt (S:Seat):Prop:=∀ g,qh g S.fns=some 303->∀ (n:List (List Int)) (i:Nat) (v:Value) (W:World) (b:Bool),RowsAt W.heap.size W v n->SmallR n i->zeo n i=some b ->
 Calls S.P g #[v,.int .i64 i] W fun e W'=>e=.returned (.bool b)∧KeepO (fun _=>False) W W'
open Classical in
def P303 (n:List (List Int)) (i:Int):Option Bool:=if SmallR n i then zeo n i.toNat else none
def k303:CSpec:=⟨303,[.sl (.sl .int),.int],.bool,fun x=>P303 x.1 x.2,false,[]⟩
def ints_back {S:Seat} {A:Nat->Prop} {N:Nat} {w:World} {l:List Int} {v:Value} (hA:∀ b,A b->b < N) (h:VR0 S A w (.sl 1 (l.map fun x=>[aI x])) v):zbZ N w v l:=by
 rcases VR.sl_inv (σ:=fun _=>none) (.of0 h) with ⟨e,rfl⟩ | ⟨b,o,cap,u,rfl,h1,h2,h3,h4,h5,h6⟩ | ⟨e,a,cap,rfl⟩
 ·exact .inl ⟨by simpa using e,.inl rfl⟩
 ·refine .inr ⟨b,o,cap,by rw[length_map],hA b h1,fun j hj => ?_⟩;have hg:=List.getElem?_eq_getElem hj;have h7:=h6 j [aI l[j]] 0 (aI l[j]) (by rw[getElem?_map,hg];rfl) rfl;have h8:=h4 j (by rw[length_map];omega);rw[Nat.mul_one,Nat.add_zero] at h7;rw[h8,VR.v_inv (σ:=fun _=>none) (.of0 h7),List.getD_eq_getElem?_getD,hg];rfl
 ·exact .inl ⟨by simpa using e,.inr ⟨_,_,rfl⟩⟩
def rows_back {S:Seat} {A:Nat->Prop} {N:Nat} {w:World} {n:List (List Int)} {v:Value} (hA:∀ b,A b->b < N) (hn:n≠[]) (h:VR0 S A w (.sl 1 (n.map fun r=>[AV.sl 1 (r.map fun x=>[aI x])])) v):RowsAt N w v n:=by
 rcases VR.sl_inv (σ:=fun _=>none) (.of0 h) with ⟨e,rfl⟩ | ⟨b,o,cap,u,rfl,h1,h2,h3,h4,h5,h6⟩ | ⟨e,a,cap,rfl⟩
 ·exact absurd (by simpa using e) hn
 ·refine ⟨b,o,cap,by rw[length_map],hA b h1,fun k r hr => ?_⟩;have hk:=(List.getElem?_eq_some_iff.1 hr).1;have h7:=h6 k [AV.sl 1 (r.map fun x=>[aI x])] 0 (AV.sl 1 (r.map fun x=>[aI x])) (by rw[getElem?_map,hr];rfl) rfl;have h8:=h4 k (by rw[length_map];omega);rw[Nat.mul_one,Nat.add_zero] at h7;exact ⟨u k,h8,ints_back hA h7⟩
 ·exact absurd (by simpa using e) hn
def r303 {S:Seat} (h:ReachAt S):Rt S k303:=fun (x:List (List Int)×Int) (y:Bool) hy=>by
 obtain ⟨n,i⟩:=x;have hy:P303 n i=some y:=hy;intro g hg;show wo S g [.sl 1 (n.map fun r=>[AV.sl 1 (r.map fun x=>[aI x])]),aI i] (.v (.bool y)) [];unfold P303 at hy;split at hy
 ·rename_i hs;refine w4 (fun A w vs hl hA ha => ?_) (by simp[zm,aI]);obtain ⟨x0,x1,rfl⟩:∃ x0 x1,vs=#[x0,x1]:=by
   obtain ⟨r⟩:=vs
   match r,hl with
   | [x0,x1],_=>exact ⟨x0,x1,rfl⟩
  have h0:=ha 0 _ rfl;obtain rfl:x1=.int .i64 i:=VR.v_inv (σ:=fun _=>none) (.of0 (ha 1 _ rfl));have hn:n≠[]:=fun e=>by have:=hs.hi;subst e;simp at this
  have hr:=rows_back (N:=w.heap.size) hA.1 hn h0;have hi:i=((i.toNat:Nat):Int):=by have:=hs.lo;omega
  have:=h g hg n i.toNat x0 w y hr (by rw[← hi];exact hs) hy;rw[← hi] at this;refine this.mono ?_;rintro e W' ⟨rfl,hk⟩;exact ⟨_,rfl,hk,fun _=>none,by simp,by simp,rfl,.v _⟩
 ·cases hy
end Ab
end
