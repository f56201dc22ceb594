import Derived.WalkSpells
import Derived.Maps.AppendAt
import Derived.OwnWalk
import Derived.RangeFuncBox
import Derived.BigQuiet
import Derived.Deep.RegionHeld3
import Derived.Deep.RegionLaw
import Derived.BigRegion
import Derived.Deep.AppendLies
import Derived.Deep.DeepMust
import Derived.Test.YtckaniphjiniiaaGreatDoorF6
import Derived.LoopTactic
import Derived.StillTailTactics
import Derived.Test.YtckaniphjiniiaaGreatDoorHF
import Derived.Deep.OwnRows
open List (getElem?_map length_cons)
open Nat (le_refl le_trans)
open Option (map_some)
open Array (getElem?_modify)
set_option linter.all false
set_option maxRecDepth 100000
set_option maxHeartbeats 8000000
section
namespace Go.Proofs.TryzRead
open Go Go.RowKit Ab
def infoN:(Tryz.prog.info? 131).map (fun i=>(i.zero,i.size,i.bytes))=some (some (.agg #[.int .i64 0,.int .i64 0,.string ⟨#[]⟩,.int .i64 0,.int .i64 0]),5,48):=by kernel_rfl
section
variable {B:Option Nat} {v:Value} {W X:World}
def yW (B:Option Nat) (v:Value) (W:World):Stp B v W W v:=⟨rfl,rfl,rfl,le_refl _,fun _ _ _ _=>rfl,.inl rfl⟩
def kG {W:World} {o:Obj} {k:Nat} (h:k<W.heap.size):(W.alloc o).heap[k]? = W.heap[k]?:=by simp[World.alloc, -World.alloc_eq,Array.getElem?_push,Nat.ne_of_lt h]
def qI {W:World} {o O:Obj} {k:Nat} (h:W.heap[k]? = some O):(W.alloc o).heap[k]? = some O:=(kG (Array.getElem?_eq_some_iff.1 h).1).trans h
def sG {v':Value} (h:Stp B v W X v') (o:Obj):Stp B v W (X.alloc o) v' :=
 ⟨h.os,h.tape,h.output,by have:=h.size;simp;omega,fun k hk h1 h2=>(kG (Nat.lt_of_lt_of_le hk h.size)).trans (h.block k hk h1 h2),h.own⟩
def zE {v':Value} (h:Stp B v W X v') (n:Nat):Stp B v W (X.drewN n) v':=⟨h.os,h.tape,h.output,h.size,h.block,h.own⟩
def qR {v':Value} (h:Stp B v W X v') {p:Addr} (hp:W.heap.size<=p.block∨some p.block=B) (u:Value):Stp B v W (X.setCell p u) v' :=
 ⟨h.os,h.tape,h.output,le_trans h.size (KeepsWalks.setCell X p u).size,fun k hk h1 h2=>by
  rw[←h.block k hk h1 h2];refine Below.heap_setCell _ _ _ k fun e => ?_;rcases hp with hp|hp
  ·omega
  ·exact h1 (by rw[←hp,e]),h.own⟩
def stp_grown {v':Value} {w1:World} (hg:X.grownBy w1 v.ownBlock) (ba:v'.ownBlock=v.ownBlock∨v'.ownBlock=some X.heap.size):Stp B v X w1 v' :=
 ⟨hg.os,hg.tape,hg.output,hg.size,fun k hk _ h2=>hg.block k hk h2,ba.imp id fun e=>⟨_,e,le_refl _⟩⟩
end
structure RD (rb n1:Nat) (s:ByteArray) (W:World) (at_:Nat) (v:Value) (l:List Ab.Node):Prop where
 cell:W.heap[rb]? = some (.cells #[.string s,.int .i64 at_,v] 127 (0,0))
 row:W.ownsRow n1 131 5 v l.length (eH l)
 lt:rb<n1
 size:n1<=W.heap.size
section
variable {rb n1:Nat} {s:ByteArray} {W X:World} {a:Nat} {v v':Value} {l l':List Ab.Node}
def RD.c0 (h:RD rb n1 s W a v l):W.cell? ⟨rb,0,none⟩=some (.string s):=by simp[World.cell?,h.cell]
def RD.c1 (h:RD rb n1 s W a v l):W.cell? ⟨rb,1,none⟩=some (.int .i64 a):=by simp[World.cell?,h.cell]
def RD.c2 (h:RD rb n1 s W a v l):W.cell? ⟨rb,2,none⟩=some v:=by simp[World.cell?,h.cell]
def RD.fr (h:RD rb n1 s W a v l) (j:Nat):W.frozen? ⟨rb,j,none⟩=false:=by simp[World.frozen?,h.cell]
def RD.rbs (h:RD rb n1 s W a v l):rb<W.heap.size:=Nat.lt_of_lt_of_le h.lt h.size
def RD.ne (h:RD rb n1 s W a v l):some rb≠v.ownBlock:=fun e=>by have:=own_ge h.row rb e.symm;have:=h.lt;omega
def RD.drewN (h:RD rb n1 s W a v l) (n:Nat):RD rb n1 s (W.drewN n) a v l:=⟨h.cell,h.row.kept (row:=none) ⟨rfl,rfl,rfl,le_refl _,fun _ _ _=>rfl⟩ (Classical.em _),h.lt,h.size⟩
def RD.alloc (h:RD rb n1 s W a v l) (o:Obj):RD rb n1 s (W.alloc o) a v l:=⟨qI h.cell,h.row.alloc o,h.lt,by have:=h.size;simp;omega⟩
def RD.go (h:RD rb n1 s W a v l) (b:Nat):RD rb n1 s (W.setCell ⟨rb,1,none⟩ (.int .i64 b)) b v l:=by refine⟨?_,h.row.kept (row:=some rb) ⟨rfl,rfl,rfl,(KeepsWalks.setCell W _ _).size,fun k _ hk=>Below.heap_setCell _ _ _ k fun e=>hk (by rw[e])⟩ (.inr fun e=>h.ne e.symm),h.lt,le_trans h.size (KeepsWalks.setCell W _ _).size⟩;simp only[World.setCell,getElem?_modify,if_true,h.cell,map_some];rfl
def RD.put {w1:World} (h:RD rb n1 s X a v l) (hg:X.grownBy w1 v.ownBlock) (ba:v'.ownBlock=v.ownBlock∨v'.ownBlock=some X.heap.size) (hr:w1.ownsRow n1 131 5 v' l'.length (eH l')):RD rb n1 s (w1.setCell ⟨rb,2,none⟩ v') a v' l':=by
 have h1:w1.heap[rb]? = some (.cells #[.string s,.int .i64 a,v] 127 (0,0)):=(hg.block rb h.rbs h.ne).trans h.cell;have ah:v'.ownBlock≠some rb:=fun e=>by
  rcases ba with e2|e2
  ·exact h.ne (e.symm.trans e2)
  ·have:=Option.some.inj (e.symm.trans e2);have:=h.rbs;omega
 refine⟨?_,hr.kept (row:=some rb) ⟨rfl,rfl,rfl,(KeepsWalks.setCell w1 _ _).size,fun k _ hk=>Below.heap_setCell _ _ _ k fun e=>hk (by rw[e])⟩ (.inr ah),h.lt,le_trans (le_trans h.size hg.size) (KeepsWalks.setCell w1 _ _).size⟩;simp only[World.setCell,getElem?_modify,if_true,h1,map_some];rfl
end
def zw {rb n1:Nat} {s:ByteArray} {W:World} {a:Nat} {v:Value} {l:List Ab.Node} (h:RD rb n1 s W a v l) (hs:s.size<=1000) (ha:a<=s.size) :
  Calls Tryz.prog 96 #[.pointer (some ⟨rb,0,none⟩)] W fun e W'=>e=.returned (.int .u8 (pk s a))∧∃q,W'=W.drewN q:=by
 have c0:=h.c0;have c1:=h.c1;by_cases aj:a<s.size
 ·have e1:pk s a=(s.data[a]'aj).toNat:=(by unfold pk;rw[Array.getElem?_eq_getElem aj]);have g0:(0:Int)<=(a:Int):=Int.natCast_nonneg _;have g1:(a:Int)<(s.size:Int):=by omega
  go_enter Tryz.func96,Tryz.ntmps96
  go_wp2
  go_quiet (fail)
  go_wp2
  go_quiet (fail)
  go_wp2
  go_ret;exact⟨by rw[e1];rfl,_,World.drewN_drewN _ _ _⟩
 ·have e1:pk s a=0:=(by unfold pk;rw[Array.getElem?_eq_none (by have:s.data.size=s.size:=rfl;omega)]);have g1:(s.size:Int)<=(a:Int):=by omega
  rw[e1]
  go_enter Tryz.func96,Tryz.ntmps96
  go_wp2
  go_quiet (fail)
  go_wp2
  go_ret;exact⟨rfl,_,rfl⟩
def qj (c:Nat) (W:World):Calls Tryz.prog 106 #[.int .u8 c] W fun e W'=>e=.returned (.bool (dgB c))∧W'=W:=by
 go_enter Tryz.func106,Tryz.ntmps106
 go_wp2
 all_goals (go_ret;refine⟨?_,rfl⟩)
 ·have h1:(48:Int)<=(c:Int):=by assumption
  have e:decide ((c:Int)<=57)=dgB c:=by unfold dgB;rw[Bool.eq_iff_iff];simp only[decide_eq_true_eq,Bool.and_eq_true];omega
  exact congrArg (fun b=>Ending.returned (.bool b)) e
 ·have h1:(c:Int)<48:=by assumption
  have e:false=dgB c:=by unfold dgB;rw[decide_eq_false (by omega)];rfl
  exact congrArg (fun b=>Ending.returned (.bool b)) e
def qK (c:Nat) (W:World):Calls Tryz.prog 108 #[.int .u8 c] W fun e W'=>e=.returned (.bool (ltB c))∧W'=W:=by
 go_enter Tryz.func108,Tryz.ntmps108
 go_wp2
 all_goals (go_ret;refine⟨?_,rfl⟩)
 ·have h1:(97:Int)<=(c:Int):=by assumption
  have e:decide ((c:Int)<=122)=ltB c:=by unfold ltB;rw[Bool.eq_iff_iff];simp only[decide_eq_true_eq,Bool.and_eq_true];omega
  exact congrArg (fun b=>Ending.returned (.bool b)) e
 ·have h1:(c:Int)<97:=by assumption
  have e:false=ltB c:=by unfold ltB;rw[decide_eq_false (by omega)];rfl
  exact congrArg (fun b=>Ending.returned (.bool b)) e
def zl9 (W:World) (X Y:Obj):((W.alloc X).alloc Y).heap[W.heap.size+1]? = some Y:=by have h:=World.alloc_heap_new (W.alloc X) Y;simpa using h
def jU {rb n1:Nat} {s:ByteArray} {W:World} {a:Nat} {v:Value} {l:List Ab.Node} (h:RD rb n1 s W a v l) (x:Ab.Node) (hl:l.length<1000) :
  Calls Tryz.prog 98 #[.pointer (some ⟨rb,0,none⟩),.agg (qO x).toArray] W fun e W'=>∃v',e=.returned (.int .i64 l.length)∧RD rb n1 s W' a v' (l++[x])∧Stp (some rb) v W W' v':=by
 obtain⟨i0,hi,dW,cH,dM⟩:=info_parts infoN;have c2:=h.c2;have hrb:=h.rbs;have ah:=h.ne;have aF:=h.size;have f2:=h.fr 2;obtain⟨xo,xn,xm,xl,xr⟩:=x;simp only[qO];have x0:∀j u,(qO ⟨xo,xn,xm,xl,xr⟩)[j]? = some u->(W.alloc (.cells (qO ⟨xo,xn,xm,xl,xr⟩).toArray 131)).cell? ⟨W.heap.size,j,none⟩=some u:=fun j u hj=>(by have h:=World.alloc_heap_new W (.cells (qO ⟨xo,xn,xm,xl,xr⟩).toArray 131);simp only[World.cell?,h];simpa using hj);have iQ:some W.heap.size≠v.ownBlock:=fun e=>by have:=h.row.lt _ e.symm;omega
 have r0:=x0 0 _ rfl;have r1:=x0 1 _ rfl;have r2:=x0 2 _ rfl;have r3:=x0 3 _ rfl;have r4:=x0 4 _ rfl
 go_enter Tryz.func98,Tryz.ntmps98
 go_wp2_with fail
 go_region_law (((refine step_append_lies _ (by rfl) _ _ _ (by rfl) n1 131 i0 _ 5 48 Tryz.underlying97 hi dW cH dM rfl (by omega) v l.length (eH l) (by rfl) (((h.row.alloc _).alloc _).drew) ⟨W.heap.size+1,0,none⟩ 1 1 (qO ⟨xo,xn,xm,xl,xr⟩) (by rfl) (by rfl) (World.news_of_block (cs:=(qO ⟨xo,xn,xm,xl,xr⟩).toArray) (t:=131) (fr:=(0,0)) (zl9 W _ _)) (zit _) (by omega) (by unfold maxLen;omega) (by omega) (by simp<;>omega) (W.heap.size+2) (by simp) ?_;intro gg cap w1 l9 aY ba aj;have g0:w1.heap[rb]? = some (.cells #[.string s,.int .i64 a,v] 127 (0,0)):=(aY.block rb (by simp<;>omega) ah).trans (show ((W.alloc _).alloc _).heap[rb]? = _ from qI (qI h.cell));have g1:w1.cell? ⟨rb,2,none⟩=some v:=(by simp[World.cell?,g0]);have g2:w1.frozen? ⟨rb,2,none⟩=false:=(by simp[World.frozen?,g0]))))
 all_goals go_wp2
 all_goals go_ret
 all_goals
  have bS:(Value.slice (some ⟨gg,0,none⟩) (l.length+1) cap).ownBlock=v.ownBlock∨(Value.slice (some ⟨gg,0,none⟩) (l.length+1) cap).ownBlock=some ((W.alloc (.cells (qO ⟨xo,xn,xm,xl,xr⟩).toArray 131)).alloc (.cells (qO ⟨xo,xn,xm,xl,xr⟩).toArray 131)).heap.size:=ba.imp (fun e=>e.symm) fun e=>by rw[e];simp[Value.ownBlock]
  refine⟨_,rfl,RD.put (((h.alloc _).alloc _).drewN 1) aY bS (by rw[zjQ,rowN_one,List.length_append];exact l9),qR ((zE (sG (sG (yW (some rb) v W) _) _) 1).trans (stp_grown aY bS)) (.inr rfl) _⟩
end Go.Proofs.TryzRead
end
section
namespace Go.Proofs.TryzRead
open Go Go.RowKit Ab
def atOf (w:World) (rb:Nat):Nat:=match w.cell? ⟨rb,1,none⟩ with
 | some (.int _ n)=>n.toNat
 | _=>0
def js {rb n1:Nat} {s:ByteArray} {W:World} {a:Nat} {v:Value} {l:List Ab.Node} (h:RD rb n1 s W a v l):atOf W rb=a:=by unfold atOf;rw[h.c1];rfl
def RD.keepO {rb n1:Nat} {s:ByteArray} {W X:World} {a:Nat} {v:Value} {l:List Ab.Node} (h:RD rb n1 s W a v l) (k:KeepO (fun _=>False) W X):RD rb n1 s X a v l :=
 ⟨(k.block rb h.rbs (fun e=>e)).trans h.cell,h.row.kept (row:=none) ⟨k.os,k.tape,k.output,k.size,fun i hi _=>k.block i hi (fun e=>e)⟩ (Classical.em _),h.lt,le_trans h.size k.size⟩
def oi {B:Option Nat} {v0 v:Value} {W X Y:World} (h:Stp B v0 W X v) (k:KeepO (fun _=>False) X Y):Stp B v0 W Y v :=
 ⟨k.os.trans h.os,k.tape.trans h.tape,k.output.trans h.output,le_trans h.size k.size,fun i hi h1 h2=>(k.block i (Nat.lt_of_lt_of_le hi h.size) (fun e=>e)).trans (h.block i hi h1 h2),h.own⟩
def qV {X Y:World} (k:KeepO (fun _=>False) X Y) {b j:Nat} {u:Value} (h:X.cell? ⟨b,j,none⟩=some u):Y.cell? ⟨b,j,none⟩=some u :=
 (World.cell?_of_block (a:=⟨b,j,none⟩) (k.block b (World.block_lt_of_cell? X _ h) (fun e=>e))).trans h
def n7 (t:ByteArray) (ht:t.size<=1000) (v:Int) (h:Lib.atoiAll t.data.toList=.ok v) (w:World) :
  Calls Tryz.prog 112 #[.string t] w fun e w'=>e=.returned (.tuple #[.int .i64 v,.nilIface])∧KeepO (fun _=>False) w w' :=
 (Tryz.strconv_Atoi_ok t (by omega) v h w).mono fun e w' ⟨he,hw⟩=>⟨he,by
  rcases hw with rfl|⟨t,rfl⟩
  ·exact .refl _ _
  ·have hb:=Lib.bytesWorld_below w 5 t;exact⟨hb.os,hb.tape,hb.output,hb.size,fun k hk _=>hb.block k hk⟩⟩
def zis {rb n1:Nat} {s:ByteArray} {W:World} {a:Nat} {v:Value} {l:List Ab.Node} (h:RD rb n1 s W a v l) (hs:s.size<=1000) (hd:dgB (pk s a)=true) (hl:l.length<1000) :
  Calls Tryz.prog 107 #[.pointer (some ⟨rb,0,none⟩)] W fun e W'=>∃v',e=.returned (.int .i64 l.length)∧RD rb n1 s W' (zaU s a 8 a) v' (l++[⟨1,(zji (s.extract a (zaU s a 8 a))).1,⟨#[]⟩,0,0⟩])∧Stp (some rb) v W W' v':=by
 have c1:=h.c1;have ha:=dg_lt hd
 go_enter Tryz.func107,Tryz.ntmps107
 go_wp2_with fail
 go_loopw [10] (fun _ wr=>∃(i f:Nat),a<=i∧i+f=a+8∧i<=s.size∧RD rb n1 s wr i v l∧zaU s a f i=zaU s a 8 a∧Stp (some rb) v W wr v) (fun _ wr=>a+8-atOf wr rb)
 case atStart=>exact⟨a,8,le_refl _,rfl,by omega,h,rfl,yW _ _ _⟩
 case round =>
  obtain⟨i,f,hai,hif,ig,hR,hE,hS⟩:=hrel;have q0:=hR.c0;have q1:=hR.c1;have qf:=hR.fr 1;have b0:(0:Int)<=(a:Int):=Int.natCast_nonneg _;have b1:(a:Int)<=(i:Int):=by omega
  have b2:(i:Int)<=(s.size:Int):=by omega
  have b4:(a:Int)<(s.size:Int):=by omega
  have b3:(s.extract a i).size<=1000:=by rw[ByteArray.size_extract];omega
  by_cases fU:dgB (pk s i)=true
  ·by_cases h7:i-a<7
   ·have h7':(i:Int)-(a:Int)<7:=by omega
    obtain⟨f,rfl⟩:∃f',f=f'+1:=⟨f-1,by omega⟩;by_cases e:i=a
    ·subst e;have di:zaU s i (f+1) i=zaU s i f (i+1):=by simp only[zaU];rw[if_pos ⟨fU,h7,.inl trivial⟩]
     go_wp2_with (first
      | (go_at_call 96;go_must (refine (zw hR hs ig).mono ?_);rintro e X ⟨rfl,q,rfl⟩)
      | (go_at_call 106;go_must (refine (qj _ _).mono ?_);rintro e X ⟨rfl,rfl⟩))
     go_roundw
     case rel =>
      refine⟨i+1,f,by omega,by omega,dg_lt fU, ?_,di.symm.trans hE,qR (zE hS _) (.inr rfl) _⟩;rw[show ((i:Int)+1)=((i+1:Nat):Int) by omega];exact (hR.drewN _).go _
     case measure =>
      have m1:=js hR;have m2:=js ((hR.drewN q).go (i+1));rw[show ((i+1:Nat):Int)=(i:Int)+1 by omega] at m2;rw[m1,m2];omega
    ·have e':¬(i:Int)=(a:Int):=by omega
     obtain⟨p1,p2⟩:=pk_at ha;by_cases e2:pk s a=48
     ·have sg:((s[a]'ha).toNat:Int)=48:=by have p3:pk s a=(s[a]'ha).toNat:=p2;omega
      have di:zaU s a (f+1) i=i:=by simp only[zaU];rw[if_neg (fun h=>h.2.2.elim e (fun h=>h e2))]
      have ew:∃v,Lib.atoiAll (s.extract a i).data.toList=.ok v∧(zji (s.extract a (zaU s a 8 a))).1=v:=(by obtain⟨v,hv⟩:=zgV hd;refine⟨v, ?_,by unfold zji;rw[hv]⟩;rw[←hE,di] at hv;exact hv);obtain⟨z,cH,dM⟩:=ew
      go_wp2_with (first
       | (go_at_call 96;go_must (refine (zw hR hs ig).mono ?_);rintro e X ⟨rfl,q,rfl⟩)
       | (go_at_call 106;go_must (refine (qj _ _).mono ?_);rintro e X ⟨rfl,rfl⟩))
      go_region_held3 (fun w'=>w'.cell? ⟨rb,0,none⟩=some (.string s)∧w'.cell? ⟨rb,1,none⟩=some (.int .i64 i)) (first|go_keep|(go_split_ands;refine⟨?_, ?_⟩<;>exact qV kX (by assumption))) ((go_at_call 112;go_loud (refine (n7 _ b3 z cH _).mono ?_);rintro e X ⟨rfl,kX⟩))
      go_wp2_with (go_at_call 98;go_must (refine (jU (RD.keepO (hR.drewN _) kX) ⟨1,z,⟨#[]⟩,0,0⟩ hl).mono ?_);rintro e Y ⟨v',rfl,hY,sY⟩)
      go_ret;exact⟨v',rfl,by rw[dM,←hE,di];exact hY,(oi (zE hS _) kX).trans sY⟩
     ·have sg:¬((s[a]'ha).toNat:Int)=48:=by have p3:pk s a=(s[a]'ha).toNat:=p2;omega
      have g2:(((s[a]'ha).toNat:Int) != 48)=true:=by simpa using sg
      have di:zaU s a (f+1) i=zaU s a f (i+1):=by simp only[zaU];rw[if_pos ⟨fU,h7,.inr e2⟩]
      go_wp2_with (first
       | (go_at_call 96;go_must (refine (zw hR hs ig).mono ?_);rintro e X ⟨rfl,q,rfl⟩)
       | (go_at_call 106;go_must (refine (qj _ _).mono ?_);rintro e X ⟨rfl,rfl⟩))
      go_roundw
      case rel =>
       refine⟨i+1,f,by omega,by omega,dg_lt fU, ?_,di.symm.trans hE,qR (zE hS _) (.inr rfl) _⟩;rw[show ((i:Int)+1)=((i+1:Nat):Int) by omega];exact (hR.drewN _).go _
      case measure =>
       have m1:=js hR;have m2:=js ((hR.drewN q).go (i+1));rw[show ((i+1:Nat):Int)=(i:Int)+1 by omega] at m2;rw[m1,m2];omega
   ·have h7':¬(i:Int)-(a:Int)<7:=by omega
    have di:zaU s a f i=i:=by
     cases f with
     | zero=>rfl
     | succ f=>simp only[zaU];rw[if_neg (fun h=>h7 h.2.1)]
    have ew:∃v,Lib.atoiAll (s.extract a i).data.toList=.ok v∧(zji (s.extract a (zaU s a 8 a))).1=v:=(by obtain⟨v,hv⟩:=zgV hd;refine⟨v, ?_,by unfold zji;rw[hv]⟩;rw[←hE,di] at hv;exact hv);obtain⟨z,cH,dM⟩:=ew
    go_wp2_with (first
     | (go_at_call 96;go_must (refine (zw hR hs ig).mono ?_);rintro e X ⟨rfl,q,rfl⟩)
     | (go_at_call 106;go_must (refine (qj _ _).mono ?_);rintro e X ⟨rfl,rfl⟩))
    go_region_held3 (fun w'=>w'.cell? ⟨rb,0,none⟩=some (.string s)∧w'.cell? ⟨rb,1,none⟩=some (.int .i64 i)) (first|go_keep|(go_split_ands;refine⟨?_, ?_⟩<;>exact qV kX (by assumption))) ((go_at_call 112;go_loud (refine (n7 _ b3 z cH _).mono ?_);rintro e X ⟨rfl,kX⟩))
    go_wp2_with (go_at_call 98;go_must (refine (jU (RD.keepO (hR.drewN _) kX) ⟨1,z,⟨#[]⟩,0,0⟩ hl).mono ?_);rintro e Y ⟨v',rfl,hY,sY⟩)
    go_ret;exact⟨v',rfl,by rw[dM,←hE,di];exact hY,(oi (zE hS _) kX).trans sY⟩
  ·rw[Bool.not_eq_true] at fU;have di:zaU s a f i=i:=by
    cases f with
    | zero=>rfl
    | succ f=>simp only[zaU];rw[if_neg (by rw[fU];simp)]
   have ew:∃v,Lib.atoiAll (s.extract a i).data.toList=.ok v∧(zji (s.extract a (zaU s a 8 a))).1=v:=(by obtain⟨v,hv⟩:=zgV hd;refine⟨v, ?_,by unfold zji;rw[hv]⟩;rw[←hE,di] at hv;exact hv);obtain⟨z,cH,dM⟩:=ew
   go_wp2_with (first
    | (go_at_call 96;go_must (refine (zw hR hs ig).mono ?_);rintro e X ⟨rfl,q,rfl⟩)
    | (go_at_call 106;go_must (refine (qj _ _).mono ?_);rintro e X ⟨rfl,rfl⟩))
   go_region_held3 (fun w'=>w'.cell? ⟨rb,0,none⟩=some (.string s)∧w'.cell? ⟨rb,1,none⟩=some (.int .i64 i)) (first|go_keep|(go_split_ands;refine⟨?_, ?_⟩<;>exact qV kX (by assumption))) ((go_at_call 112;go_loud (refine (n7 _ b3 z cH _).mono ?_);rintro e X ⟨rfl,kX⟩))
   go_wp2_with (go_at_call 98;go_must (refine (jU (RD.keepO (hR.drewN _) kX) ⟨1,z,⟨#[]⟩,0,0⟩ hl).mono ?_);rintro e Y ⟨v',rfl,hY,sY⟩)
   go_ret;exact⟨v',rfl,by rw[dM,←hE,di];exact hY,(oi (zE hS _) kX).trans sY⟩
end Go.Proofs.TryzRead
end
section
namespace Go.Proofs.TryzReach
open Go Go.RowKit Ab
def infoI:(Tryz.prog.info? 3).map (fun i=>(i.zero,i.size,i.bytes))=some (some (.int .i64 0),1,8):=by kernel_rfl
def infoB:(Tryz.prog.info? 4).map (fun i=>(i.zero,i.size,i.bytes))=some (some (.bool false),1,1):=by kernel_rfl
def zcC {P:Program} {e:TypeId} {z:Value} {s b:Nat} (h:(P.info? e).map (fun i=>(i.zero,i.size,i.bytes))=some (some z,s,b)):∃i,P.info? e=some i∧i.zero=some z∧i.size=s∧i.bytes=b:=by obtain⟨i,hi,hz⟩:=Option.map_eq_some_iff.1 h;simp only[Prod.mk.injEq] at hz;exact⟨i,hi,hz.1,hz.2.1,hz.2.2⟩
def zcA {W X Y:World} {row:Option Nat} (k:KeepO (fun _=>False) W X) (h:X.grownBy Y row) (hr:∀b,row=some b->W.heap.size<=b):KeepO (fun _=>False) W Y :=
 ⟨h.os.trans k.os,h.tape.trans k.tape,h.output.trans k.output,le_trans k.size h.size,fun i hi hn=>(h.block i (Nat.lt_of_lt_of_le hi k.size) (fun e=>by have:=hr i e.symm;omega)).trans (k.block i hi hn)⟩
def eq_nil (b:Option Addr) (n c:Nat) (w:World):(binOp .eql 26 (.slice b n c) (.slice none 0 0)).run Tryz.prog w=.ok (.bool b.isNone) w:=by
 have e1:∀dd,(Op.equalIn (dd+1) 26 (.slice b n c) (.slice none 0 0)).run Tryz.prog w=.ok b.isNone w:=fun dd=>by cases b<;>simp[Op.equalIn,run_underlying Tryz.underlying26]
 have k:(Op.equal 26 (.slice b n c) (.slice none 0 0)).run Tryz.prog w=.ok b.isNone w:=e1 9999;simp[binOp,k]
def news_ints {N:Nat} {W X:World} {b o:Nat} {l:List Int} (hk:∀i,i<N->X.heap[i]? = W.heap[i]?) (h2:b<N) (h3:∀j,j<l.length->W.cell? ⟨b,o+j,none⟩=some (.int .i64 (l.getD j 0))) :
  ∀j u,(l.map (Value.int .i64))[j]? = some u->X.cell? ((⟨b,o,none⟩:Addr).add j)=some u:=by
 intro j u hu;rw[Addr.add_lit];rw[getElem?_map,Option.map_eq_some_iff] at hu;obtain⟨x,hx,rfl⟩:=hu;have hj:=(List.getElem?_eq_some_iff.1 hx).1;have:=h3 j hj;rw[List.getD_eq_getElem?_getD,hx] at this;exact (World.cell?_of_block (a:=⟨b,o+j,none⟩) (hk b h2)).trans this
def ints_one (l:List Int):∀u∈l.map (Value.int .i64),u.oneCell'=true:=fun u hu=>by obtain⟨x,_,rfl⟩:=List.mem_map.1 hu;rfl
def zkn {N base:Nat} {W:World} {v:Value} {l:List Int} (h:zdn N W v l) (hN:N<=W.heap.size) (hl:l.length<=1000000) (hb:base<=W.heap.size) :
  Calls Tryz.prog 103 #[v] W fun e W'=>∃v',e=.returned v'∧zkB W' base v' l∧W.grownBy W' none∧∀b,v'.ownBlock=some b->W.heap.size<=b:=by
 obtain⟨i0,hi,dW,cH,dM⟩:=zcC infoI;have heq:=eq_nil;have hal:∀i,i<N->(W.alloc (.cells #[] 3)).heap[i]? = W.heap[i]?:=fun i aQ=>Below.heap_alloc W _ i (by omega);rcases h with⟨rfl,rfl|⟨a,c,rfl⟩⟩|⟨b,o,cap,rfl,h2,h3⟩
 ·go_enter Tryz.func103,Tryz.ntmps103
  go_wp2_with fail
  go_ret;exact⟨_,rfl,.inl ⟨none,rfl,rfl,by simp[Value.ownBlock]⟩,⟨rfl,rfl,rfl,le_refl _,fun _ _ _=>rfl⟩,by simp[Value.ownBlock]⟩
 ·go_enter Tryz.func103,Tryz.ntmps103
  go_wp2_with (at_builtin;go_loud (refine wpList_append_own_at _ rfl _ _ 26 rfl base 3 i0 (.int .i64 0) 1 8 Tryz.underlying26 hi dW cH dM rfl (by decide) (.slice (some ⟨W.heap.size,0,none⟩) 0 0) 0 [] rfl (World.ownsRow_made W #[] 0 hb (by decide) rfl) a 0 c [] rfl rfl (fun j u hu=>by cases hu) (fun u hu=>by cases hu) (by decide) (by decide) (by simp;omega) ?_);intro v' w1 cT aY cU ba)
  go_ret;refine⟨v',rfl,own_q (by simp) cT,⟨aY.os,aY.tape,aY.output,by have:=aY.size;simp at this;omega,fun k hk _ => ?_⟩,fun b aw => ?_⟩
  ·exact (aY.block k (by simp;omega) (fun e=>by simp[Value.ownBlock] at e;omega)).trans (Below.heap_alloc W _ k hk)
  ·rcases ba with e|e<;>(rw[e] at aw;simp[Value.ownBlock] at aw;omega)
 ·go_enter Tryz.func103,Tryz.ntmps103
  go_wp2_with (at_builtin;go_loud (refine wpList_append_own_at _ rfl _ _ 26 rfl base 3 i0 (.int .i64 0) 1 8 Tryz.underlying26 hi dW cH dM rfl (by decide) (.slice (some ⟨W.heap.size,0,none⟩) 0 0) 0 [] rfl (World.ownsRow_made W #[] 0 hb (by decide) rfl) ⟨b,o,none⟩ l.length cap (l.map (.int .i64)) rfl (by simp) (news_ints hal h2 h3) (ints_one l) (by unfold maxLen;omega) (by omega) (by simp;omega) ?_);intro v' w1 cT aY cU ba)
  go_ret;rw[Nat.zero_add,List.nil_append] at cT;refine⟨v',rfl,own_q rfl cT,⟨aY.os,aY.tape,aY.output,by have:=aY.size;simp at this;omega,fun k hk _ => ?_⟩,fun b aw => ?_⟩
  ·exact (aY.block k (by simp;omega) (fun e=>by simp[Value.ownBlock] at e;omega)).trans (Below.heap_alloc W _ k hk)
  ·rcases ba with e|e<;>(rw[e] at aw;simp[Value.ownBlock] at aw;omega)
def lenV:Value->Nat
 | .slice _ n _=>n
 | _=>0
def boolV:Value->Bool
 | .bool b=>b
 | _=>false
def seenOf (w:World) (sb:Nat):List Bool:=match w.heap[sb]? with
 | some (.cells cs _ _)=>cs.toList.map boolV
 | _=>[]
def zib {w:World} {sb:Nat} {seen:List Bool} (h:w.heap[sb]? = some (.cells (seen.map Value.bool).toArray 4 (0,0))):seenOf w sb=seen:=by
 unfold seenOf;rw[h];simp only[List.map_map]
 conv=>rhs;rw[←List.map_id seen]
 exact List.map_congr_left fun b _=>rfl
def seen_cell {w:World} {sb k:Nat} {seen:List Bool} (h:w.heap[sb]? = some (.cells (seen.map Value.bool).toArray 4 (0,0))) (hk:k<seen.length):w.cell? ⟨sb,k,none⟩=some (.bool (seen.getD k false))∧w.frozen? ⟨sb,k,none⟩=false:=by refine⟨?_,by unfold World.frozen?;rw[h];simp⟩;simp only[World.cell?,h,List.getElem?_toArray,getElem?_map,List.getElem?_eq_getElem hk,map_some,List.getD_eq_getElem?_getD,Option.getD_some];rfl
def seen_set {w:World} {sb k:Nat} {seen:List Bool} (h:w.heap[sb]? = some (.cells (seen.map Value.bool).toArray 4 (0,0))) (hk:k<seen.length):(w.setCell ⟨sb,k,none⟩ (.bool true)).heap[sb]? = some (.cells ((seen.set k true).map Value.bool).toArray 4 (0,0)):=by simp only[World.setCell,getElem?_modify,if_true,h,map_some];congr 2;apply Array.ext';simp[List.map_set]
def zkU:∀(l:List Nat) (f:Nat->Nat),(∀x,f x<=1000)->(l.map f).sum<=l.length*1000
 | [],_,_=>by simp
 | a::r,f,h=>by
  have:=zkU r f h;have:=h a;simp only[List.map_cons,List.sum_cons,length_cons];omega
def left_most {n:List (List Int)} (h1:n.length<=1000) (h2:∀k,(n.getD k []).length<=1000) (seen:List Bool):gj n seen<=1000000:=by
 unfold gj;refine le_trans (zkU _ _ fun x => ?_) (by rw[List.length_range];omega);split
 ·omega
 ·exact h2 x
def made_seen (m:Nat):madeCells #[.bool false] m=((List.replicate m false).map Value.bool).toArray:=by
 apply Array.ext';simp[madeCells,List.map_replicate];apply List.ext_getElem?;intro j;simp only[getElem?_map,List.getElem?_replicate];by_cases hj:j<m
 ·rw[List.getElem?_range hj,if_pos hj];simp[Nat.mod_one]
 ·rw[List.getElem?_eq_none (by rw[List.length_range];omega),if_neg hj];rfl
def qlen {W:World} {base:Nat} {v:Value} {l:List Int} (h:zkB W base v l):lenV v=l.length:=by rcases h with⟨a,rfl,rfl,_⟩|⟨g,o,cap,rfl,_⟩<;>rfl
def qtail {W:World} {base g o cap:Nat} {row:List Int} {x:Int} (h2:base<=g) (h3:g<W.heap.size) (h4:row.length+1<=cap) (h6:cap<=maxLen)
  (h7:∀j,j<(x::row).length->W.cell? ⟨g,o+j,none⟩=some (.int .i64 ((x::row).getD j 0))) (h8:∀j,j<cap->(W.cell? ⟨g,o+j,none⟩).isSome=true∧W.frozen? ⟨g,o+j,none⟩=false) :
  zkB W base (.slice (if cap=1 then some ⟨g,o,none⟩ else some ⟨g,o+1,none⟩) row.length (cap-1)) row:=by
 by_cases hc:cap=1
 ·subst hc;have:row=[]:=List.length_eq_zero_iff.1 (by omega);subst this;exact .inl ⟨_,rfl,rfl,fun b hb=>by simp[Value.ownBlock] at hb;omega⟩
 ·rw[if_neg hc];refine .inr ⟨g,o+1,cap-1,rfl,h2,h3,by omega,by omega,by omega,fun j hj => ?_,fun j hj => ?_⟩
  ·rw[show o+1+j=o+(j+1) by omega];exact (h7 (j+1) (by simp;omega)).trans (by simp)
  ·rw[show o+1+j=o+(j+1) by omega];exact h8 (j+1) (by omega)
def reach_calls {n:List (List Int)} {i:Nat} {v:Value} {W:World} {b:Bool} (hR:RowsAt W.heap.size W v n) (hs:SmallR n i) (hb:zgB n i=some b) :
  Calls Tryz.prog 92 #[v,.int .i64 i] W fun e W'=>e=.returned (.bool b)∧KeepO (fun _=>False) W W':=by
 obtain⟨i0,hi,dW,cH,dM⟩:=zcC infoI;obtain⟨ib,bi,bz0,bz1,bz2⟩:=zcC infoB;have cD:=hs.rng;have bJ:i<n.length:=by have:=hs.hi;simpa using this
 have hlen:=hs.len;have bu:=hs.rows;have hR0:=hR;obtain⟨b0,o0,cap0,rfl,cZ,gL⟩:=hR0;obtain⟨u,hu,tr⟩:=gL i (n.getD i []) (by rw[List.getD_eq_getElem?_getD,List.getElem?_eq_getElem bJ];rfl);have a0:(0:Int)<=(i:Int):=Int.natCast_nonneg _;have a1:(i:Int)<(n.length:Int):=by omega
 have hold:∀k,k<W.heap.size->(W.alloc (.cells (madeCells #[.bool false] n.length) 4)).heap[k]? = W.heap[k]?:=fun k hk=>Below.heap_alloc W _ k hk;have hu1:(W.alloc (.cells (madeCells #[.bool false] n.length) 4)).cell? ⟨b0,o0+i,none⟩=some u:=(World.cell?_of_block (a:=⟨b0,o0+i,none⟩) (hold b0 cZ)).trans hu;have hc:=zkn (base:=W.heap.size+1) (tr.keep hold) (by simp) (le_trans (bu i) (by omega)) (by simp)
 go_enter Tryz.func92,Tryz.ntmps92
 go_wp2_with (first
  | (refine wpList_make_row _ rfl _ _ 92 rfl 4 ib (.bool false) Tryz.underlying92 bi bz0 bz1 rfl .i64 .i64 n.length rfl rfl (by rw[bz2];omega) (by omega) ?_)
  | (go_at_call 103;go_must (refine hc.mono ?_);rintro e X ⟨v',rfl,hq,hg,cT⟩))
 have hX:X.heap[W.heap.size]? = some (.cells ((List.replicate n.length false).map Value.bool).toArray 4 (0,0)):=(by rw[←made_seen];exact (hg.block _ (by simp) (fun e=>by cases e)).trans (heap_alloc_new W _));have kX:KeepO (fun _=>False) W X:=zcA (⟨rfl,rfl,rfl,by simp,fun k hk _=>Below.heap_alloc W _ k hk⟩:KeepO (fun _=>False) W (W.alloc (.cells (madeCells #[.bool false] n.length) 4))) hg (fun b e=>by cases e);have hlm:=left_most hlen bu;clear hc hu1 hold hu tr
 go_loopw [6] (fun t6 wr=>∃(f:Nat) (seen:List Bool) (row:List Int),zkB wr (W.heap.size+1) t6 row∧wr.heap[W.heap.size]? = some (.cells (seen.map Value.bool).toArray 4 (0,0))∧seen.length=n.length∧(∀k∈row,0<=k∧k<n.length)∧zmP n i f seen row=some b∧row.length+gj n seen<=1001000∧KeepO (fun _=>False) W wr) (fun t6 wr=>lenV t6+gj n (seenOf wr W.heap.size))
 case atStart =>
  exact⟨_,_,_,hq,hX,by simp,fun k hk=>cD i k hk,hb,by have:=hlm (List.replicate n.length false);have:=bu i;omega,kX⟩
 case round =>
  obtain⟨f,seen,row,hQ,hS,pd,hk,hf,hC,hK⟩:=hrel;obtain⟨f,rfl⟩:∃f',f=f'+1:=by
   cases f with
   | zero=>cases hf
   | succ f=>exact⟨f,rfl⟩
  cases row with
  | nil =>
   simp only[zmP] at hf;cases hf;rcases hQ with⟨a,rfl,_,_⟩|⟨g,o,cap,rfl,_⟩
   ·go_wp2_with fail
    go_ret;exact⟨rfl,hK⟩
   ·go_wp2_with fail
    go_ret;exact⟨rfl,hK⟩
  | cons k0 row =>
   obtain⟨bX,cW⟩:=hk k0 (by simp);obtain⟨k,rfl⟩:∃k:Nat,k0=k:=⟨k0.toNat,by omega⟩;rcases hQ with⟨a,_,e,_⟩|⟨g,o,cap,rfl,h2,h3,h4,h5,h6,h7,h8⟩
   ·cases e
   have tM:k<n.length:=by omega
   have c0:wr.cell? ⟨g,o,none⟩=some (.int .i64 k):=h7 0 (by simp);obtain⟨sc,sf⟩:=seen_cell hS (k:=k) (by omega);simp only[length_cons] at h4 hC;have d0:(1:Int)<=((row.length+1:Nat):Int):=by omega
   have d1:(0:Int)<((row.length+1:Nat):Int):=by omega
   have d2:((row.length+1:Nat):Int)<=(cap:Int):=by omega
   have d3:(k:Int)<(seen.length:Int):=by omega
   have d4:(k:Int)<(n.length:Int):=by omega
   simp only[zmP,Int.toNat_natCast] at hf;by_cases e:(k:Int)=(i:Int)
   ·rw[if_pos e] at hf;cases hf;have e':k=i:=by omega
    subst e'
    go_wp2_with fail
    all_goals (go_ret;exact⟨rfl,hK⟩)
   rw[if_neg e] at hf;cases iI:seen.getD k false with
   | true =>
    rw[iI] at hf sc;rw[if_pos rfl] at hf
    go_wp2_with fail
    go_roundw
    case rel=>exact⟨f,seen,row,qtail h2 h3 h4 h6 h7 h8,hS,pd,fun x hx=>hk x (List.mem_cons_of_mem _ hx),hf,by omega,hK⟩
    case measure =>
     simp only[lenV,length_cons];omega
   | false =>
    rw[iI] at hf sc;rw[if_neg (by simp)] at hf;have hS':=seen_set hS (k:=k) (by omega);have pt:=(qtail h2 h3 h4 h6 h7 h8).kept (w':=wr.setCell ⟨W.heap.size,k,none⟩ (.bool true)) (row:=some W.heap.size) (jM wr W.heap.size k [.bool true]) (fun x hx e=>by cases e;split at hx<;>(simp[Value.ownBlock] at hx;omega))
    have kS:KeepO (fun _=>False) W (wr.setCell ⟨W.heap.size,k,none⟩ (.bool true)):=zcA hK (jM wr W.heap.size k [.bool true]) (fun x hx=>by cases hx;exact le_refl _);obtain⟨y,hy,hyi⟩:=gL k (n.getD k []) (by rw[List.getD_eq_getElem?_getD,List.getElem?_eq_getElem tM];rfl);have y1:(wr.setCell ⟨W.heap.size,k,none⟩ (.bool true)).cell? ⟨b0,o0+k,none⟩=some y:=(World.cell?_of_block (a:=⟨b0,o0+k,none⟩) (kS.block b0 cZ id)).trans hy;have ysrc:=(hyi.keep (fun x hx=>kS.block x hx id)).src (P:=Tryz.prog) (t:=26) (e:=3) Tryz.underlying26;have bt:=ziE pd tM iI;have fP:∀x,(n.getD x []).length<=1000:=bu;have hwb:W.heap.size+1<=(wr.setCell ⟨W.heap.size,k,none⟩ (.bool true)).heap.size:=le_trans (by omega) (jM wr W.heap.size k [.bool true]).size
    go_wp2_with (at_builtin;go_loud (refine zfs rfl _ _ 26 rfl pt hwb Tryz.underlying26 hi dW cH dM rfl rfl rfl ysrc (by have:=fP k;omega) ?_);intro v2 w2 uf rK rM)
    have hob:(Value.slice (if cap=1 then some (⟨g,o,none⟩:Addr) else some ⟨g,o+1,none⟩) row.length (cap-1)).ownBlock=some g:=by split<;>rfl
    rw[hob] at rK;have k2:=zcA kS rK (fun x hx=>by cases hx;omega);have ue:w2.heap[W.heap.size]? = _:=(rK.block W.heap.size (by omega) (fun e=>by cases e;omega)).trans hS'
    go_roundw
    case rel =>
     refine⟨f,seen.set k true,row++n.getD k [],uf,ue,by rw[List.length_set];exact pd,fun x hx => ?_,hf,by rw[List.length_append];omega,k2⟩;rcases List.mem_append.1 hx with hx|hx
     ·exact hk x (List.mem_cons_of_mem _ hx)
     ·exact cD k x hx
    case measure =>
     rw[qlen uf,zib ue,zib hS];simp only[lenV,length_cons,List.length_append];omega
end Go.Proofs.TryzReach
end
