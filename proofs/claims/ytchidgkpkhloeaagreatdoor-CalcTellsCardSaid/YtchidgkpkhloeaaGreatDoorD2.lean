import Derived.Test.YtchidgkpkhloeaaGreatDoorF2
import Derived.WalkSpells
import Derived.Maps.AppendAt
import Derived.OwnWalk
import Derived.RangeFuncBox
import Derived.BigQuiet
import Derived.Deep.RegionHeld3
import Derived.Deep.RegionLaw
import Derived.BigRegion
import Derived.Deep.AppendLies
import Derived.Deep.DeepMust
import Derived.Test.YtchidgkpkhloeaaGreatDoorF6
import Derived.LoopTactic
import Derived.StillTailTactics
open Nat (le_refl le_trans)
open Option (map_some)
set_option linter.all false
set_option maxRecDepth 100000
set_option maxHeartbeats 8000000
section
namespace Go.Proofs.TryzRead
open Go Go.RowKit Ab
def zkT:(Tryz.prog.info? 119).map (fun i=>(i.zero,i.size,i.bytes))=some (some (.agg #[.int .i64 0,.int .i64 0,.string ⟨#[]⟩,.int .i64 0,.int .i64 0]),5,48):=by kernel_rfl
section
variable {B:Option Nat} {v:Value} {W X:World}
def zP (B:Option Nat) (v:Value) (W:World):Stp B v W W v:=⟨rfl,rfl,rfl,le_refl _,fun _ _ _ _=>rfl,.inl rfl⟩
def zaJ {W:World} {o:Obj} {k:Nat} (h:k < W.heap.size):(W.alloc o).heap[k]? = W.heap[k]?:=by simp[World.alloc, -World.alloc_eq,Array.getElem?_push,Nat.ne_of_lt h]
def qM {W:World} {o O:Obj} {k:Nat} (h:W.heap[k]? = some O):(W.alloc o).heap[k]? = some O:=(zaJ (Array.getElem?_eq_some_iff.1 h).1).trans h
def zY {v':Value} (h:Stp B v W X v') (o:Obj):Stp B v W (X.alloc o) v' :=
 ⟨h.os,h.tape,h.output,by have:=h.size;simp;omega,fun k hk h1 h2=>(zaJ (Nat.lt_of_lt_of_le hk h.size)).trans (h.block k hk h1 h2),h.own⟩
def ze {v':Value} (h:Stp B v W X v') (n:Nat):Stp B v W (X.drewN n) v':=⟨h.os,h.tape,h.output,h.size,h.block,h.own⟩
def zx {v':Value} (h:Stp B v W X v') {p:Addr} (hp:W.heap.size<=p.block∨some p.block=B) (u:Value):Stp B v W (X.setCell p u) v' :=
 ⟨h.os,h.tape,h.output,le_trans h.size (KeepsWalks.setCell X p u).size,fun k hk h1 h2=>by
  rw[← h.block k hk h1 h2];refine Below.heap_setCell _ _ _ k fun e => ?_;rcases hp with hp | hp
  ·omega
  ·exact h1 (by rw[← hp,e]),h.own⟩
def z8 {v':Value} {w1:World} (hg:X.grownBy w1 v.ownBlock) (aq:v'.ownBlock=v.ownBlock∨v'.ownBlock=some X.heap.size):Stp B v X w1 v' :=
 ⟨hg.os,hg.tape,hg.output,hg.size,fun k hk _ h2=>hg.block k hk h2,aq.imp id fun e=>⟨_,e,le_refl _⟩⟩
end
structure RD (rb n1:Nat) (s:ByteArray) (W:World) (at_:Nat) (v:Value) (l:List Ab.Node):Prop where
 cell:W.heap[rb]? = some (.cells #[.string s,.int .i64 at_,v] 219 (0,0))
 row:W.ownsRow n1 119 5 v l.length (zgL l)
 lt:rb < n1
 size:n1<=W.heap.size
section
variable {rb n1:Nat} {s:ByteArray} {W X:World} {a:Nat} {v v':Value} {l l':List Ab.Node}
def RD.c0 (h:RD rb n1 s W a v l):W.cell? ⟨rb,0,none⟩=some (.string s):=by simp[World.cell?,h.cell]
def RD.c1 (h:RD rb n1 s W a v l):W.cell? ⟨rb,1,none⟩=some (.int .i64 a):=by simp[World.cell?,h.cell]
def RD.c2 (h:RD rb n1 s W a v l):W.cell? ⟨rb,2,none⟩=some v:=by simp[World.cell?,h.cell]
def RD.fr (h:RD rb n1 s W a v l) (j:Nat):W.frozen? ⟨rb,j,none⟩=false:=by simp[World.frozen?,h.cell]
def RD.rbs (h:RD rb n1 s W a v l):rb < W.heap.size:=Nat.lt_of_lt_of_le h.lt h.size
def RD.ne (h:RD rb n1 s W a v l):some rb≠v.ownBlock:=fun e=>by have:=own_ge h.row rb e.symm;have:=h.lt;omega
def RD.drewN (h:RD rb n1 s W a v l) (n:Nat):RD rb n1 s (W.drewN n) a v l:=⟨h.cell,h.row.kept (row:=none) ⟨rfl,rfl,rfl,le_refl _,fun _ _ _=>rfl⟩ (Classical.em _),h.lt,h.size⟩
def RD.alloc (h:RD rb n1 s W a v l) (o:Obj):RD rb n1 s (W.alloc o) a v l:=⟨qM h.cell,h.row.alloc o,h.lt,by have:=h.size;simp;omega⟩
def RD.go (h:RD rb n1 s W a v l) (b:Nat):RD rb n1 s (W.setCell ⟨rb,1,none⟩ (.int .i64 b)) b v l:=by refine ⟨?_,h.row.kept (row:=some rb) ⟨rfl,rfl,rfl,(KeepsWalks.setCell W _ _).size,fun k _ hk=>Below.heap_setCell _ _ _ k fun e=>hk (by rw[e])⟩ (.inr fun e=>h.ne e.symm),h.lt,le_trans h.size (KeepsWalks.setCell W _ _).size⟩;simp only[World.setCell,Array.getElem?_modify,if_true,h.cell,map_some];rfl
def RD.put {w1:World} (h:RD rb n1 s X a v l) (hg:X.grownBy w1 v.ownBlock) (aq:v'.ownBlock=v.ownBlock∨v'.ownBlock=some X.heap.size) (hr:w1.ownsRow n1 119 5 v' l'.length (zgL l')):RD rb n1 s (w1.setCell ⟨rb,2,none⟩ v') a v' l':=by
 have h1:w1.heap[rb]? = some (.cells #[.string s,.int .i64 a,v] 219 (0,0)):=(hg.block rb h.rbs h.ne).trans h.cell;have ai:v'.ownBlock≠some rb:=fun e=>by
  rcases aq with e2 | e2
  ·exact h.ne (e.symm.trans e2)
  ·have:=Option.some.inj (e.symm.trans e2);have:=h.rbs;omega
 refine ⟨?_,hr.kept (row:=some rb) ⟨rfl,rfl,rfl,(KeepsWalks.setCell w1 _ _).size,fun k _ hk=>Below.heap_setCell _ _ _ k fun e=>hk (by rw[e])⟩ (.inr ai),h.lt,le_trans (le_trans h.size hg.size) (KeepsWalks.setCell w1 _ _).size⟩;simp only[World.setCell,Array.getElem?_modify,if_true,h1,map_some];rfl
end
def zy {rb n1:Nat} {s:ByteArray} {W:World} {a:Nat} {v:Value} {l:List Ab.Node} (h:RD rb n1 s W a v l) (hs:s.size<=1000) (ha:a<=s.size) :
  Calls Tryz.prog 198 #[.pointer (some ⟨rb,0,none⟩)] W fun e W'=>e=.returned (.int .u8 (pk s a))∧∃ q,W'=W.drewN q:=by
 have c0:=h.c0;have c1:=h.c1;by_cases ae:a < s.size
 ·have e1:pk s a=(s.data[a]'ae).toNat:=(by unfold pk;rw[Array.getElem?_eq_getElem ae]);have g0:(0:Int)<=(a:Int):=Int.natCast_nonneg _;have g1:(a:Int) < (s.size:Int):=by omega
  go_enter Tryz.func198,Tryz.ntmps198
  go_wp2
  go_quiet (fail)
  go_wp2
  go_quiet (fail)
  go_wp2
  go_ret;exact ⟨by rw[e1];rfl,_,World.drewN_drewN _ _ _⟩
 ·have e1:pk s a=0:=(by unfold pk;rw[Array.getElem?_eq_none (by have:s.data.size=s.size:=rfl;omega)]);have g1:(s.size:Int)<=(a:Int):=by omega
  rw[e1]
  go_enter Tryz.func198,Tryz.ntmps198
  go_wp2
  go_quiet (fail)
  go_wp2
  go_ret;exact ⟨rfl,_,rfl⟩
def qn (c:Nat) (W:World):Calls Tryz.prog 204 #[.int .u8 c] W fun e W'=>e=.returned (.bool (dgB c))∧W'=W:=by
 go_enter Tryz.func204,Tryz.ntmps204
 go_wp2
 all_goals (go_ret;refine ⟨?_,rfl⟩)
 ·have h1:(48:Int)<=(c:Int):=by assumption
  have e:decide ((c:Int)<=57)=dgB c:=by unfold dgB;rw[Bool.eq_iff_iff];simp only[decide_eq_true_eq,Bool.and_eq_true];omega
  exact congrArg (fun b=>Ending.returned (.bool b)) e
 ·have h1:(c:Int) < 48:=by assumption
  have e:false=dgB c:=by unfold dgB;rw[decide_eq_false (by omega)];rfl
  exact congrArg (fun b=>Ending.returned (.bool b)) e
def qR (c:Nat) (W:World):Calls Tryz.prog 206 #[.int .u8 c] W fun e W'=>e=.returned (.bool (ltB c))∧W'=W:=by
 go_enter Tryz.func206,Tryz.ntmps206
 go_wp2
 all_goals (go_ret;refine ⟨?_,rfl⟩)
 ·have h1:(97:Int)<=(c:Int):=by assumption
  have e:decide ((c:Int)<=122)=ltB c:=by unfold ltB;rw[Bool.eq_iff_iff];simp only[decide_eq_true_eq,Bool.and_eq_true];omega
  exact congrArg (fun b=>Ending.returned (.bool b)) e
 ·have h1:(c:Int) < 97:=by assumption
  have e:false=ltB c:=by unfold ltB;rw[decide_eq_false (by omega)];rfl
  exact congrArg (fun b=>Ending.returned (.bool b)) e
def zkz (W:World) (X Y:Obj):((W.alloc X).alloc Y).heap[W.heap.size+1]? = some Y:=by have h:=World.alloc_heap_new (W.alloc X) Y;simpa using h
def jL {rb n1:Nat} {s:ByteArray} {W:World} {a:Nat} {v:Value} {l:List Ab.Node} (h:RD rb n1 s W a v l) (x:Ab.Node) (hl:l.length < 1000) :
  Calls Tryz.prog 200 #[.pointer (some ⟨rb,0,none⟩),.agg (qb x).toArray] W fun e W'=>∃ v',e=.returned (.int .i64 l.length)∧RD rb n1 s W' a v' (l++[x])∧Stp (some rb) v W W' v':=by
 obtain ⟨i0,hi,bW,bE,bn⟩:=info_parts zkT;have c2:=h.c2;have tG:=h.rbs;have ai:=h.ne;have aQ:=h.size;have f2:=h.fr 2;obtain ⟨xo,xn,xm,xl,xr⟩:=x;simp only[qb];have x0:∀ j u,(qb ⟨xo,xn,xm,xl,xr⟩)[j]? = some u->(W.alloc (.cells (qb ⟨xo,xn,xm,xl,xr⟩).toArray 119)).cell? ⟨W.heap.size,j,none⟩=some u:=fun j u hj=>(by have h:=World.alloc_heap_new W (.cells (qb ⟨xo,xn,xm,xl,xr⟩).toArray 119);simp only[World.cell?,h];simpa using hj);have eE:some W.heap.size≠v.ownBlock:=fun e=>by have:=h.row.lt _ e.symm;omega
 have r0:=x0 0 _ rfl;have r1:=x0 1 _ rfl;have r2:=x0 2 _ rfl;have r3:=x0 3 _ rfl;have r4:=x0 4 _ rfl
 go_enter Tryz.func200,Tryz.ntmps200
 go_wp2_with fail
 go_region_law (((refine step_append_lies _ (by rfl) _ _ _ (by rfl) n1 119 i0 _ 5 48 Tryz.underlying115 hi bW bE bn rfl (by omega) v l.length (zgL l) (by rfl) (((h.row.alloc _).alloc _).drew) ⟨W.heap.size+1,0,none⟩ 1 1 (qb ⟨xo,xn,xm,xl,xr⟩) (by rfl) (by rfl) (World.news_of_block (cs:=(qb ⟨xo,xn,xm,xl,xr⟩).toArray) (t:=119) (fr:=(0,0)) (zkz W _ _)) (qN _) (by omega) (by unfold maxLen;omega) (by omega) (by simp<;>omega) (W.heap.size+2) (by simp) ?_;intro gg cap w1 fg ab aq ae;have g0:w1.heap[rb]? = some (.cells #[.string s,.int .i64 a,v] 219 (0,0)):=(ab.block rb (by simp<;>omega) ai).trans (show ((W.alloc _).alloc _).heap[rb]? = _ from qM (qM h.cell));have g1:w1.cell? ⟨rb,2,none⟩=some v:=(by simp[World.cell?,g0]);have g2:w1.frozen? ⟨rb,2,none⟩=false:=(by simp[World.frozen?,g0]))))
 all_goals go_wp2
 all_goals go_ret
 all_goals
  have aP:(Value.slice (some ⟨gg,0,none⟩) (l.length+1) cap).ownBlock=v.ownBlock∨(Value.slice (some ⟨gg,0,none⟩) (l.length+1) cap).ownBlock=some ((W.alloc (.cells (qb ⟨xo,xn,xm,xl,xr⟩).toArray 119)).alloc (.cells (qb ⟨xo,xn,xm,xl,xr⟩).toArray 119)).heap.size:=aq.imp (fun e=>e.symm) fun e=>by rw[e];simp[Value.ownBlock]
  refine ⟨_,rfl,RD.put (((h.alloc _).alloc _).drewN 1) ab aP (by rw[zM,qF,List.length_append];exact fg),zx ((ze (zY (zY (zP (some rb) v W) _) _) 1).trans (z8 ab aP)) (.inr rfl) _⟩
end Go.Proofs.TryzRead
end
section
namespace Go.Proofs.TryzRead
open Go Go.RowKit Ab
def atOf (w:World) (rb:Nat):Nat:=match w.cell? ⟨rb,1,none⟩ with
 | some (.int _ n)=>n.toNat
 | _=>0
def jv {rb n1:Nat} {s:ByteArray} {W:World} {a:Nat} {v:Value} {l:List Ab.Node} (h:RD rb n1 s W a v l):atOf W rb=a:=by unfold atOf;rw[h.c1];rfl
def RD.keepO {rb n1:Nat} {s:ByteArray} {W X:World} {a:Nat} {v:Value} {l:List Ab.Node} (h:RD rb n1 s W a v l) (k:KeepO (fun _=>False) W X):RD rb n1 s X a v l :=
 ⟨(k.block rb h.rbs (fun e=>e)).trans h.cell,h.row.kept (row:=none) ⟨k.os,k.tape,k.output,k.size,fun i hi _=>k.block i hi (fun e=>e)⟩ (Classical.em _),h.lt,le_trans h.size k.size⟩
def zdi {B:Option Nat} {v0 v:Value} {W X Y:World} (h:Stp B v0 W X v) (k:KeepO (fun _=>False) X Y):Stp B v0 W Y v :=
 ⟨k.os.trans h.os,k.tape.trans h.tape,k.output.trans h.output,le_trans h.size k.size,fun i hi h1 h2=>(k.block i (Nat.lt_of_lt_of_le hi h.size) (fun e=>e)).trans (h.block i hi h1 h2),h.own⟩
def qS {X Y:World} (k:KeepO (fun _=>False) X Y) {b j:Nat} {u:Value} (h:X.cell? ⟨b,j,none⟩=some u):Y.cell? ⟨b,j,none⟩=some u :=
 (World.cell?_of_block (a:=⟨b,j,none⟩) (k.block b (World.block_lt_of_cell? X _ h) (fun e=>e))).trans h
def zd5 (t:ByteArray) (ht:t.size<=1000) (v:Int) (h:Lib.atoiAll t.data.toList=.ok v) (w:World) :
  Calls Tryz.prog 208 #[.string t] w fun e w'=>e=.returned (.tuple #[.int .i64 v,.nilIface])∧KeepO (fun _=>False) w w' :=
 (Tryz.strconv_Atoi_ok t (by omega) v h w).mono fun e w' ⟨he,hw⟩=>⟨he,by
  rcases hw with rfl | ⟨t,rfl⟩
  ·exact .refl _ _
  ·have hb:=Lib.bytesWorld_below w 5 t;exact ⟨hb.os,hb.tape,hb.output,hb.size,fun k hk _=>hb.block k hk⟩⟩
def zg7 {rb n1:Nat} {s:ByteArray} {W:World} {a:Nat} {v:Value} {l:List Ab.Node} (h:RD rb n1 s W a v l) (hs:s.size<=1000) (hd:dgB (pk s a)=true) (hl:l.length < 1000) :
  Calls Tryz.prog 205 #[.pointer (some ⟨rb,0,none⟩)] W fun e W'=>∃ v',e=.returned (.int .i64 l.length)∧RD rb n1 s W' (yl s a 8 a) v' (l++[⟨1,(zcr (s.extract a (yl s a 8 a))).1,⟨#[]⟩,0,0⟩])∧Stp (some rb) v W W' v':=by
 have c1:=h.c1;have ha:=zc0 hd
 go_enter Tryz.func205,Tryz.ntmps205
 go_wp2_with fail
 go_loopw [10] (fun _ wr=>∃ (i f:Nat),a<=i∧i+f=a+8∧i<=s.size∧RD rb n1 s wr i v l∧yl s a f i=yl s a 8 a∧Stp (some rb) v W wr v) (fun _ wr=>a+8 - atOf wr rb)
 case atStart=>exact ⟨a,8,le_refl _,rfl,by omega,h,rfl,zP _ _ _⟩
 case round =>
  obtain ⟨i,f,ua,se,fo,hR,hE,hS⟩:=hrel;have q0:=hR.c0;have q1:=hR.c1;have qf:=hR.fr 1;have b0:(0:Int)<=(a:Int):=Int.natCast_nonneg _;have b1:(a:Int)<=(i:Int):=by omega
  have b2:(i:Int)<=(s.size:Int):=by omega
  have b4:(a:Int) < (s.size:Int):=by omega
  have b3:(s.extract a i).size<=1000:=by rw[ByteArray.size_extract];omega
  by_cases bo:dgB (pk s i)=true
  ·by_cases h7:i - a < 7
   ·have nZ:(i:Int) - (a:Int) < 7:=by omega
    obtain ⟨f,rfl⟩:∃ f',f=f'+1:=⟨f - 1,by omega⟩;by_cases e:i=a
    ·subst e;have cZ:yl s i (f+1) i=yl s i f (i+1):=by simp only[yl];rw[if_pos ⟨bo,h7,.inl trivial⟩]
     go_wp2_with (first
      | (go_at_call 198;go_must (refine (zy hR hs fo).mono ?_);rintro e X ⟨rfl,q,rfl⟩)
      | (go_at_call 204;go_must (refine (qn _ _).mono ?_);rintro e X ⟨rfl,rfl⟩))
     go_roundw
     case rel =>
      refine ⟨i+1,f,by omega,by omega,zc0 bo, ?_,cZ.symm.trans hE,zx (ze hS _) (.inr rfl) _⟩;rw[show ((i:Int)+1)=((i+1:Nat):Int) by omega];exact (hR.drewN _).go _
     case measure =>
      have m1:=jv hR;have m2:=jv ((hR.drewN q).go (i+1));rw[show ((i+1:Nat):Int)=(i:Int)+1 by omega] at m2;rw[m1,m2];omega
    ·have e':¬ (i:Int)=(a:Int):=by omega
     obtain ⟨p1,p2⟩:=zb2 ha;by_cases e2:pk s a=48
     ·have n5:((s[a]'ha).toNat:Int)=48:=by have p3:pk s a=(s[a]'ha).toNat:=p2;omega
      have cZ:yl s a (f+1) i=i:=by simp only[yl];rw[if_neg (fun h=>h.2.2.elim e (fun h=>h e2))]
      have dH:∃ v,Lib.atoiAll (s.extract a i).data.toList=.ok v∧(zcr (s.extract a (yl s a 8 a))).1=v:=(by obtain ⟨v,hv⟩:=zfx hd;refine ⟨v, ?_,by unfold zcr;rw[hv]⟩;rw[← hE,cZ] at hv;exact hv);obtain ⟨z,bE,bn⟩:=dH
      go_wp2_with (first
       | (go_at_call 198;go_must (refine (zy hR hs fo).mono ?_);rintro e X ⟨rfl,q,rfl⟩)
       | (go_at_call 204;go_must (refine (qn _ _).mono ?_);rintro e X ⟨rfl,rfl⟩))
      go_region_held3 (fun w'=>w'.cell? ⟨rb,0,none⟩=some (.string s)∧w'.cell? ⟨rb,1,none⟩=some (.int .i64 i)) (first | go_keep | (go_split_ands;refine ⟨?_, ?_⟩<;>exact qS kX (by assumption))) ((go_at_call 208;go_loud (refine (zd5 _ b3 z bE _).mono ?_);rintro e X ⟨rfl,kX⟩))
      go_wp2_with (go_at_call 200;go_must (refine (jL (RD.keepO (hR.drewN _) kX) ⟨1,z,⟨#[]⟩,0,0⟩ hl).mono ?_);rintro e Y ⟨v',rfl,hY,sY⟩)
      go_ret;exact ⟨v',rfl,by rw[bn,← hE,cZ];exact hY,(zdi (ze hS _) kX).trans sY⟩
     ·have n5:¬ ((s[a]'ha).toNat:Int)=48:=by have p3:pk s a=(s[a]'ha).toNat:=p2;omega
      have g2:(((s[a]'ha).toNat:Int) != 48)=true:=by simpa using n5
      have cZ:yl s a (f+1) i=yl s a f (i+1):=by simp only[yl];rw[if_pos ⟨bo,h7,.inr e2⟩]
      go_wp2_with (first
       | (go_at_call 198;go_must (refine (zy hR hs fo).mono ?_);rintro e X ⟨rfl,q,rfl⟩)
       | (go_at_call 204;go_must (refine (qn _ _).mono ?_);rintro e X ⟨rfl,rfl⟩))
      go_roundw
      case rel =>
       refine ⟨i+1,f,by omega,by omega,zc0 bo, ?_,cZ.symm.trans hE,zx (ze hS _) (.inr rfl) _⟩;rw[show ((i:Int)+1)=((i+1:Nat):Int) by omega];exact (hR.drewN _).go _
      case measure =>
       have m1:=jv hR;have m2:=jv ((hR.drewN q).go (i+1));rw[show ((i+1:Nat):Int)=(i:Int)+1 by omega] at m2;rw[m1,m2];omega
   ·have nZ:¬ (i:Int) - (a:Int) < 7:=by omega
    have cZ:yl s a f i=i:=by
     cases f with
     | zero=>rfl
     | succ f=>simp only[yl];rw[if_neg (fun h=>h7 h.2.1)]
    have dH:∃ v,Lib.atoiAll (s.extract a i).data.toList=.ok v∧(zcr (s.extract a (yl s a 8 a))).1=v:=(by obtain ⟨v,hv⟩:=zfx hd;refine ⟨v, ?_,by unfold zcr;rw[hv]⟩;rw[← hE,cZ] at hv;exact hv);obtain ⟨z,bE,bn⟩:=dH
    go_wp2_with (first
     | (go_at_call 198;go_must (refine (zy hR hs fo).mono ?_);rintro e X ⟨rfl,q,rfl⟩)
     | (go_at_call 204;go_must (refine (qn _ _).mono ?_);rintro e X ⟨rfl,rfl⟩))
    go_region_held3 (fun w'=>w'.cell? ⟨rb,0,none⟩=some (.string s)∧w'.cell? ⟨rb,1,none⟩=some (.int .i64 i)) (first | go_keep | (go_split_ands;refine ⟨?_, ?_⟩<;>exact qS kX (by assumption))) ((go_at_call 208;go_loud (refine (zd5 _ b3 z bE _).mono ?_);rintro e X ⟨rfl,kX⟩))
    go_wp2_with (go_at_call 200;go_must (refine (jL (RD.keepO (hR.drewN _) kX) ⟨1,z,⟨#[]⟩,0,0⟩ hl).mono ?_);rintro e Y ⟨v',rfl,hY,sY⟩)
    go_ret;exact ⟨v',rfl,by rw[bn,← hE,cZ];exact hY,(zdi (ze hS _) kX).trans sY⟩
  ·rw[Bool.not_eq_true] at bo;have cZ:yl s a f i=i:=by
    cases f with
    | zero=>rfl
    | succ f=>simp only[yl];rw[if_neg (by rw[bo];simp)]
   have dH:∃ v,Lib.atoiAll (s.extract a i).data.toList=.ok v∧(zcr (s.extract a (yl s a 8 a))).1=v:=(by obtain ⟨v,hv⟩:=zfx hd;refine ⟨v, ?_,by unfold zcr;rw[hv]⟩;rw[← hE,cZ] at hv;exact hv);obtain ⟨z,bE,bn⟩:=dH
   go_wp2_with (first
    | (go_at_call 198;go_must (refine (zy hR hs fo).mono ?_);rintro e X ⟨rfl,q,rfl⟩)
    | (go_at_call 204;go_must (refine (qn _ _).mono ?_);rintro e X ⟨rfl,rfl⟩))
   go_region_held3 (fun w'=>w'.cell? ⟨rb,0,none⟩=some (.string s)∧w'.cell? ⟨rb,1,none⟩=some (.int .i64 i)) (first | go_keep | (go_split_ands;refine ⟨?_, ?_⟩<;>exact qS kX (by assumption))) ((go_at_call 208;go_loud (refine (zd5 _ b3 z bE _).mono ?_);rintro e X ⟨rfl,kX⟩))
   go_wp2_with (go_at_call 200;go_must (refine (jL (RD.keepO (hR.drewN _) kX) ⟨1,z,⟨#[]⟩,0,0⟩ hl).mono ?_);rintro e Y ⟨v',rfl,hY,sY⟩)
   go_ret;exact ⟨v',rfl,by rw[bn,← hE,cZ];exact hY,(zdi (ze hS _) kX).trans sY⟩
end Go.Proofs.TryzRead
end
