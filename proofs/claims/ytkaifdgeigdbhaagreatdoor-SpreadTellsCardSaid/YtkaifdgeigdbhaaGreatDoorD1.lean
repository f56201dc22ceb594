import Derived.Test.YtkaifdgeigdbhaaGreatDoorD2
import Derived.Test.YtkaifdgeigdbhaaGreatDoorF4
open List (length_append)
open Nat (le_refl le_trans succ_pos)
open Option (map_some)
open Int (natCast_nonneg)
open Bool (and_eq_true eq_false_iff not_eq_true)
open Array (getElem?_eq_none getElem?_modify)
set_option linter.all false
set_option maxRecDepth 100000
set_option maxHeartbeats 32000000
section
namespace Go.Proofs.TryzRead
open Go Go.RowKit Ab
structure RI (rb n1:Nat) (s:ByteArray) (W:World) (at_:Nat) (bad:Bool) (v:Value) (l:List Ab.Node):Prop where
 cell:W.heap[rb]? = some (.cells #[.string s,.int .i64 at_,.bool bad,v] 181 (0,0))
 row:W.ownsRow n1 185 5 v l.length (da l)
 lt:rb < n1
 size:n1<=W.heap.size
section
variable {rb n1:Nat} {s:ByteArray} {W X:World} {a:Nat} {bad:Bool} {v v':Value} {l l':List Ab.Node}
def RI.c0 (h:RI rb n1 s W a bad v l):W.cell? ⟨rb,0,none⟩=some (.string s):=by simp[World.cell?,h.cell]
def RI.c1 (h:RI rb n1 s W a bad v l):W.cell? ⟨rb,1,none⟩=some (.int .i64 a):=by simp[World.cell?,h.cell]
def RI.c2 (h:RI rb n1 s W a bad v l):W.cell? ⟨rb,2,none⟩=some (.bool bad):=by simp[World.cell?,h.cell]
def RI.c3 (h:RI rb n1 s W a bad v l):W.cell? ⟨rb,3,none⟩=some v:=by simp[World.cell?,h.cell]
def RI.fr (h:RI rb n1 s W a bad v l) (j:Nat):W.frozen? ⟨rb,j,none⟩=false:=by simp[World.frozen?,h.cell]
def RI.rbs (h:RI rb n1 s W a bad v l):rb < W.heap.size:=Nat.lt_of_lt_of_le h.lt h.size
def RI.ne (h:RI rb n1 s W a bad v l):some rb≠v.ownBlock:=fun e=>by have:=own_ge h.row rb e.symm;have:=h.lt;omega
def RI.drewN (h:RI rb n1 s W a bad v l) (n:Nat):RI rb n1 s (W.drewN n) a bad v l:=⟨h.cell,h.row.kept (row:=none) ⟨rfl,rfl,rfl,le_refl _,fun _ _ _=>rfl⟩ (Classical.em _),h.lt,h.size⟩
def RI.alloc (h:RI rb n1 s W a bad v l) (o:Obj):RI rb n1 s (W.alloc o) a bad v l:=⟨qH h.cell,h.row.alloc o,h.lt,by have:=h.size;simp;omega⟩
def RI.row_set (h:RI rb n1 s W a bad v l) (j:Nat) (u:Value):(W.setCell ⟨rb,j,none⟩ u).ownsRow n1 185 5 v l.length (da l) :=
 h.row.kept (row:=some rb) ⟨rfl,rfl,rfl,(KeepsWalks.setCell W _ _).size,fun k _ hk=>Below.heap_setCell _ _ _ k fun e=>hk (by rw[e])⟩ (.inr fun e=>h.ne e.symm)
def RI.go (h:RI rb n1 s W a bad v l) (b:Nat):RI rb n1 s (W.setCell ⟨rb,1,none⟩ (.int .i64 b)) b bad v l:=by refine ⟨?_,h.row_set _ _,h.lt,le_trans h.size (KeepsWalks.setCell W _ _).size⟩;simp only[World.setCell,getElem?_modify,if_true,h.cell,map_some];rfl
def RI.wrong (h:RI rb n1 s W a bad v l) (c:Bool):RI rb n1 s (W.setCell ⟨rb,2,none⟩ (.bool c)) a c v l:=by refine ⟨?_,h.row_set _ _,h.lt,le_trans h.size (KeepsWalks.setCell W _ _).size⟩;simp only[World.setCell,getElem?_modify,if_true,h.cell,map_some];rfl
end
def inB (s:ByteArray) (a lo hi:Nat):Bool:=decide (a < s.size) && (decide (lo<=pk s a) && decide (pk s a<=hi))
def in_bad {rb n1:Nat} {s:ByteArray} {W:World} {a:Nat} {v:Value} {l:List Ab.Node} (h:RI rb n1 s W a true v l) (lo hi:Nat) :
  Calls Tryz.prog 185 #[.pointer (some ⟨rb,0,none⟩),.int .u8 lo,.int .u8 hi] W fun e W'=>e=.returned (.bool false)∧∃ q,W'=W.drewN q:=by
 have c2:=h.c2
 go_enter Tryz.func185,Tryz.ntmps185
 go_wp2
 go_quiet (fail)
 go_wp2
 go_ret;exact ⟨rfl,_,rfl⟩
def qt {rb n1:Nat} {s:ByteArray} {W:World} {a:Nat} {v:Value} {l:List Ab.Node} (h:RI rb n1 s W a false v l) (hs:s.size<=1000) (ha:a<=s.size) (lo hi:Nat) :
  Calls Tryz.prog 185 #[.pointer (some ⟨rb,0,none⟩),.int .u8 lo,.int .u8 hi] W fun e W'=>e=.returned (.bool (inB s a lo hi))∧∃ q,W'=W.drewN q:=by
 have c0:=h.c0;have c1:=h.c1;have c2:=h.c2;by_cases ae:a < s.size
 ·have e1:pk s a=(s.data[a]'ae).toNat:=(by unfold pk;rw[Array.getElem?_eq_getElem ae]);have g0:(0:Int)<=(a:Int):=natCast_nonneg _;have g1:(a:Int) < (s.size:Int):=by omega
  unfold inB;rw[decide_eq_true ae,Bool.true_and,e1];by_cases h1:lo<=(s.data[a]'ae).toNat
  ·have iS:lo<=(s[a]'ae).toNat:=h1;rw[decide_eq_true h1,Bool.true_and];by_cases h2:(s.data[a]'ae).toNat<=hi
   ·have fL:(s[a]'ae).toNat<=hi:=h2;rw[decide_eq_true h2]
    go_enter Tryz.func185,Tryz.ntmps185
    go_wp2
    go_quiet (fail)
    go_wp2
    go_ret;exact ⟨rfl,_,rfl⟩
   ·have fL:¬ (s[a]'ae).toNat<=hi:=h2;have h2'':hi < (s[a]'ae).toNat:=by omega
    rw[decide_eq_false h2]
    go_enter Tryz.func185,Tryz.ntmps185
    go_wp2
    go_quiet (fail)
    go_wp2
    go_ret;exact ⟨rfl,_,rfl⟩
  ·have iS:¬ lo<=(s[a]'ae).toNat:=h1;have h1'':(s[a]'ae).toNat < lo:=by omega
   rw[decide_eq_false h1,Bool.false_and]
   go_enter Tryz.func185,Tryz.ntmps185
   go_wp2
   go_quiet (fail)
   go_wp2
   go_ret;exact ⟨rfl,_,rfl⟩
 ·have g1:¬ (a:Int) < (s.size:Int):=by omega
  unfold inB;rw[decide_eq_false ae,Bool.false_and]
  go_enter Tryz.func185,Tryz.ntmps185
  go_wp2
  go_quiet (fail)
  go_wp2
  go_ret;exact ⟨rfl,_,rfl⟩
end Go.Proofs.TryzRead
end
section
namespace Go.Proofs.TryzRead
open Go Go.RowKit Ab
def PostI (rb n1:Nat) (s:ByteArray) (W:World) (v:Value) (r:PR) (e:Ending) (W':World):Prop :=
 match r with
 | .ok i a l=>∃ v',e=.returned (.int .i64 i)∧RI rb n1 s W' a false v' l∧a<=s.size∧Stp (some rb) v W W' v'
 | .bad a=>∃ v' l' z,e=.returned (.int .i64 z)∧RI rb n1 s W' a true v' l'∧a<=s.size∧Stp (some rb) v W W' v'
def zbQ {s:ByteArray} {a:Nat}:inB s a 48 57=dgB (pk s a):=by
 unfold inB dgB;by_cases h:a < s.size
 ·rw[decide_eq_true h,Bool.true_and]
 ·rw[decide_eq_false h,Bool.false_and];have:pk s a=0:=(by unfold pk;rw[getElem?_eq_none (by have:s.data.size=s.size:=rfl;omega)]);rw[this];rfl
def zhH {s:ByteArray} {a:Nat}:inB s a 97 122=ltB (pk s a):=by
 unfold inB ltB;by_cases h:a < s.size
 ·rw[decide_eq_true h,Bool.true_and]
 ·rw[decide_eq_false h,Bool.false_and];have:pk s a=0:=(by unfold pk;rw[getElem?_eq_none (by have:s.data.size=s.size:=rfl;omega)]);rw[this];rfl
def zga {s:ByteArray} {a c:Nat} (hc:0 < c):inB s a c c=decide (pk s a=c):=by
 unfold inB;by_cases h:a < s.size
 ·rw[decide_eq_true h,Bool.true_and,Bool.eq_iff_iff];simp only[and_eq_true,decide_eq_true_eq];omega
 ·rw[decide_eq_false h,Bool.false_and];have:pk s a=0:=(by unfold pk;rw[getElem?_eq_none (by have:s.data.size=s.size:=rfl;omega)]);rw[this,decide_eq_false (by omega)]
section
variable {rb n1:Nat} {s:ByteArray} {W X:World} {a:Nat} {bad:Bool} {v v':Value} {l l':List Ab.Node}
def RI.put {w1:World} (h:RI rb n1 s X a bad v l) (hg:X.grownBy w1 v.ownBlock) (aw:v'.ownBlock=v.ownBlock∨v'.ownBlock=some X.heap.size) (hr:w1.ownsRow n1 185 5 v' l'.length (da l')):RI rb n1 s (w1.setCell ⟨rb,3,none⟩ v') a bad v' l':=by
 have h1:w1.heap[rb]? = some (.cells #[.string s,.int .i64 a,.bool bad,v] 181 (0,0)):=(hg.block rb h.rbs h.ne).trans h.cell;have ak:v'.ownBlock≠some rb:=fun e=>by
  rcases aw with e2 | e2
  ·exact h.ne (e.symm.trans e2)
  ·have:=Option.some.inj (e.symm.trans e2);have:=h.rbs;omega
 refine ⟨?_,hr.kept (row:=some rb) ⟨rfl,rfl,rfl,(KeepsWalks.setCell w1 _ _).size,fun k _ hk=>Below.heap_setCell _ _ _ k fun e=>hk (by rw[e])⟩ (.inr ak),h.lt,le_trans (le_trans h.size hg.size) (KeepsWalks.setCell w1 _ _).size⟩;simp only[World.setCell,getElem?_modify,if_true,h1,map_some];rfl
def yi (w:World) (x:Ab.Node) (T:TypeId) {g:Nat} (hg:g=w.heap.size):∀ j u,(qh x)[j]? = some u->(w.alloc (.cells (qh x).toArray T)).cell? ((⟨g,0,none⟩:Addr).add j)=some u:=by intro j u hj;subst hg;have h:=World.alloc_heap_new w (.cells (qh x).toArray T);rw[Addr.add_lit];simp only[World.cell?,h];simpa using hj
def zbC {W:World} {base e size n:Nat} {v:Value} {xs:List Value} (h:W.ownsRow base e size v n xs) (hn:0 < n):∃ g cap,v=.slice (some ⟨g,0,none⟩) n cap:=by
 rcases h.2 with ⟨_,h0⟩ | ⟨g,cap,_,rfl,_⟩
 ·omega
 ·exact ⟨g,cap,rfl⟩
end
structure NumI (s:ByteArray) (a k i:Nat):Prop where
 at_:i=a+k
 dg:∀ j,j < k->dgB (pk s (a+j))=true
 e:yv s a (8 - k) (a+k)=yv s a 8 a
def NumI.next {s:ByteArray} {a k i:Nat} (h:NumI s a k i) (h7:k < 7) (hd:dgB (pk s i)=true) (hb:¬ (pk s a=48∧0 < k)):NumI s a (k+1) (i+1):=by
 obtain ⟨rfl,h1,h2⟩:=h;refine ⟨by omega,fun j hj => ?_, ?_⟩
 ·by_cases e:j=k
  ·subst e;exact hd
  ·exact h1 j (by omega)
 ·rw[← h2,show 8 - k=(7 - k)+1 by omega,show 8 - (k+1)=7 - k by omega];simp only[yv];rw[if_pos ⟨hd,by omega,by
   by_cases e:k=0
   ·left;omega
   ·right;intro e2;exact hb ⟨e2,by omega⟩⟩]
  rw[Nat.add_assoc]
def NumI.stop {s:ByteArray} {a k i:Nat} (h:NumI s a k i) (h7:k<=7) (hb:dgB (pk s i)=false∨k=7∨(pk s a=48∧0 < k)):yv s a 8 a=i:=by
 obtain ⟨rfl,h1,h2⟩:=h;rw[← h2,show 8 - k=(7 - k)+1 by omega];simp only[yv];rw[if_neg];rintro ⟨c1,c2,c3⟩;rcases hb with hb | hb | hb
 ·rw[c1] at hb;cases hb
 ·omega
 ·rcases c3 with c3 | c3
  ·omega
  ·exact c3 hb.1
def NumI.val {s:ByteArray} {a k i:Nat} (h:NumI s a k i) (h7:k<=7) (hd:dgB (pk s a)=true) (he:yv s a 8 a=i):(zcx (s.extract a (yv s a 8 a))).1=(nvN s a k:Int):=by
 obtain ⟨rfl,h1,h2⟩:=h;rw[he];have h0:0 < k:=by
  refine Nat.pos_of_ne_zero fun e => ?_;subst e;have h3:yv s a 8 a=yv s a 7 (a+1):=by
   show (if _ then _ else _)=_
   rw[if_pos ⟨hd,by omega,.inl rfl⟩]
  have:=(wo s a 7 (a+1)).1;omega
 exact nv_atoi h0 (by omega) h1
def zgj {n n' c:Nat} (h:(n:Int) < 10000000) (hc:48<=c∧c<=57) (e:n'=n * 10+(c - 48)):Value.int .i64 (wrap64 (wrap64 (wrap64 ((n:Int) * 10)+(c:Int)) - 48))=Value.int .i64 (n':Int):=by rw[IntWalk.wrap64_in ((n:Int) * 10) (by omega),IntWalk.wrap64_in ((n:Int) * 10+(c:Int)) (by omega),IntWalk.wrap64_in _ (by omega)];exact congrArg (Value.int .i64) (by omega)
def zjg (w:World) (rb:Nat):Nat:=match w.cell? ⟨rb,1,none⟩ with
 | some (.int _ n)=>n.toNat
 | _=>0
def jx {rb n1:Nat} {s:ByteArray} {W:World} {a:Nat} {bad:Bool} {v:Value} {l:List Ab.Node} (h:RI rb n1 s W a bad v l):zjg W rb=a:=by unfold zjg;rw[h.c1];rfl
def one_num0 {rb n1:Nat} {s:ByteArray} {W:World} {a:Nat} {v:Value} {l:List Ab.Node} (h:RI rb n1 s W a false v l) (hs:s.size<=1000) (hd:dgB (pk s a)=true) (hl:l.length < 1000) (hz:pk s a=48) :
  Calls Tryz.prog 165 #[.pointer (some ⟨rb,0,none⟩)] W fun e W'=>∃ v',e=.returned (.int .i64 l.length)∧RI rb n1 s W' (yv s a 8 a) false v' (l++[⟨1,(zcx (s.extract a (yv s a 8 a))).1,⟨#[]⟩,0,0⟩])∧Stp (some rb) v W W' v':=by
 obtain ⟨i0,hi,bY,bt,bF⟩:=info_parts zkY;have c0:=h.c0;have c1:=h.c1;have ha:=zdb hd;have ct:a<=s.size:=by omega
 have d1:inB s a 48 57=true:=by rw[zbQ];exact hd
 have b4:(a:Int) < (s.size:Int):=by omega
 have lL:((s[a]'ha).toNat:Int)=48:=by have p3:pk s a=(s[a]'ha).toNat:=(zca ha).2;omega
 have gf:=id hz;clear hz
 go_enter Tryz.func165,Tryz.ntmps165
 go_wp2_with (go_at_call 185;go_must (refine (qt (by first | exact h | exact h.drewN _ | exact (h.drewN _).drewN _) hs ct _ _).mono ?_);rintro e X ⟨rfl,q,rfl⟩)
 go_quiet (fail)
 go_wp2_with fail
 go_loopw [8,9] (fun t8 t9 wr=>∃ k i:Nat,k<=7∧t8=.int .i64 (nvN s a k)∧t9=.int .i64 k∧i<=s.size∧RI rb n1 s wr i false v l∧NumI s a k i∧Stp (some rb) v W wr v) (fun _ _ wr=>a+8 - zjg wr rb)
 case atStart=>exact ⟨0,a,by omega,rfl,rfl,ct,(by first | exact h | exact h.drewN _ | exact (h.drewN _).drewN _ | exact ((h.drewN _).drewN _).drewN _),⟨rfl,fun j hj=>by omega,rfl⟩,(by first | exact zQ _ _ _ | exact ze (zQ _ _ _) _ | exact ze (ze (zQ _ _ _) _) _)⟩
 case round =>
  obtain ⟨k,i,eN,rfl,rfl,bP,hR,hN,hS⟩:=hrel;have q0:=hR.c0;have q1:=hR.c1;have q3:=hR.c3;have qf:=hR.fr 1;have qg:=hR.fr 3;have iB:((nvN s a k:Nat):Int) < 10000000:=by
   have hnv:=zjR k hN.dg;have nF:(10:Nat) ^ k<=10 ^ 7:=Nat.pow_le_pow_right (by decide) eN;have nE:(10:Nat) ^ 7=10000000:=by decide
   omega
  have nI:(0:Int)<=((nvN s a k:Nat):Int):=natCast_nonneg _;have k0:(0:Int)<=(k:Int):=natCast_nonneg _;by_cases h7:k < 7
  ·have lJ:(k:Int) < 7:=by omega
   by_cases bq:dgB (pk s i)=true
   ·have d2:inB s i 48 57=true:=by rw[zbQ];exact bq
    have ae:=zdb bq;have b5:(i:Int) < (s.size:Int):=by omega
    have b6:(0:Int)<=(i:Int):=natCast_nonneg _;have b7:(s[i]'ae).toNat < 256:=(s[i]'ae).toNat_lt;have b8:48<=(s[i]'ae).toNat∧(s[i]'ae).toNat<=57:=(by have:=bq;rw[(zca ae).2] at this;simp only[dgB,and_eq_true,decide_eq_true_eq] at this;exact this);have eM:nvN s a (k+1)=nvN s a k * 10+((s[i]'ae).toNat - 48):=(by show nvN s a k * 10+(pk s (a+k) - 48)=_;rw[← hN.at_,(zca ae).2];rfl);by_cases cG:k=0
    ·have oD:=hN.next h7 bq (fun e=>by omega);have k2:(k:Int)<=0:=by omega
     go_wp2_with (go_at_call 185;go_must (refine (qt hR hs bP _ _).mono ?_);rintro e X ⟨rfl,q,rfl⟩)
     go_quiet (fail)
     go_wp2
     go_roundw
     case rel =>
      refine ⟨k+1,i+1,by omega, ?_, ?_,by omega, ?_,oD,zy (ze hS _) (.inr rfl) _⟩
      ·first
        | (subst cG;exact zgj iB b8 eM)
        | exact zgj iB b8 eM
        | (rw[eM];exact congrArg (Value.int .i64) (by omega))
      ·subst cG;rfl
      ·rw[show ((i:Int)+1)=((i+1:Nat):Int) by omega];exact (hR.drewN _).go _
     case measure =>
      have m1:=jx hR;have m2:=fun p=>jx ((hR.drewN p).go (i+1));rw[show ((i+1:Nat):Int)=(i:Int)+1 by omega] at m2;rw[m1,m2];have:=hN.at_;omega
    ·have k3:0 < k:=by omega
     have k2:(0:Int) < (k:Int):=by omega
     have k4:¬ (k:Int)<=0:=by omega
     have k5:decide ((0:Int) < (k:Int))=true:=decide_eq_true k2;clear eM b8 b7 cG b5 b6;have bZ:=hN.stop eN (.inr (.inr ⟨gf,by omega⟩));have hv:=hN.val eN hd bZ;rw[bZ] at hv
     go_wp2_with (first
      | (go_at_call 185;go_must (refine (qt hR hs bP _ _).mono ?_);rintro e X ⟨rfl,q,rfl⟩)
      | (at_builtin;go_loud (refine wpList_append_own_at _ rfl _ _ 134 rfl n1 185 i0 _ 5 48 Tryz.underlying134 hi bY bt bF rfl (by decide) _ _ _ rfl (RI.row (RI.alloc (hR.drewN _) _)) ⟨wr.heap.size,0,none⟩ 1 1 (qh ⟨1,(nvN s a k:Int),⟨#[]⟩,0,0⟩) rfl rfl (yi _ ⟨1,(nvN s a k:Int),⟨#[]⟩,0,0⟩ 185 rfl) (qJ _) (by unfold maxLen;omega) (by omega) (by simp;have:=hR.size;omega) ?_);intro v' w1 ao ab bz aw;obtain ⟨g3,bX,rfl⟩:=zbC ao (succ_pos _);have g0:=(ab.block rb (by simp;have:=hR.rbs;omega) hR.ne).trans (RI.cell (RI.alloc (hR.drewN _) _));have g1:w1.cell? ⟨rb,3,none⟩=some v:=(by simp[World.cell?,g0]);have g2:w1.frozen? ⟨rb,3,none⟩=false:=(by simp[World.frozen?,g0])))
     go_ret
     first
      | exact ⟨_,rfl,by rw[bZ,hv];exact RI.put (RI.alloc (hR.drewN _) _) ab aw (by rw[zL,qC,length_append];exact ao),zy ((zZ (ze hS _) _).trans (qb ab aw)) (.inr rfl) _⟩
      | exact ⟨rfl,_,RI.put (RI.alloc (hR.drewN _) _) ab aw (by rw[zL,qC,length_append];exact ao),zy ((zZ (ze hS _) _).trans (qb ab aw)) (.inr rfl) _⟩
   ·have d2:inB s i 48 57=false:=by rw[zbQ];exact eq_false_iff.2 bq
    have bZ:=hN.stop eN (.inl (eq_false_iff.2 bq));have hv:=hN.val eN hd bZ;rw[bZ] at hv
    go_wp2_with (first
     | (go_at_call 185;go_must (refine (qt hR hs bP _ _).mono ?_);rintro e X ⟨rfl,q,rfl⟩)
     | (at_builtin;go_loud (refine wpList_append_own_at _ rfl _ _ 134 rfl n1 185 i0 _ 5 48 Tryz.underlying134 hi bY bt bF rfl (by decide) _ _ _ rfl (RI.row (RI.alloc (hR.drewN _) _)) ⟨wr.heap.size,0,none⟩ 1 1 (qh ⟨1,(nvN s a k:Int),⟨#[]⟩,0,0⟩) rfl rfl (yi _ ⟨1,(nvN s a k:Int),⟨#[]⟩,0,0⟩ 185 rfl) (qJ _) (by unfold maxLen;omega) (by omega) (by simp;have:=hR.size;omega) ?_);intro v' w1 ao ab bz aw;obtain ⟨g3,bX,rfl⟩:=zbC ao (succ_pos _);have g0:=(ab.block rb (by simp;have:=hR.rbs;omega) hR.ne).trans (RI.cell (RI.alloc (hR.drewN _) _));have g1:w1.cell? ⟨rb,3,none⟩=some v:=(by simp[World.cell?,g0]);have g2:w1.frozen? ⟨rb,3,none⟩=false:=(by simp[World.frozen?,g0])))
    go_ret
    first
     | exact ⟨_,rfl,by rw[bZ,hv];exact RI.put (RI.alloc (hR.drewN _) _) ab aw (by rw[zL,qC,length_append];exact ao),zy ((zZ (ze hS _) _).trans (qb ab aw)) (.inr rfl) _⟩
     | exact ⟨rfl,_,RI.put (RI.alloc (hR.drewN _) _) ab aw (by rw[zL,qC,length_append];exact ao),zy ((zZ (ze hS _) _).trans (qb ab aw)) (.inr rfl) _⟩
  ·have lJ:¬ (k:Int) < 7:=by omega
   have bZ:=hN.stop eN (.inr (.inl (by omega)));have hv:=hN.val eN hd bZ;rw[bZ] at hv
   go_wp2_with (first
    | (go_at_call 185;go_must (refine (qt hR hs bP _ _).mono ?_);rintro e X ⟨rfl,q,rfl⟩)
    | (at_builtin;go_loud (refine wpList_append_own_at _ rfl _ _ 134 rfl n1 185 i0 _ 5 48 Tryz.underlying134 hi bY bt bF rfl (by decide) _ _ _ rfl (RI.row (RI.alloc hR _)) ⟨wr.heap.size,0,none⟩ 1 1 (qh ⟨1,(nvN s a k:Int),⟨#[]⟩,0,0⟩) rfl rfl (yi _ ⟨1,(nvN s a k:Int),⟨#[]⟩,0,0⟩ 185 rfl) (qJ _) (by unfold maxLen;omega) (by omega) (by simp;have:=hR.size;omega) ?_);intro v' w1 ao ab bz aw;obtain ⟨g3,bX,rfl⟩:=zbC ao (succ_pos _);have g0:=(ab.block rb (by simp;have:=hR.rbs;omega) hR.ne).trans (RI.cell (RI.alloc hR _));have g1:w1.cell? ⟨rb,3,none⟩=some v:=(by simp[World.cell?,g0]);have g2:w1.frozen? ⟨rb,3,none⟩=false:=(by simp[World.frozen?,g0])))
   go_ret
   first
    | exact ⟨_,rfl,by rw[bZ,hv];exact RI.put (RI.alloc hR _) ab aw (by rw[zL,qC,length_append];exact ao),zy ((zZ hS _).trans (qb ab aw)) (.inr rfl) _⟩
    | exact ⟨rfl,_,RI.put (RI.alloc hR _) ab aw (by rw[zL,qC,length_append];exact ao),zy ((zZ hS _).trans (qb ab aw)) (.inr rfl) _⟩
def one_num1 {rb n1:Nat} {s:ByteArray} {W:World} {a:Nat} {v:Value} {l:List Ab.Node} (h:RI rb n1 s W a false v l) (hs:s.size<=1000) (hd:dgB (pk s a)=true) (hl:l.length < 1000) (hz:¬ pk s a=48) :
  Calls Tryz.prog 165 #[.pointer (some ⟨rb,0,none⟩)] W fun e W'=>∃ v',e=.returned (.int .i64 l.length)∧RI rb n1 s W' (yv s a 8 a) false v' (l++[⟨1,(zcx (s.extract a (yv s a 8 a))).1,⟨#[]⟩,0,0⟩])∧Stp (some rb) v W W' v':=by
 obtain ⟨i0,hi,bY,bt,bF⟩:=info_parts zkY;have c0:=h.c0;have c1:=h.c1;have ha:=zdb hd;have ct:a<=s.size:=by omega
 have d1:inB s a 48 57=true:=by rw[zbQ];exact hd
 have b4:(a:Int) < (s.size:Int):=by omega
 have lL:¬ ((s[a]'ha).toNat:Int)=48:=by have p3:pk s a=(s[a]'ha).toNat:=(zca ha).2;omega
 have gf:=id hz;clear hz
 go_enter Tryz.func165,Tryz.ntmps165
 go_wp2_with (go_at_call 185;go_must (refine (qt (by first | exact h | exact h.drewN _ | exact (h.drewN _).drewN _) hs ct _ _).mono ?_);rintro e X ⟨rfl,q,rfl⟩)
 go_quiet (fail)
 go_wp2_with fail
 go_loopw [8,9] (fun t8 t9 wr=>∃ k i:Nat,k<=7∧t8=.int .i64 (nvN s a k)∧t9=.int .i64 k∧i<=s.size∧RI rb n1 s wr i false v l∧NumI s a k i∧Stp (some rb) v W wr v) (fun _ _ wr=>a+8 - zjg wr rb)
 case atStart=>exact ⟨0,a,by omega,rfl,rfl,ct,(by first | exact h | exact h.drewN _ | exact (h.drewN _).drewN _ | exact ((h.drewN _).drewN _).drewN _),⟨rfl,fun j hj=>by omega,rfl⟩,(by first | exact zQ _ _ _ | exact ze (zQ _ _ _) _ | exact ze (ze (zQ _ _ _) _) _)⟩
 case round =>
  obtain ⟨k,i,eN,rfl,rfl,bP,hR,hN,hS⟩:=hrel;have q0:=hR.c0;have q1:=hR.c1;have q3:=hR.c3;have qf:=hR.fr 1;have qg:=hR.fr 3;have iB:((nvN s a k:Nat):Int) < 10000000:=by
   have hnv:=zjR k hN.dg;have nF:(10:Nat) ^ k<=10 ^ 7:=Nat.pow_le_pow_right (by decide) eN;have nE:(10:Nat) ^ 7=10000000:=by decide
   omega
  have nI:(0:Int)<=((nvN s a k:Nat):Int):=natCast_nonneg _;have k0:(0:Int)<=(k:Int):=natCast_nonneg _;by_cases h7:k < 7
  ·have lJ:(k:Int) < 7:=by omega
   by_cases bq:dgB (pk s i)=true
   ·have d2:inB s i 48 57=true:=by rw[zbQ];exact bq
    have ae:=zdb bq;have b5:(i:Int) < (s.size:Int):=by omega
    have b6:(0:Int)<=(i:Int):=natCast_nonneg _;have b7:(s[i]'ae).toNat < 256:=(s[i]'ae).toNat_lt;have b8:48<=(s[i]'ae).toNat∧(s[i]'ae).toNat<=57:=(by have:=bq;rw[(zca ae).2] at this;simp only[dgB,and_eq_true,decide_eq_true_eq] at this;exact this);have eM:nvN s a (k+1)=nvN s a k * 10+((s[i]'ae).toNat - 48):=(by show nvN s a k * 10+(pk s (a+k) - 48)=_;rw[← hN.at_,(zca ae).2];rfl);have oD:=hN.next h7 bq (fun e=>gf e.1)
    go_wp2_with (go_at_call 185;go_must (refine (qt hR hs bP _ _).mono ?_);rintro e X ⟨rfl,q,rfl⟩)
    go_quiet (fail)
    go_wp2
    go_roundw
    case rel =>
     refine ⟨k+1,i+1,by omega, ?_, ?_,by omega, ?_,oD,zy (ze hS _) (.inr rfl) _⟩
     ·first
       | (subst cG;exact zgj iB b8 eM)
       | exact zgj iB b8 eM
       | (rw[eM];exact congrArg (Value.int .i64) (by omega))
     ·rfl
     ·rw[show ((i:Int)+1)=((i+1:Nat):Int) by omega];exact (hR.drewN _).go _
    case measure =>
     have m1:=jx hR;have m2:=fun p=>jx ((hR.drewN p).go (i+1));rw[show ((i+1:Nat):Int)=(i:Int)+1 by omega] at m2;rw[m1,m2];have:=hN.at_;omega
   ·have d2:inB s i 48 57=false:=by rw[zbQ];exact eq_false_iff.2 bq
    have bZ:=hN.stop eN (.inl (eq_false_iff.2 bq));have hv:=hN.val eN hd bZ;rw[bZ] at hv
    go_wp2_with (first
     | (go_at_call 185;go_must (refine (qt hR hs bP _ _).mono ?_);rintro e X ⟨rfl,q,rfl⟩)
     | (at_builtin;go_loud (refine wpList_append_own_at _ rfl _ _ 134 rfl n1 185 i0 _ 5 48 Tryz.underlying134 hi bY bt bF rfl (by decide) _ _ _ rfl (RI.row (RI.alloc (hR.drewN _) _)) ⟨wr.heap.size,0,none⟩ 1 1 (qh ⟨1,(nvN s a k:Int),⟨#[]⟩,0,0⟩) rfl rfl (yi _ ⟨1,(nvN s a k:Int),⟨#[]⟩,0,0⟩ 185 rfl) (qJ _) (by unfold maxLen;omega) (by omega) (by simp;have:=hR.size;omega) ?_);intro v' w1 ao ab bz aw;obtain ⟨g3,bX,rfl⟩:=zbC ao (succ_pos _);have g0:=(ab.block rb (by simp;have:=hR.rbs;omega) hR.ne).trans (RI.cell (RI.alloc (hR.drewN _) _));have g1:w1.cell? ⟨rb,3,none⟩=some v:=(by simp[World.cell?,g0]);have g2:w1.frozen? ⟨rb,3,none⟩=false:=(by simp[World.frozen?,g0])))
    go_ret
    first
     | exact ⟨_,rfl,by rw[bZ,hv];exact RI.put (RI.alloc (hR.drewN _) _) ab aw (by rw[zL,qC,length_append];exact ao),zy ((zZ (ze hS _) _).trans (qb ab aw)) (.inr rfl) _⟩
     | exact ⟨rfl,_,RI.put (RI.alloc (hR.drewN _) _) ab aw (by rw[zL,qC,length_append];exact ao),zy ((zZ (ze hS _) _).trans (qb ab aw)) (.inr rfl) _⟩
  ·have lJ:¬ (k:Int) < 7:=by omega
   have bZ:=hN.stop eN (.inr (.inl (by omega)));have hv:=hN.val eN hd bZ;rw[bZ] at hv
   go_wp2_with (first
    | (go_at_call 185;go_must (refine (qt hR hs bP _ _).mono ?_);rintro e X ⟨rfl,q,rfl⟩)
    | (at_builtin;go_loud (refine wpList_append_own_at _ rfl _ _ 134 rfl n1 185 i0 _ 5 48 Tryz.underlying134 hi bY bt bF rfl (by decide) _ _ _ rfl (RI.row (RI.alloc hR _)) ⟨wr.heap.size,0,none⟩ 1 1 (qh ⟨1,(nvN s a k:Int),⟨#[]⟩,0,0⟩) rfl rfl (yi _ ⟨1,(nvN s a k:Int),⟨#[]⟩,0,0⟩ 185 rfl) (qJ _) (by unfold maxLen;omega) (by omega) (by simp;have:=hR.size;omega) ?_);intro v' w1 ao ab bz aw;obtain ⟨g3,bX,rfl⟩:=zbC ao (succ_pos _);have g0:=(ab.block rb (by simp;have:=hR.rbs;omega) hR.ne).trans (RI.cell (RI.alloc hR _));have g1:w1.cell? ⟨rb,3,none⟩=some v:=(by simp[World.cell?,g0]);have g2:w1.frozen? ⟨rb,3,none⟩=false:=(by simp[World.frozen?,g0])))
   go_ret
   first
    | exact ⟨_,rfl,by rw[bZ,hv];exact RI.put (RI.alloc hR _) ab aw (by rw[zL,qC,length_append];exact ao),zy ((zZ hS _).trans (qb ab aw)) (.inr rfl) _⟩
    | exact ⟨rfl,_,RI.put (RI.alloc hR _) ab aw (by rw[zL,qC,length_append];exact ao),zy ((zZ hS _).trans (qb ab aw)) (.inr rfl) _⟩
end Go.Proofs.TryzRead
end
section
namespace Go.Proofs.TryzRead
open Go Go.RowKit Ab
def oneI_name {rb n1:Nat} {s:ByteArray} {W:World} {a:Nat} {v:Value} {l:List Ab.Node} (h:RI rb n1 s W a false v l) (hs:s.size<=1000) (hd:dgB (pk s a)=false) (ae:ltB (pk s a)=true) (hl:l.length < 1000) :
  Calls Tryz.prog 165 #[.pointer (some ⟨rb,0,none⟩)] W fun e W'=>∃ v',e=.returned (.int .i64 l.length)∧RI rb n1 s W' (bM s (s.size+1) a) false v' (l++[⟨2,0,s.extract a (bM s (s.size+1) a),0,0⟩])∧Stp (some rb) v W W' v':=by
 obtain ⟨i0,hi,bY,bt,bF⟩:=info_parts zkY;have c0:=h.c0;have c1:=h.c1;have ha:=lt_lt ae;have ct:a<=s.size:=by omega
 have d1:inB s a 48 57=false:=by rw[zbQ];exact hd
 have d2:inB s a 97 122=true:=by rw[zhH];exact ae
 go_enter Tryz.func165,Tryz.ntmps165
 go_wp2_with (go_at_call 185;go_must (refine (qt (by first | exact h | exact h.drewN _ | exact (h.drewN _).drewN _) hs ct _ _).mono ?_);rintro e X ⟨rfl,q,rfl⟩)
 go_loopw [86] (fun _ wr=>∃ (i f:Nat),a<=i∧i+f=a+(s.size+1)∧i<=s.size∧RI rb n1 s wr i false v l∧bM s f i=bM s (s.size+1) a∧Stp (some rb) v W wr v) (fun _ wr=>a+(s.size+1) - zjg wr rb)
 case atStart=>exact ⟨a,s.size+1,le_refl _,rfl,ct,(by first | exact h | exact h.drewN _ | exact (h.drewN _).drewN _ | exact ((h.drewN _).drewN _).drewN _),rfl,(by first | exact zQ _ _ _ | exact ze (zQ _ _ _) _ | exact ze (ze (zQ _ _ _) _) _)⟩
 case round =>
  obtain ⟨i,f,rr,rh,fD,hR,hE,hS⟩:=hrel;have q0:=hR.c0;have q1:=hR.c1;have q3:=hR.c3;have qf:=hR.fr 1;have qg:=hR.fr 3;obtain ⟨f,rfl⟩:∃ f',f=f'+1:=⟨f - 1,by omega⟩;by_cases bq:ltB (pk s i)=true
  ·have di:bM s f (i+1)=bM s (s.size+1) a:=(by rw[← hE];simp only[bM];rw[if_pos bq]);have d3:inB s i 97 122=true:=by rw[zhH];exact bq
   clear hE
   go_wp2_with (go_at_call 185;go_must (refine (qt hR hs fD _ _).mono ?_);rintro e X ⟨rfl,q,rfl⟩)
   go_roundw
   case rel =>
    refine ⟨i+1,f,by omega,by omega,lt_lt bq, ?_,di,zy (ze hS _) (.inr rfl) _⟩;rw[show ((i:Int)+1)=((i+1:Nat):Int) by omega];exact (hR.drewN _).go _
   case measure =>
    have m1:=jx hR;have m2:=fun p=>jx ((hR.drewN p).go (i+1));rw[show ((i+1:Nat):Int)=(i:Int)+1 by omega] at m2;rw[m1,m2];omega
  ·rw[not_eq_true] at bq;have bZ:bM s (s.size+1) a=i:=(by rw[← hE];simp only[bM];rw[if_neg (by rw[bq];simp)]);have d3:inB s i 97 122=false:=by rw[zhH];exact bq
   clear hE;have b0:(0:Int)<=(a:Int):=natCast_nonneg _;have b1:(a:Int)<=(i:Int):=by omega
   have b2:(i:Int)<=(s.size:Int):=by omega
   go_wp2_with (go_at_call 185;go_must (refine (qt hR hs fD _ _).mono ?_);rintro e X ⟨rfl,q,rfl⟩)
   have pT:=hR.rbs;have ak:=hR.ne;have aM:=hR.size;have A0:∀ o,((wr.drewN (q+1)).alloc o).cell? ⟨rb,0,none⟩=some (.string s):=fun o=>RI.c0 ((hR.drewN _).alloc o);have A1:∀ o,((wr.drewN (q+1)).alloc o).cell? ⟨rb,1,none⟩=some (.int .i64 i):=fun o=>RI.c1 ((hR.drewN _).alloc o);have A3:∀ o,((wr.drewN (q+1)).alloc o).cell? ⟨rb,3,none⟩=some v:=fun o=>RI.c3 ((hR.drewN _).alloc o)
   go_region_law (((refine step_append_lies _ (by rfl) _ _ _ (by rfl) n1 185 i0 _ 5 48 Tryz.underlying134 hi bY bt bF rfl (by omega) v l.length (da l) (by rfl) (RI.row (RI.alloc (hR.drewN (q+1)) _)) ⟨wr.heap.size,0,none⟩ 1 1 (qh ⟨2,0,s.extract a i,0,0⟩) (by rfl) (by rfl) (World.news_of_block (cs:=(qh ⟨2,0,s.extract a i,0,0⟩).toArray) (t:=185) (fr:=(0,0)) (World.alloc_heap_new (wr.drewN (q+1)) _)) (qJ _) (by omega) (by unfold maxLen;omega) (by omega) (by have:=hR.size;simp<;>omega) (wr.heap.size+1) (by simp) ?_;intro gg cap w1 fq ab aw gk;have g0:=(ab.block rb (by have:=hR.rbs;simp<;>omega) hR.ne).trans (RI.cell (RI.alloc (hR.drewN (q+1)) _));have g1:w1.cell? ⟨rb,3,none⟩=some v:=(by simp[World.cell?,g0]);have g2:w1.frozen? ⟨rb,3,none⟩=false:=(by simp[World.frozen?,g0]))))
   all_goals go_wp2
   all_goals go_ret
   all_goals
    have aJ:(Value.slice (some ⟨gg,0,none⟩) (l.length+1) cap).ownBlock=v.ownBlock∨(Value.slice (some ⟨gg,0,none⟩) (l.length+1) cap).ownBlock=some ((wr.drewN (q+1)).alloc (.cells (qh ⟨2,0,s.extract a i,0,0⟩).toArray 185)).heap.size:=aw.imp (fun e=>e.symm) fun e=>by rw[e];simp[Value.ownBlock]
    have bG:=RI.put (l':=l++[⟨2,0,s.extract a i,0,0⟩]) (RI.alloc (hR.drewN (q+1)) _) ab aJ (by rw[zL,qC,length_append];exact fq);have cD:=zy ((zZ (ze hS (q+1)) _).trans (qb ab aJ)) (p:=⟨rb,3,none⟩) (.inr rfl) (.slice (some ⟨gg,0,none⟩) (l.length+1) cap)
    first
     | exact ⟨_,rfl,by rw[bZ];exact bG,cD⟩
     | exact ⟨rfl,_,bG,cD⟩
def qw (o:Int) (h:o=3∨o=4∨o=5∨o=6) (W:World):Calls Tryz.prog 166 #[.int .i64 o] W fun e W'=>e=.returned (.int .i64 (if o=3∨o=4 then 1 else 2))∧W'=W:=by
 rcases h with rfl | rfl | rfl | rfl
 all_goals
  go_enter Tryz.func166,Tryz.ntmps166
  go_wp2
  go_ret;exact ⟨rfl,rfl⟩
def OneC (rb n1:Nat) (s:ByteArray) (f:Nat) (m:Md):Prop:=∀ (W:World) (a:Nat) (v:Value) (l:List Ab.Node) (r:PR),rd s f m a l=some r->RI rb n1 s W a false v l->a<=s.size ->
 Calls Tryz.prog 165 #[.pointer (some ⟨rb,0,none⟩)] W (PostI rb n1 s W v r)
def SumC (rb n1:Nat) (s:ByteArray) (k:Int) (f:Nat) (m:Md):Prop:=∀ (W:World) (a:Nat) (v:Value) (l:List Ab.Node) (r:PR),rd s f m a l=some r->RI rb n1 s W a false v l->a<=s.size ->
 Calls Tryz.prog 131 #[.pointer (some ⟨rb,0,none⟩),.int .i64 k] W (PostI rb n1 s W v r)
def oneI_bad {rb n1:Nat} {s:ByteArray} {W:World} {a:Nat} {v:Value} {l:List Ab.Node} (h:RI rb n1 s W a false v l) (hs:s.size<=1000) (ha:a<=s.size) (hd:dgB (pk s a)=false) (ae:ltB (pk s a)=false) (dK:pk s a≠40) :
  Calls Tryz.prog 165 #[.pointer (some ⟨rb,0,none⟩)] W (PostI rb n1 s W v (.bad a)):=by
 have c1:=h.c1;have c2:=h.c2;have f2:=h.fr 2;have d1:inB s a 48 57=false:=by rw[zbQ];exact hd
 have d2:inB s a 97 122=false:=by rw[zhH];exact ae
 have d3:inB s a 40 40=false:=by rw[zga (by decide)];exact decide_eq_false dK
 go_enter Tryz.func165,Tryz.ntmps165
 go_wp2_with (go_at_call 185;go_must (refine (qt (by first | exact h | exact h.drewN _ | exact (h.drewN _).drewN _) hs ha _ _).mono ?_);rintro e X ⟨rfl,q,rfl⟩)
 go_ret;exact ⟨v,l,0,rfl,by first | exact h.wrong true | exact (h.drewN _).wrong true,ha,zy (p:=⟨rb,2,none⟩) (by first | exact zQ _ _ _ | exact ze (zQ _ _ _) _) (.inr rfl) _⟩
def zkU {rb n1:Nat} {s:ByteArray} (hs:s.size<=1000) {f:Nat} (dP:SumC rb n1 s 1 f (.row true)):OneC rb n1 s (f+1) .one:=by
 intro W a v l r hr h ha;simp only[rd] at hr;split at hr
 ·cases hr
 rename_i hl;have hl:l.length < 1000:=by omega
 by_cases hd:dgB (pk s a)=true
 ·rw[if_pos hd] at hr;cases hr;by_cases hz:pk s a=48
  ·refine (one_num0 h hs hd hl hz).mono ?_;rintro e Y ⟨v',rfl,hY,sY⟩;exact ⟨v',rfl,hY,(wo s a 8 a).2.2.2 ha,sY⟩
  ·refine (one_num1 h hs hd hl hz).mono ?_;rintro e Y ⟨v',rfl,hY,sY⟩;exact ⟨v',rfl,hY,(wo s a 8 a).2.2.2 ha,sY⟩
 rw[if_neg hd] at hr;rw[not_eq_true] at hd;by_cases ae:ltB (pk s a)=true
 ·rw[if_pos ae] at hr;cases hr;refine (oneI_name h hs hd ae hl).mono ?_;rintro e Y ⟨v',rfl,hY,sY⟩;exact ⟨v',rfl,hY,(zcg s (s.size+1) a).2.2 ha,sY⟩
 rw[if_neg ae] at hr;rw[not_eq_true] at ae;by_cases dK:pk s a≠40
 ·rw[if_pos dK] at hr;cases hr;exact oneI_bad h hs ha hd ae dK
 rw[if_neg dK] at hr;have dK:pk s a=40:=Decidable.byContradiction dK;have d1:inB s a 48 57=false:=by rw[zbQ];exact hd
 have d2:inB s a 97 122=false:=by rw[zhH];exact ae
 have d3:inB s a 40 40=true:=by rw[zga (by decide)];exact decide_eq_true dK
 have c1:=h.c1;have cf:=h.fr 1;have fJ:a+1<=s.size:=zdR (by omega);have hE:(match rd s f (.row true) (a+1) l with | some (.ok i a l')=>if pk s a≠41 then some (PR.bad a) else some (.ok i (a+1) l') | r=>r)=some r:=hr
 cases au:rd s f (.row true) (a+1) l with
 | none=>rw[au] at hE;cases hE
 | some r0 =>
  rw[au] at hE;cases r0 with
  | bad b =>
   cases hE
   go_enter Tryz.func165,Tryz.ntmps165
   go_wp2_with (first
    | (go_at_call 185;refine (in_bad hY _ _).mono ?_;rintro e Z ⟨rfl,q2,rfl⟩;have z2:=(hY.drewN q2).c2;have zf:=(hY.drewN q2).fr 2)
    | (go_at_call 185;go_must (refine (qt (by first | exact h | exact h.drewN _ | exact (h.drewN _).drewN _) hs ha _ _).mono ?_);rintro e X ⟨rfl,q,rfl⟩)
    | (go_at_call 131;go_must (refine (dP _ _ _ _ _ au (by first | exact h.go (a+1) | exact (h.drewN _).go (a+1)) fJ).mono ?_);rintro e Y ⟨v',l',z,rfl,hY,hb,sY⟩))
   go_ret;exact ⟨v',l',0,rfl,(hY.drewN _).wrong true,hb,zy (p:=⟨rb,2,none⟩) (ze ((zy (p:=⟨rb,1,none⟩) (by first | exact zQ _ _ _ | exact ze (zQ _ _ _) _) (.inr rfl) _).trans sY) _) (.inr rfl) _⟩
  | ok i b l' =>
   simp only at hE;by_cases fY:pk s b≠41
   ·rw[if_pos fY] at hE;cases hE;have d4:inB s b 41 41=false:=by rw[zga (by decide)];exact decide_eq_false fY
    go_enter Tryz.func165,Tryz.ntmps165
    go_wp2_with (first
     | (go_at_call 185;refine (qt hY hs hb _ _).mono ?_;rintro e Z ⟨rfl,q2,rfl⟩;have z2:=(hY.drewN q2).c2;have zf:=(hY.drewN q2).fr 2)
     | (go_at_call 185;go_must (refine (qt (by first | exact h | exact h.drewN _ | exact (h.drewN _).drewN _) hs ha _ _).mono ?_);rintro e X ⟨rfl,q,rfl⟩)
     | (go_at_call 131;go_must (refine (dP _ _ _ _ _ au (by first | exact h.go (a+1) | exact (h.drewN _).go (a+1)) fJ).mono ?_);rintro e Y ⟨v',rfl,hY,hb,sY⟩))
    go_ret;exact ⟨v',l',0,rfl,(hY.drewN _).wrong true,hb,zy (p:=⟨rb,2,none⟩) (ze ((zy (p:=⟨rb,1,none⟩) (by first | exact zQ _ _ _ | exact ze (zQ _ _ _) _) (.inr rfl) _).trans sY) _) (.inr rfl) _⟩
   ·rw[if_neg fY] at hE;cases hE;have g1:pk s b=41:=Decidable.byContradiction fY;have d4:inB s b 41 41=true:=by rw[zga (by decide)];exact decide_eq_true g1
    go_enter Tryz.func165,Tryz.ntmps165
    go_wp2_with (first
     | (go_at_call 185;refine (qt hY hs hb _ _).mono ?_;rintro e Z ⟨rfl,q2,rfl⟩;have z1:=(hY.drewN q2).c1;have zf:=(hY.drewN q2).fr 1)
     | (go_at_call 185;go_must (refine (qt (by first | exact h | exact h.drewN _ | exact (h.drewN _).drewN _) hs ha _ _).mono ?_);rintro e X ⟨rfl,q,rfl⟩)
     | (go_at_call 131;go_must (refine (dP _ _ _ _ _ au (by first | exact h.go (a+1) | exact (h.drewN _).go (a+1)) fJ).mono ?_);rintro e Y ⟨v',rfl,hY,hb,sY⟩))
    go_ret;exact ⟨v',rfl,(hY.drewN _).go (b+1),zdR (by omega),zy (p:=⟨rb,1,none⟩) (ze ((zy (p:=⟨rb,1,none⟩) (by first | exact zQ _ _ _ | exact ze (zQ _ _ _) _) (.inr rfl) _).trans sY) _) (.inr rfl) _⟩
def zkF {rb n1:Nat} {s:ByteArray} {f:Nat} (h1:OneC rb n1 s f .one):SumC rb n1 s 3 f .one:=by
 intro W a v l r hr h ha;have hc:=h1 W a v l r hr h ha
 go_enter Tryz.func131,Tryz.ntmps131
 cases r with
 | bad b =>
  go_wp2_with (go_at_call 165;go_must (refine hc.mono ?_);rintro e Y ⟨v',l',z,rfl,hY,hb,sY⟩)
  go_ret;exact ⟨v',l',z,rfl,hY,hb,sY⟩
 | ok i b l' =>
  go_wp2_with (go_at_call 165;go_must (refine hc.mono ?_);rintro e Y ⟨v',rfl,hY,hb,sY⟩)
  go_ret;exact ⟨v',rfl,hY,hb,sY⟩
end Go.Proofs.TryzRead
end
section
namespace Go.Proofs.TryzRead
open Go Go.RowKit Ab
def byte_at {s:ByteArray} {i c:Nat} (h:i < s.size) (hc:pk s i=c):((s[i]'h).toNat:Int)=(c:Int):=by have:=(zca h).2;have p3:pk s i=(s[i]'h).toNat:=this;omega
def w7 {s:ByteArray} {i c:Nat} (h:i < s.size) (hc:pk s i≠c):¬ ((s[i]'h).toNat:Int)=(c:Int):=by have p3:pk s i=(s[i]'h).toNat:=(zca h).2;omega
def zaz {s:ByteArray} {i c:Nat} (h:i < s.size) (hc:pk s i≠c):(((s[i]'h).toNat:Int) == (c:Int))=false:=by have:=w7 h hc;simpa using this
def zkE {rb n1:Nat} {s:ByteArray} (hs:s.size<=1000) {f:Nat} (au:∀ k,k<=f->SumC rb n1 s 3 k (zbv false)):SumC rb n1 s 2 (f+1) (.row false):=by
 obtain ⟨i0,hi,bY,bt,bF⟩:=info_parts zkY;intro W a v l r hr h ha;simp only[rd] at hr;have hE:(match rd s f (zbv false) a l with | some (.ok i a l')=>rd s f (.more false i) a l' | r=>r)=some r:=hr
 cases dq:rd s f (zbv false) a l with
 | none=>rw[dq] at hE;cases hE
 | some r0 =>
 rw[dq] at hE;have fX:=au f (le_refl _) _ _ _ _ _ dq h ha;cases r0 with
 | bad b =>
  cases hE
  go_enter Tryz.func131,Tryz.ntmps131
  go_wp2_with (go_at_call 131;go_must (refine fX.mono ?_);rintro e Y ⟨v',l',z,rfl,fK,ca,sY0⟩)
  go_loopw [5] (fun t5 wr=>t5=.int .i64 z∧RI rb n1 s wr b true v' l'∧Stp (some rb) v W wr v') (fun _ wr=>0)
  case atStart=>exact ⟨rfl,fK,sY0⟩
  case round =>
   obtain ⟨rfl,hR,hS⟩:=hrel;have q2:=hR.c2
   go_wp2_with fail
   go_quiet (fail)
   go_wp2_with fail
   go_ret;exact ⟨v',l',z,rfl,hR.drewN _,ca,ze hS _⟩
 | ok mY b0 l0 =>
 go_enter Tryz.func131,Tryz.ntmps131
 go_wp2_with (go_at_call 131;go_must (refine fX.mono ?_);rintro e Y ⟨v',rfl,fK,ca,sY0⟩)
 go_loopw [5] (fun t5 wr=>∃ (k i at_:Nat) (l1:List Ab.Node) (v1:Value),t5=.int .i64 i∧k<=f∧rd s k (.more false i) at_ l1=some r∧at_<=s.size∧RI rb n1 s wr at_ false v1 l1∧Stp (some rb) v W wr v1) (fun _ wr=>s.size - zjg wr rb)
 case atStart=>exact ⟨f,mY,b0,l0,v',rfl,le_refl _,hE,ca,fK,sY0⟩
 case round =>
  obtain ⟨k,i,at_,l1,v1,rfl,nM,hm,aw,hR,hS⟩:=hrel;have q0:=hR.c0;have q1:=hR.c1;have q2:=hR.c2;have q3:=hR.c3;have qf:=hR.fr 1;have qg:=hR.fr 3;have b6:(0:Int)<=(at_:Int):=natCast_nonneg _;obtain ⟨k,rfl⟩:∃ k',k=k'+1:=by
   cases k with
   | zero=>cases hm
   | succ k=>exact ⟨k,rfl⟩
  simp only[rd] at hm;by_cases ae:at_ < s.size
  ·have b5:(at_:Int) < (s.size:Int):=by omega
   have b7:(s[at_]'ae).toNat < 256:=(s[at_]'ae).toNat_lt;by_cases cX:pk s at_=42
   ·have aW:jC false (pk s at_)=true:=by rw[cX];rfl
    rw[if_neg (by rw[aW];simp),cX] at hm;have aJ:at_+1<=s.size:=by omega
    have ec:=byte_at ae cX;clear aW  cX;cases ax:rd s k (zbv false) (at_+1) l1 with
    | none=>rw[ax] at hm;cases hm
    | some r1 =>
     rw[ax] at hm;have eo:=fun p=>au k (by omega) _ _ _ _ _ ax ((hR.drewN p).go (at_+1)) aJ;cases r1 with
     | bad b =>
      cases hm
      go_wp2_with fail
      go_quiet (fail)
      go_wp2_with fail
      go_quiet (fail)
      go_wp2_with (first
       | (go_at_call 166;go_must (refine (qw _ (by decide) _).mono ?_);rintro e X ⟨rfl,rfl⟩)
       | (go_at_call 131;go_must (refine (eo _).mono ?_);rintro e Y ⟨v2,l2,z,rfl,hY,hb,sY⟩;have y2:=hY.c2))
      go_ret;exact ⟨v2,l2,_,rfl,hY,hb,(zy (p:=⟨rb,1,none⟩) (ze hS _) (.inr rfl) _).trans sY⟩
     | ok j b l2 =>
      simp only at hm;split at hm
      ·cases hm
      rename_i bU;have bU:l2.length < 1000:=by omega
      go_wp2_with fail
      go_quiet (fail)
      go_wp2_with fail
      go_quiet (fail)
      go_wp2_with (first
       | (go_at_call 166;go_must (refine (qw _ (by decide) _).mono ?_);rintro e X ⟨rfl,rfl⟩)
       | (go_at_call 131;go_must (refine (eo _).mono ?_);rintro e Y ⟨v2,rfl,hY,hb,sY⟩;have y2:=hY.c2;have y3:=hY.c3)
       | (at_builtin;go_loud (refine wpList_append_own_at _ rfl _ _ 134 rfl n1 185 i0 _ 5 48 Tryz.underlying134 hi bY bt bF rfl (by decide) _ _ _ rfl (RI.row (RI.alloc hY _)) ⟨Y.heap.size,0,none⟩ 1 1 (qh ⟨5,0,⟨#[]⟩,(i:Int),(j:Int)⟩) rfl rfl (yi _ ⟨5,0,⟨#[]⟩,(i:Int),(j:Int)⟩ 185 rfl) (qJ _) (by unfold maxLen;omega) (by omega) (by simp;have:=hY.size;omega) ?_);intro v3 w1 ao ab bz cr;obtain ⟨g3,bX,rfl⟩:=zbC ao (succ_pos _);have g0:=(ab.block rb (by simp;have:=hY.rbs;omega) hY.ne).trans (RI.cell (RI.alloc hY _));have g1:w1.cell? ⟨rb,3,none⟩=some v2:=(by simp[World.cell?,g0]);have g2:w1.frozen? ⟨rb,3,none⟩=false:=(by simp[World.frozen?,g0])))
      have bG:=RI.put (l':=l2++[⟨5,0,⟨#[]⟩,(i:Int),(j:Int)⟩]) (RI.alloc hY _) ab cr (by rw[zL,qC,length_append];exact ao);have cD:=zy ((zZ ((zy (p:=⟨rb,1,none⟩) (ze hS _) (.inr rfl) _).trans sY) _).trans (qb ab cr)) (p:=⟨rb,3,none⟩) (.inr rfl) (.slice (some ⟨g3,0,none⟩) (l2.length+1) bX)
      go_roundw
      case rel=>exact ⟨k,l2.length,b,_,_,rfl,by omega,hm,hb,bG,cD⟩
      case measure =>
       have m1:=jx hR;have m2:=jx bG;have:=eG s k _ _ _ _ _ _ ax;rw[m1,m2];omega
   by_cases dC:pk s at_=47
   ·have aW:jC false (pk s at_)=true:=by rw[dC];rfl
    rw[if_neg (by rw[aW];simp),dC] at hm;have aJ:at_+1<=s.size:=by omega
    have ec:=byte_at ae dC;clear aW cX dC;cases ax:rd s k (zbv false) (at_+1) l1 with
    | none=>rw[ax] at hm;cases hm
    | some r1 =>
     rw[ax] at hm;have eo:=fun p=>au k (by omega) _ _ _ _ _ ax ((hR.drewN p).go (at_+1)) aJ;cases r1 with
     | bad b =>
      cases hm
      go_wp2_with fail
      go_quiet (fail)
      go_wp2_with fail
      go_quiet (fail)
      go_wp2_with (first
       | (go_at_call 166;go_must (refine (qw _ (by decide) _).mono ?_);rintro e X ⟨rfl,rfl⟩)
       | (go_at_call 131;go_must (refine (eo _).mono ?_);rintro e Y ⟨v2,l2,z,rfl,hY,hb,sY⟩;have y2:=hY.c2))
      go_ret;exact ⟨v2,l2,_,rfl,hY,hb,(zy (p:=⟨rb,1,none⟩) (ze hS _) (.inr rfl) _).trans sY⟩
     | ok j b l2 =>
      simp only at hm;split at hm
      ·cases hm
      rename_i bU;have bU:l2.length < 1000:=by omega
      go_wp2_with fail
      go_quiet (fail)
      go_wp2_with fail
      go_quiet (fail)
      go_wp2_with (first
       | (go_at_call 166;go_must (refine (qw _ (by decide) _).mono ?_);rintro e X ⟨rfl,rfl⟩)
       | (go_at_call 131;go_must (refine (eo _).mono ?_);rintro e Y ⟨v2,rfl,hY,hb,sY⟩;have y2:=hY.c2;have y3:=hY.c3)
       | (at_builtin;go_loud (refine wpList_append_own_at _ rfl _ _ 134 rfl n1 185 i0 _ 5 48 Tryz.underlying134 hi bY bt bF rfl (by decide) _ _ _ rfl (RI.row (RI.alloc hY _)) ⟨Y.heap.size,0,none⟩ 1 1 (qh ⟨6,0,⟨#[]⟩,(i:Int),(j:Int)⟩) rfl rfl (yi _ ⟨6,0,⟨#[]⟩,(i:Int),(j:Int)⟩ 185 rfl) (qJ _) (by unfold maxLen;omega) (by omega) (by simp;have:=hY.size;omega) ?_);intro v3 w1 ao ab bz cr;obtain ⟨g3,bX,rfl⟩:=zbC ao (succ_pos _);have g0:=(ab.block rb (by simp;have:=hY.rbs;omega) hY.ne).trans (RI.cell (RI.alloc hY _));have g1:w1.cell? ⟨rb,3,none⟩=some v2:=(by simp[World.cell?,g0]);have g2:w1.frozen? ⟨rb,3,none⟩=false:=(by simp[World.frozen?,g0])))
      have bG:=RI.put (l':=l2++[⟨6,0,⟨#[]⟩,(i:Int),(j:Int)⟩]) (RI.alloc hY _) ab cr (by rw[zL,qC,length_append];exact ao);have cD:=zy ((zZ ((zy (p:=⟨rb,1,none⟩) (ze hS _) (.inr rfl) _).trans sY) _).trans (qb ab cr)) (p:=⟨rb,3,none⟩) (.inr rfl) (.slice (some ⟨g3,0,none⟩) (l2.length+1) bX)
      go_roundw
      case rel=>exact ⟨k,l2.length,b,_,_,rfl,by omega,hm,hb,bG,cD⟩
      case measure =>
       have m1:=jx hR;have m2:=jx bG;have:=eG s k _ _ _ _ _ _ ax;rw[m1,m2];omega
   by_cases cW:pk s at_=43
   ·have aH:jC false (pk s at_)=false:=by rw[cW];rfl
    rw[if_pos aH] at hm;cases hm;have ec:=byte_at ae cW;clear aH cX dC cW
    go_wp2_with fail
    go_quiet (fail)
    go_wp2_with fail
    go_quiet (fail)
    go_wp2_with (go_at_call 166;go_must (refine (qw _ (by decide) _).mono ?_);rintro e X ⟨rfl,rfl⟩)
    go_ret;exact ⟨v1,rfl,hR.drewN _,aw,ze hS _⟩
   by_cases dD:pk s at_=45
   ·have aH:jC false (pk s at_)=false:=by rw[dD];rfl
    rw[if_pos aH] at hm;cases hm;have ec:=byte_at ae dD;clear aH cX dC cW dD
    go_wp2_with fail
    go_quiet (fail)
    go_wp2_with fail
    go_quiet (fail)
    go_wp2_with (go_at_call 166;go_must (refine (qw _ (by decide) _).mono ?_);rintro e X ⟨rfl,rfl⟩)
    go_ret;exact ⟨v1,rfl,hR.drewN _,aw,ze hS _⟩
   have aH:jC false (pk s at_)=false:=by simp[jC,cX,dC]
   rw[if_pos aH] at hm;cases hm;have e43:=w7 ae cW;have e45:=w7 ae dD;have e42:=w7 ae cX;have e47:=w7 ae dC;have d43:=zaz ae cW;have d45:=zaz ae dD;have d42:=zaz ae cX;have d47:=zaz ae dC;clear aH cW dD cX dC
   go_wp2_with fail
   go_quiet (fail)
   go_wp2_with fail
   go_quiet (fail)
   go_wp2_with fail
   go_ret;exact ⟨v1,rfl,hR.drewN _,aw,ze hS _⟩
  ·have b5:¬ (at_:Int) < (s.size:Int):=by omega
   have h0:pk s at_=0:=(by unfold pk;rw[getElem?_eq_none (by have:s.data.size=s.size:=rfl;omega)]);have aH:jC false (pk s at_)=false:=by rw[h0];rfl
   rw[if_pos aH] at hm;cases hm
   go_wp2_with fail
   go_quiet (fail)
   go_wp2_with fail
   go_ret;exact ⟨v1,rfl,hR.drewN _,aw,ze hS _⟩
def sumI_true {rb n1:Nat} {s:ByteArray} (hs:s.size<=1000) {f:Nat} (au:∀ k,k<=f->SumC rb n1 s 2 k (zbv true)):SumC rb n1 s 1 (f+1) (.row true):=by
 obtain ⟨i0,hi,bY,bt,bF⟩:=info_parts zkY;intro W a v l r hr h ha;simp only[rd] at hr;have hE:(match rd s f (zbv true) a l with | some (.ok i a l')=>rd s f (.more true i) a l' | r=>r)=some r:=hr
 cases dq:rd s f (zbv true) a l with
 | none=>rw[dq] at hE;cases hE
 | some r0 =>
 rw[dq] at hE;have fX:=au f (le_refl _) _ _ _ _ _ dq h ha;cases r0 with
 | bad b =>
  cases hE
  go_enter Tryz.func131,Tryz.ntmps131
  go_wp2_with (go_at_call 131;go_must (refine fX.mono ?_);rintro e Y ⟨v',l',z,rfl,fK,ca,sY0⟩)
  go_loopw [5] (fun t5 wr=>t5=.int .i64 z∧RI rb n1 s wr b true v' l'∧Stp (some rb) v W wr v') (fun _ wr=>0)
  case atStart=>exact ⟨rfl,fK,sY0⟩
  case round =>
   obtain ⟨rfl,hR,hS⟩:=hrel;have q2:=hR.c2
   go_wp2_with fail
   go_quiet (fail)
   go_wp2_with fail
   go_ret;exact ⟨v',l',z,rfl,hR.drewN _,ca,ze hS _⟩
 | ok mY b0 l0 =>
 go_enter Tryz.func131,Tryz.ntmps131
 go_wp2_with (go_at_call 131;go_must (refine fX.mono ?_);rintro e Y ⟨v',rfl,fK,ca,sY0⟩)
 go_loopw [5] (fun t5 wr=>∃ (k i at_:Nat) (l1:List Ab.Node) (v1:Value),t5=.int .i64 i∧k<=f∧rd s k (.more true i) at_ l1=some r∧at_<=s.size∧RI rb n1 s wr at_ false v1 l1∧Stp (some rb) v W wr v1) (fun _ wr=>s.size - zjg wr rb)
 case atStart=>exact ⟨f,mY,b0,l0,v',rfl,le_refl _,hE,ca,fK,sY0⟩
 case round =>
  obtain ⟨k,i,at_,l1,v1,rfl,nM,hm,aw,hR,hS⟩:=hrel;have q0:=hR.c0;have q1:=hR.c1;have q2:=hR.c2;have q3:=hR.c3;have qf:=hR.fr 1;have qg:=hR.fr 3;have b6:(0:Int)<=(at_:Int):=natCast_nonneg _;obtain ⟨k,rfl⟩:∃ k',k=k'+1:=by
   cases k with
   | zero=>cases hm
   | succ k=>exact ⟨k,rfl⟩
  simp only[rd] at hm;by_cases ae:at_ < s.size
  ·have b5:(at_:Int) < (s.size:Int):=by omega
   have b7:(s[at_]'ae).toNat < 256:=(s[at_]'ae).toNat_lt;by_cases cW:pk s at_=43
   ·have aW:jC true (pk s at_)=true:=by rw[cW];rfl
    rw[if_neg (by rw[aW];simp),cW] at hm;have aJ:at_+1<=s.size:=by omega
    have ec:=byte_at ae cW;clear aW  cW;cases ax:rd s k (zbv true) (at_+1) l1 with
    | none=>rw[ax] at hm;cases hm
    | some r1 =>
     rw[ax] at hm;have eo:=fun p=>au k (by omega) _ _ _ _ _ ax ((hR.drewN p).go (at_+1)) aJ;cases r1 with
     | bad b =>
      cases hm
      go_wp2_with fail
      go_quiet (fail)
      go_wp2_with fail
      go_quiet (fail)
      go_wp2_with (first
       | (go_at_call 166;go_must (refine (qw _ (by decide) _).mono ?_);rintro e X ⟨rfl,rfl⟩)
       | (go_at_call 131;go_must (refine (eo _).mono ?_);rintro e Y ⟨v2,l2,z,rfl,hY,hb,sY⟩;have y2:=hY.c2))
      go_ret;exact ⟨v2,l2,_,rfl,hY,hb,(zy (p:=⟨rb,1,none⟩) (ze hS _) (.inr rfl) _).trans sY⟩
     | ok j b l2 =>
      simp only at hm;split at hm
      ·cases hm
      rename_i bU;have bU:l2.length < 1000:=by omega
      go_wp2_with fail
      go_quiet (fail)
      go_wp2_with fail
      go_quiet (fail)
      go_wp2_with (first
       | (go_at_call 166;go_must (refine (qw _ (by decide) _).mono ?_);rintro e X ⟨rfl,rfl⟩)
       | (go_at_call 131;go_must (refine (eo _).mono ?_);rintro e Y ⟨v2,rfl,hY,hb,sY⟩;have y2:=hY.c2;have y3:=hY.c3)
       | (at_builtin;go_loud (refine wpList_append_own_at _ rfl _ _ 134 rfl n1 185 i0 _ 5 48 Tryz.underlying134 hi bY bt bF rfl (by decide) _ _ _ rfl (RI.row (RI.alloc hY _)) ⟨Y.heap.size,0,none⟩ 1 1 (qh ⟨3,0,⟨#[]⟩,(i:Int),(j:Int)⟩) rfl rfl (yi _ ⟨3,0,⟨#[]⟩,(i:Int),(j:Int)⟩ 185 rfl) (qJ _) (by unfold maxLen;omega) (by omega) (by simp;have:=hY.size;omega) ?_);intro v3 w1 ao ab bz cr;obtain ⟨g3,bX,rfl⟩:=zbC ao (succ_pos _);have g0:=(ab.block rb (by simp;have:=hY.rbs;omega) hY.ne).trans (RI.cell (RI.alloc hY _));have g1:w1.cell? ⟨rb,3,none⟩=some v2:=(by simp[World.cell?,g0]);have g2:w1.frozen? ⟨rb,3,none⟩=false:=(by simp[World.frozen?,g0])))
      have bG:=RI.put (l':=l2++[⟨3,0,⟨#[]⟩,(i:Int),(j:Int)⟩]) (RI.alloc hY _) ab cr (by rw[zL,qC,length_append];exact ao);have cD:=zy ((zZ ((zy (p:=⟨rb,1,none⟩) (ze hS _) (.inr rfl) _).trans sY) _).trans (qb ab cr)) (p:=⟨rb,3,none⟩) (.inr rfl) (.slice (some ⟨g3,0,none⟩) (l2.length+1) bX)
      go_roundw
      case rel=>exact ⟨k,l2.length,b,_,_,rfl,by omega,hm,hb,bG,cD⟩
      case measure =>
       have m1:=jx hR;have m2:=jx bG;have:=eG s k _ _ _ _ _ _ ax;rw[m1,m2];omega
   by_cases dD:pk s at_=45
   ·have aW:jC true (pk s at_)=true:=by rw[dD];rfl
    rw[if_neg (by rw[aW];simp),dD] at hm;have aJ:at_+1<=s.size:=by omega
    have ec:=byte_at ae dD;clear aW cW dD;cases ax:rd s k (zbv true) (at_+1) l1 with
    | none=>rw[ax] at hm;cases hm
    | some r1 =>
     rw[ax] at hm;have eo:=fun p=>au k (by omega) _ _ _ _ _ ax ((hR.drewN p).go (at_+1)) aJ;cases r1 with
     | bad b =>
      cases hm
      go_wp2_with fail
      go_quiet (fail)
      go_wp2_with fail
      go_quiet (fail)
      go_wp2_with (first
       | (go_at_call 166;go_must (refine (qw _ (by decide) _).mono ?_);rintro e X ⟨rfl,rfl⟩)
       | (go_at_call 131;go_must (refine (eo _).mono ?_);rintro e Y ⟨v2,l2,z,rfl,hY,hb,sY⟩;have y2:=hY.c2))
      go_ret;exact ⟨v2,l2,_,rfl,hY,hb,(zy (p:=⟨rb,1,none⟩) (ze hS _) (.inr rfl) _).trans sY⟩
     | ok j b l2 =>
      simp only at hm;split at hm
      ·cases hm
      rename_i bU;have bU:l2.length < 1000:=by omega
      go_wp2_with fail
      go_quiet (fail)
      go_wp2_with fail
      go_quiet (fail)
      go_wp2_with (first
       | (go_at_call 166;go_must (refine (qw _ (by decide) _).mono ?_);rintro e X ⟨rfl,rfl⟩)
       | (go_at_call 131;go_must (refine (eo _).mono ?_);rintro e Y ⟨v2,rfl,hY,hb,sY⟩;have y2:=hY.c2;have y3:=hY.c3)
       | (at_builtin;go_loud (refine wpList_append_own_at _ rfl _ _ 134 rfl n1 185 i0 _ 5 48 Tryz.underlying134 hi bY bt bF rfl (by decide) _ _ _ rfl (RI.row (RI.alloc hY _)) ⟨Y.heap.size,0,none⟩ 1 1 (qh ⟨4,0,⟨#[]⟩,(i:Int),(j:Int)⟩) rfl rfl (yi _ ⟨4,0,⟨#[]⟩,(i:Int),(j:Int)⟩ 185 rfl) (qJ _) (by unfold maxLen;omega) (by omega) (by simp;have:=hY.size;omega) ?_);intro v3 w1 ao ab bz cr;obtain ⟨g3,bX,rfl⟩:=zbC ao (succ_pos _);have g0:=(ab.block rb (by simp;have:=hY.rbs;omega) hY.ne).trans (RI.cell (RI.alloc hY _));have g1:w1.cell? ⟨rb,3,none⟩=some v2:=(by simp[World.cell?,g0]);have g2:w1.frozen? ⟨rb,3,none⟩=false:=(by simp[World.frozen?,g0])))
      have bG:=RI.put (l':=l2++[⟨4,0,⟨#[]⟩,(i:Int),(j:Int)⟩]) (RI.alloc hY _) ab cr (by rw[zL,qC,length_append];exact ao);have cD:=zy ((zZ ((zy (p:=⟨rb,1,none⟩) (ze hS _) (.inr rfl) _).trans sY) _).trans (qb ab cr)) (p:=⟨rb,3,none⟩) (.inr rfl) (.slice (some ⟨g3,0,none⟩) (l2.length+1) bX)
      go_roundw
      case rel=>exact ⟨k,l2.length,b,_,_,rfl,by omega,hm,hb,bG,cD⟩
      case measure =>
       have m1:=jx hR;have m2:=jx bG;have:=eG s k _ _ _ _ _ _ ax;rw[m1,m2];omega
   by_cases cX:pk s at_=42
   ·have aH:jC true (pk s at_)=false:=by rw[cX];rfl
    rw[if_pos aH] at hm;cases hm;have ec:=byte_at ae cX;clear aH cW dD cX
    go_wp2_with fail
    go_quiet (fail)
    go_wp2_with fail
    go_quiet (fail)
    go_wp2_with (go_at_call 166;go_must (refine (qw _ (by decide) _).mono ?_);rintro e X ⟨rfl,rfl⟩)
    go_ret;exact ⟨v1,rfl,hR.drewN _,aw,ze hS _⟩
   by_cases dC:pk s at_=47
   ·have aH:jC true (pk s at_)=false:=by rw[dC];rfl
    rw[if_pos aH] at hm;cases hm;have ec:=byte_at ae dC;clear aH cW dD cX dC
    go_wp2_with fail
    go_quiet (fail)
    go_wp2_with fail
    go_quiet (fail)
    go_wp2_with (go_at_call 166;go_must (refine (qw _ (by decide) _).mono ?_);rintro e X ⟨rfl,rfl⟩)
    go_ret;exact ⟨v1,rfl,hR.drewN _,aw,ze hS _⟩
   have aH:jC true (pk s at_)=false:=by simp[jC,cW,dD]
   rw[if_pos aH] at hm;cases hm;have e43:=w7 ae cW;have e45:=w7 ae dD;have e42:=w7 ae cX;have e47:=w7 ae dC;have d43:=zaz ae cW;have d45:=zaz ae dD;have d42:=zaz ae cX;have d47:=zaz ae dC;clear aH cW dD cX dC
   go_wp2_with fail
   go_quiet (fail)
   go_wp2_with fail
   go_quiet (fail)
   go_wp2_with fail
   go_ret;exact ⟨v1,rfl,hR.drewN _,aw,ze hS _⟩
  ·have b5:¬ (at_:Int) < (s.size:Int):=by omega
   have h0:pk s at_=0:=(by unfold pk;rw[getElem?_eq_none (by have:s.data.size=s.size:=rfl;omega)]);have aH:jC true (pk s at_)=false:=by rw[h0];rfl
   rw[if_pos aH] at hm;cases hm
   go_wp2_with fail
   go_quiet (fail)
   go_wp2_with fail
   go_ret;exact ⟨v1,rfl,hR.drewN _,aw,ze hS _⟩
end Go.Proofs.TryzRead
end
