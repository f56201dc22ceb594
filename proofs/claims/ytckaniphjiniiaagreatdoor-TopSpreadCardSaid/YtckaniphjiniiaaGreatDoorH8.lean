import Derived.Maps.AppendAt
import Derived.OwnWalk
import Derived.RangeFuncBox
import Derived.BigQuiet
import Derived.Deep.DeepMust
import Derived.RegionTactic
import Derived.ChangeAlike
import Derived.Test.YtckaniphjiniiaaGreatDoorH7
open Nat (le_refl)
set_option linter.all false
section
namespace Go.Proofs.TryzNode
open Go Go.RowKit Ab
def kG {W:World} {o:Obj} {k:Nat} (h:k<W.heap.size):(W.alloc o).heap[k]? = W.heap[k]?:=by simp[World.alloc, -World.alloc_eq,Array.getElem?_push,Nat.ne_of_lt h]
def qI {W:World} {o O:Obj} {k:Nat} (h:W.heap[k]? = some O):(W.alloc o).heap[k]? = some O:=(kG (Array.getElem?_eq_some_iff.1 h).1).trans h
def XB (W:World) (bx:Nat) (x:Ab.Node):Prop:=W.heap[bx]? = some (.cells (qO x).toArray 131 (0,0))
def qA {W:World} {bx:Nat} {x:Ab.Node} (h:XB W bx x) {j:Nat} {u:Value} (hj:(qO x)[j]? = some u):W.cell? ⟨bx,j,none⟩=some u:=by unfold XB at h;simp[World.cell?,h,hj]
structure Qt (W X:World):Prop where
 os:X.os=W.os
 tape:X.tape=W.tape
 output:X.output=W.output
 size:W.heap.size<=X.heap.size
 block:∀k,k<W.heap.size->X.heap[k]? = W.heap[k]?
def qt_refl (W:World):Qt W W:=⟨rfl,rfl,rfl,le_refl _,fun _ _=>rfl⟩
def sq {W X:World} (h:Qt W X) (o:Obj):Qt W (X.alloc o):=⟨h.os,h.tape,h.output,by have:=h.size;simp;omega,fun k hk=>(kG (Nat.lt_of_lt_of_le hk h.size)).trans (h.block k hk)⟩
def nil_of {s:ByteArray} (h:s.toList=[]):s=⟨#[]⟩:=by rw[ByteArray.toList_eq] at h;obtain⟨⟨l⟩⟩:=s;simp at h;subst h;rfl
def two_new (W:World) (x y:Ab.Node):XB ((W.alloc (.cells (qO x).toArray 131)).alloc (.cells (qO y).toArray 131)) W.heap.size x∧XB ((W.alloc (.cells (qO x).toArray 131)).alloc (.cells (qO y).toArray 131)) (W.heap.size+1) y:=by refine⟨qI (World.alloc_heap_new W _), ?_⟩;have h:=World.alloc_heap_new (W.alloc (.cells (qO x).toArray 131)) (.cells (qO y).toArray 131);unfold XB;simpa using h
def zgn {X Y:World} {b:Nat} {x:Ab.Node} (k:KeepO (fun _=>False) X Y) (h:XB X b x):XB Y b x:=(k.block b (Array.getElem?_eq_some_iff.1 h).1 (fun e=>e)).trans h
def qt_keep' {W X:World} (h:Qt W X):KeepO (fun _=>False) W X:=⟨h.os,h.tape,h.output,h.size,fun k hk _=>h.block k hk⟩
set_option maxRecDepth 100000 in
set_option maxHeartbeats 6000000 in
def node_calls (l:List Ab.Node) (lv:Value) (k:Nat) (x:Ab.Node) (W:World) (hk:l[k]? = some x) (hk6:k<=9223372036854775807) (hN:zkG W.heap.size W lv l)
  (fy:∀W',KeepO (fun _=>False) W W'->Calls Tryz.prog 81 #[.string x.name] W' fun e w'=>e=.returned (errV 59 (if qg x.name=true then 2 else 0))∧KeepO (fun _=>False) W' w') :
  Calls Tryz.prog 87 #[lv,.int .i64 k] W fun e W'=>e=.returned (errV 59 (qS k x))∧KeepO (fun _=>False) W W':=by
 have hI:=(List.getElem?_eq_some_iff.1 hk).1;rcases hN with⟨a,cap,_,rfl⟩|⟨b,off,cap,rfl,hb,hc⟩
 ·simp at hI
 have eE:=hc k x hk 0 _ rfl;have fe:=hc k x hk 1 _ rfl;have dP:=hc k x hk 2 _ rfl;have mC:=hc k x hk 3 _ rfl;have tV:=hc k x hk 4 _ rfl;simp only[Nat.add_zero] at eE;obtain⟨xo,xn,xm,xl,xr⟩:=x;simp only at eE fe dP mC tV fy;unfold qS;simp only;have q2:∀(X Y:Obj),KeepO (fun _=>False) W ((W.alloc X).alloc Y):=fun X Y=>qt_keep' (sq (sq (qt_refl W) _) _);by_cases c1:xo<1
 ·rw[if_pos (.inl c1)]
  go_enter Tryz.func87,Tryz.ntmps87
  go_wp2
  go_ret;exact⟨rfl,q2 _ _⟩
 by_cases c2:6<xo
 ·rw[if_pos (.inr c2)]
  go_enter Tryz.func87,Tryz.ntmps87
  go_wp2
  go_ret;exact⟨rfl,q2 _ _⟩
 rw[if_neg (by omega)];by_cases c3:xo=1
 ·subst c3;rw[if_pos rfl];by_cases c4:xn<0
  ·rw[if_pos (.inl c4)]
   go_enter Tryz.func87,Tryz.ntmps87
   go_wp2
   go_ret;exact⟨rfl,q2 _ _⟩
  by_cases c5:1000000<xn
  ·rw[if_pos (.inr c5)]
   go_enter Tryz.func87,Tryz.ntmps87
   go_wp2
   go_ret;exact⟨rfl,q2 _ _⟩
  rw[if_neg (by omega)];by_cases d:xm=⟨#[]⟩∧xl=0∧xr=0
  ·obtain⟨rfl,rfl,rfl⟩:=d;rw[if_pos ⟨rfl,rfl,rfl⟩]
   go_enter Tryz.func87,Tryz.ntmps87
   go_wp2
   go_ret;exact⟨rfl,q2 _ _⟩
  ·rw[if_neg d]
   go_enter Tryz.func87,Tryz.ntmps87
   go_wp2
   all_goals go_ret
   all_goals first|exact⟨rfl,q2 _ _⟩|exact (d ⟨nil_of (by assumption),by assumption,by assumption⟩).elim
 rw[if_neg c3];by_cases c4:xo=2
 ·subst c4;rw[if_pos rfl];by_cases hb:qg xm=true
  ·rw[if_pos hb] at fy ⊢;have fy:∀W',KeepO (fun _=>False) W W'->Calls Tryz.prog 81 #[Value.string xm] W' fun e w'=>e=.returned (.iface 59 (.int .i64 2))∧KeepO (fun _=>False) W' w':=fy
   go_enter Tryz.func87,Tryz.ntmps87
   go_wp2_with (go_at_call 81;go_must (refine (fy _ (q2 _ _)).mono ?_);rintro e X ⟨rfl,kX⟩)
   go_ret;exact⟨rfl,(q2 _ _).trans kX⟩
  ·rw[if_neg hb] at fy ⊢;have fy:∀W',KeepO (fun _=>False) W W'->Calls Tryz.prog 81 #[Value.string xm] W' fun e w'=>e=.returned .nilIface∧KeepO (fun _=>False) W' w':=fy;have two:=two_new W ⟨2,xn,xm,xl,xr⟩ ⟨2,0,xm,0,0⟩;by_cases d:xn=0∧xl=0∧xr=0
   ·obtain⟨rfl,rfl,rfl⟩:=d;rw[if_pos ⟨rfl,rfl,rfl⟩]
    go_enter Tryz.func87,Tryz.ntmps87
    go_wp2_with (go_at_call 81;go_must (refine (fy _ (q2 _ _)).mono ?_);rintro e X ⟨rfl,kX⟩;have y1:=zgn kX two.1;have y2:=zgn kX two.2;have a0:=qA y1 (j:=0) rfl;have a1:=qA y1 (j:=1) rfl;have a2:=qA y1 (j:=2) rfl;have a3:=qA y1 (j:=3) rfl;have a4:=qA y1 (j:=4) rfl;have b0:=qA y2 (j:=0) rfl;have b1:=qA y2 (j:=1) rfl;have b2:=qA y2 (j:=2) rfl;have b3:=qA y2 (j:=3) rfl;have b4:=qA y2 (j:=4) rfl)
    go_ret;exact⟨rfl,(q2 _ _).trans kX⟩
   ·rw[if_neg d]
    go_enter Tryz.func87,Tryz.ntmps87
    go_wp2_with (go_at_call 81;go_must (refine (fy _ (q2 _ _)).mono ?_);rintro e X ⟨rfl,kX⟩;have y1:=zgn kX two.1;have y2:=zgn kX two.2;have a0:=qA y1 (j:=0) rfl;have a1:=qA y1 (j:=1) rfl;have a2:=qA y1 (j:=2) rfl;have a3:=qA y1 (j:=3) rfl;have a4:=qA y1 (j:=4) rfl;have b0:=qA y2 (j:=0) rfl;have b1:=qA y2 (j:=1) rfl;have b2:=qA y2 (j:=2) rfl;have b3:=qA y2 (j:=3) rfl;have b4:=qA y2 (j:=4) rfl)
    all_goals go_ret
    all_goals first|exact⟨rfl,(q2 _ _).trans kX⟩|exact (d ⟨by assumption,by assumption,by assumption⟩).elim
 rw[if_neg c4];by_cases c5:xl<0∨(k:Int)<=xl∨xr<0∨(k:Int)<=xr
 ·rw[if_pos c5]
  go_enter Tryz.func87,Tryz.ntmps87
  go_wp2
  go_region
  all_goals go_wp2
  all_goals first
   | (exfalso;omega)
   | (go_ret;exact⟨rfl,(q2 _ _).trans ⟨rfl,rfl,rfl,le_refl _,fun _ _ _=>rfl⟩⟩)
 rw[if_neg c5];have e1:¬xl<0:=fun h=>c5 (.inl h);have e2:¬(k:Int)<=xl:=fun h=>c5 (.inr (.inl h));have e3:¬xr<0:=fun h=>c5 (.inr (.inr (.inl h)));have e4:¬(k:Int)<=xr:=fun h=>c5 (.inr (.inr (.inr h)));by_cases d:xn=0∧xm=⟨#[]⟩
 ·obtain⟨rfl,rfl⟩:=d;rw[if_pos ⟨rfl,rfl⟩]
  go_enter Tryz.func87,Tryz.ntmps87
  go_wp2
  go_region
  all_goals go_wp2
  all_goals first
   | (exfalso;omega)
   | (go_ret;exact⟨rfl,(q2 _ _).trans ⟨rfl,rfl,rfl,le_refl _,fun _ _ _=>rfl⟩⟩)
 ·rw[if_neg d]
  go_enter Tryz.func87,Tryz.ntmps87
  go_wp2
  go_region
  all_goals go_wp2
  all_goals first
   | (exfalso;omega)
   | (go_ret;exact⟨rfl,(q2 _ _).trans ⟨rfl,rfl,rfl,le_refl _,fun _ _ _=>rfl⟩⟩)
   | (exact (d ⟨by assumption,nil_of (by assumption)⟩).elim)
   | (go_ret;exact (d ⟨by assumption,nil_of (by assumption)⟩).elim)
end Go.Proofs.TryzNode
end
section
namespace Ab
open Go
noncomputable def allC (o:List Dim) (l:List Entry):List Cell:=(List.range (sizeN o)).map fun k=>sol o l (jw o k).1
def P332_eq {o:List Dim} {l:List Entry} (hl:Lst Entry.gd l):P332 o l=some (if jj o l=0 then (allC o l,.nil) else ([],zn (jj o l))):=by
 unfold P332;rw[if_pos hl,zbD hl];by_cases h:jj o l=0
 ·rw[if_pos h,h];rfl
 ·rw[if_neg h];have he:zn (jj o l)≠.nil:=fun c=>h (sJ.1 c);generalize zn (jj o l)=e at he;cases e<;>simp_all
end Ab
end
section
namespace Ab
open Go
def allC_at {o:List Dim} {l:List Entry} (ok:RightC o l) {p:List Int} (hf:Fit o p):zu (allC o l) ((zci o p:Nat):Int)=some (sol o l p):=by rw[zg];unfold allC;rw[List.getElem?_map,List.getElem?_range (zdc hf)];simp only[Option.map_some,yd ok.pos hf]
def zlJ {o:List Dim} {p:List Int} (h:∀(i:Nat) (d:Dim) (m:Int),o[i]? = some d->p[i]? = some m->yi d.members m.toNat=true):∀n,byN o p n = -1
 | 0=>rfl
 | n+1=>by
  rw[byN,if_neg]
  ·exact zlJ h n
  ·intro c;unfold byC at c;split at c
   ·rename_i d m hd hm;rw[h n d m hd hm] at c;simp at c
   ·cases c
def leafP_at {o:List Dim} {p:List Int} (h:jX o p=true) (i:Nat) (d:Dim) (m:Int) (hd:o[i]? = some d) (hm:p[i]? = some m):yi d.members m.toNat=true:=by unfold jX at h;refine List.all_eq_true.1 h (m,d) ?_;refine List.mem_iff_getElem?.2 ⟨i, ?_⟩;rw[List.getElem?_zip_eq_some];exact⟨hm,hd⟩
def getL_in:∀ {l:List Entry},(∀(i:Nat) (a b:Entry),l[i]? = some a->l[i+1]? = some b->cmpL a.at_ b.at_<0)->∀ {i:Nat} {e:Entry},l[i]? = some e->bB l e.at_=some e.n
 | [],_,i,e,h=>by simp at h
 | a::l,hr,0,e,h=>by
  simp only[List.getElem?_cons_zero,Option.some.injEq] at h;subst h;have h0:cmpL a.at_ a.at_=0:=qM _;unfold bB;rw[if_neg (by omega),if_pos h0]
 | a::l,hr,i+1,e,h=>by
  have ga:∀(i:Nat) (a b:Entry),l[i]? = some a->l[i+1]? = some b->cmpL a.at_ b.at_<0:=fun j x y h1 h2=>hr (j+1) x y (by simpa using h1) (by simpa using h2);have aj:∀(j:Nat) (y:Entry),l[j]? = some y->cmpL a.at_ y.at_<0:=by
   intro j
   induction j with
   | zero=>intro y hy;exact hr 0 a y rfl (by simpa using hy)
   | succ j ih =>
    intro y hy;have hj:j<l.length:=by have:=(List.getElem?_eq_some_iff.1 hy).1;omega
    have hx:=List.getElem?_eq_getElem hj;exact jD (ih _ hx) (ga j _ y hx hy)
  have:=aj i e (by simpa using h);unfold bB;rw[if_pos this];exact getL_in ga (by simpa using h)
def sol_ent {o:List Dim} {l:List Entry} (ok:RightC o l) {i:Nat} {e:Entry} (h:l[i]? = some e):sol o l e.at_=jT e.n:=by have he:=List.mem_of_getElem? h;rw[zkY ok.cube (ok.ents.fit e he)];unfold zbK;rw[show byL o e.at_ = -1 from zlJ (leafP_at (ok.ents.leaf e he)) _,if_pos (by omega),getL_in ok.ents.rise h];unfold jT;rw[if_pos (ok.val e he)];rfl
end Ab
end
