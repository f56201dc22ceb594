/-
  formula.node, walked at this seat's program.
-/
import Derived.Test.YtkaifdgeigdbhaaGreatDoorProg
import Derived.Test.YtkaifdgeigdbhaaGreatDoorF1
import Derived.Maps.AppendAt
import Derived.OwnWalk
import Derived.RangeFuncBox
import Derived.BigQuiet
import Derived.Deep.DeepMust
import Derived.RegionTactic
import Derived.ChangeAlike
open Nat (le_refl)
set_option linter.all false
namespace Go.Proofs.TryzNode
open Go Go.RowKit Ab
def zah {W:World} {o:Obj} {k:Nat} (h:k < W.heap.size):(W.alloc o).heap[k]? = W.heap[k]?:=by simp[World.alloc, -World.alloc_eq,Array.getElem?_push,Nat.ne_of_lt h]
def qv {W:World} {o O:Obj} {k:Nat} (h:W.heap[k]? = some O):(W.alloc o).heap[k]? = some O:=(zah (Array.getElem?_eq_some_iff.1 h).1).trans h
def XB (W:World) (bx:Nat) (x:Ab.Node):Prop:=W.heap[bx]? = some (.cells (qB x).toArray 185 (0,0))
def qi {W:World} {bx:Nat} {x:Ab.Node} (h:XB W bx x) {j:Nat} {u:Value} (hj:(qB x)[j]? = some u):W.cell? ⟨bx,j,none⟩=some u:=by unfold XB at h;simp[World.cell?,h,hj]
structure Qt (W X:World):Prop where
 os:X.os=W.os
 tape:X.tape=W.tape
 output:X.output=W.output
 size:W.heap.size<=X.heap.size
 block:∀ k,k < W.heap.size->X.heap[k]? = W.heap[k]?
def qt_refl (W:World):Qt W W:=⟨rfl,rfl,rfl,le_refl _,fun _ _=>rfl⟩
def zim {W X:World} (h:Qt W X) (o:Obj):Qt W (X.alloc o):=⟨h.os,h.tape,h.output,by have:=h.size;simp;omega,fun k hk=>(zah (Nat.lt_of_lt_of_le hk h.size)).trans (h.block k hk)⟩
def nil_of {s:ByteArray} (h:s.toList=[]):s=⟨#[]⟩:=by rw[ByteArray.toList_eq] at h;obtain ⟨⟨l⟩⟩:=s;simp at h;subst h;rfl
def two_new (W:World) (x y:Ab.Node):XB ((W.alloc (.cells (qB x).toArray 185)).alloc (.cells (qB y).toArray 185)) W.heap.size x∧XB ((W.alloc (.cells (qB x).toArray 185)).alloc (.cells (qB y).toArray 185)) (W.heap.size+1) y:=by refine ⟨qv (World.alloc_heap_new W _), ?_⟩;have h:=World.alloc_heap_new (W.alloc (.cells (qB x).toArray 185)) (.cells (qB y).toArray 185);unfold XB;simpa using h
def zex {X Y:World} {b:Nat} {x:Ab.Node} (k:KeepO (fun _=>False) X Y) (h:XB X b x):XB Y b x:=(k.block b (Array.getElem?_eq_some_iff.1 h).1 (fun e=>e)).trans h
def qt_keep' {W X:World} (h:Qt W X):KeepO (fun _=>False) W X:=⟨h.os,h.tape,h.output,h.size,fun k hk _=>h.block k hk⟩
set_option maxRecDepth 100000 in
set_option maxHeartbeats 6000000 in
def node_calls (l:List Ab.Node) (lv:Value) (k:Nat) (x:Ab.Node) (W:World) (hk:l[k]? = some x) (hk6:k<=9223372036854775807) (hN:zdN W.heap.size W lv l)
  (dG:∀ W',KeepO (fun _=>False) W W'->Calls Tryz.prog 171 #[.string x.name] W' fun e w'=>e=.returned (errV 90 (if zR x.name=true then 2 else 0))∧KeepO (fun _=>False) W' w') :
  Calls Tryz.prog 182 #[lv,.int .i64 k] W fun e W'=>e=.returned (errV 90 (qF k x))∧KeepO (fun _=>False) W W':=by
 have eW:=(List.getElem?_eq_some_iff.1 hk).1;rcases hN with ⟨a,cap,_,rfl⟩ | ⟨b,off,cap,rfl,hb,hc⟩
 ·simp at eW
 have kP:=hc k x hk 0 _ rfl;have mK:=hc k x hk 1 _ rfl;have eB:=hc k x hk 2 _ rfl;have hc3:=hc k x hk 3 _ rfl;have hc4:=hc k x hk 4 _ rfl;simp only[Nat.add_zero] at kP;obtain ⟨xo,xn,xm,xl,xr⟩:=x;simp only at kP mK eB hc3 hc4 dG;unfold qF;simp only;have q2:∀ (X Y:Obj),KeepO (fun _=>False) W ((W.alloc X).alloc Y):=fun X Y=>qt_keep' (zim (zim (qt_refl W) _) _);by_cases c1:xo < 1
 ·rw[if_pos (.inl c1)]
  go_enter Tryz.func182,Tryz.ntmps182
  go_wp2
  go_ret;exact ⟨rfl,q2 _ _⟩
 by_cases c2:6 < xo
 ·rw[if_pos (.inr c2)]
  go_enter Tryz.func182,Tryz.ntmps182
  go_wp2
  go_ret;exact ⟨rfl,q2 _ _⟩
 rw[if_neg (by omega)];by_cases c3:xo=1
 ·subst c3;rw[if_pos rfl];by_cases c4:xn < 0
  ·rw[if_pos (.inl c4)]
   go_enter Tryz.func182,Tryz.ntmps182
   go_wp2
   go_ret;exact ⟨rfl,q2 _ _⟩
  by_cases c5:1000000 < xn
  ·rw[if_pos (.inr c5)]
   go_enter Tryz.func182,Tryz.ntmps182
   go_wp2
   go_ret;exact ⟨rfl,q2 _ _⟩
  rw[if_neg (by omega)];by_cases d:xm=⟨#[]⟩∧xl=0∧xr=0
  ·obtain ⟨rfl,rfl,rfl⟩:=d;rw[if_pos ⟨rfl,rfl,rfl⟩]
   go_enter Tryz.func182,Tryz.ntmps182
   go_wp2
   go_ret;exact ⟨rfl,q2 _ _⟩
  ·rw[if_neg d]
   go_enter Tryz.func182,Tryz.ntmps182
   go_wp2
   all_goals go_ret
   all_goals first | exact ⟨rfl,q2 _ _⟩ | exact (d ⟨nil_of (by assumption),by assumption,by assumption⟩).elim
 rw[if_neg c3];by_cases c4:xo=2
 ·subst c4;rw[if_pos rfl];by_cases hb:zR xm=true
  ·rw[if_pos hb] at dG ⊢;have dG:∀ W',KeepO (fun _=>False) W W'->Calls Tryz.prog 171 #[Value.string xm] W' fun e w'=>e=.returned (.iface 90 (.int .i64 2))∧KeepO (fun _=>False) W' w':=dG
   go_enter Tryz.func182,Tryz.ntmps182
   go_wp2_with (go_at_call 171;go_must (refine (dG _ (q2 _ _)).mono ?_);rintro e X ⟨rfl,kX⟩)
   go_ret;exact ⟨rfl,(q2 _ _).trans kX⟩
  ·rw[if_neg hb] at dG ⊢;have dG:∀ W',KeepO (fun _=>False) W W'->Calls Tryz.prog 171 #[Value.string xm] W' fun e w'=>e=.returned .nilIface∧KeepO (fun _=>False) W' w':=dG;have two:=two_new W ⟨2,xn,xm,xl,xr⟩ ⟨2,0,xm,0,0⟩;by_cases d:xn=0∧xl=0∧xr=0
   ·obtain ⟨rfl,rfl,rfl⟩:=d;rw[if_pos ⟨rfl,rfl,rfl⟩]
    go_enter Tryz.func182,Tryz.ntmps182
    go_wp2_with (go_at_call 171;go_must (refine (dG _ (q2 _ _)).mono ?_);rintro e X ⟨rfl,kX⟩;have y1:=zex kX two.1;have y2:=zex kX two.2;have a0:=qi y1 (j:=0) rfl;have a1:=qi y1 (j:=1) rfl;have a2:=qi y1 (j:=2) rfl;have a3:=qi y1 (j:=3) rfl;have a4:=qi y1 (j:=4) rfl;have b0:=qi y2 (j:=0) rfl;have b1:=qi y2 (j:=1) rfl;have b2:=qi y2 (j:=2) rfl;have b3:=qi y2 (j:=3) rfl;have b4:=qi y2 (j:=4) rfl)
    go_ret;exact ⟨rfl,(q2 _ _).trans kX⟩
   ·rw[if_neg d]
    go_enter Tryz.func182,Tryz.ntmps182
    go_wp2_with (go_at_call 171;go_must (refine (dG _ (q2 _ _)).mono ?_);rintro e X ⟨rfl,kX⟩;have y1:=zex kX two.1;have y2:=zex kX two.2;have a0:=qi y1 (j:=0) rfl;have a1:=qi y1 (j:=1) rfl;have a2:=qi y1 (j:=2) rfl;have a3:=qi y1 (j:=3) rfl;have a4:=qi y1 (j:=4) rfl;have b0:=qi y2 (j:=0) rfl;have b1:=qi y2 (j:=1) rfl;have b2:=qi y2 (j:=2) rfl;have b3:=qi y2 (j:=3) rfl;have b4:=qi y2 (j:=4) rfl)
    all_goals go_ret
    all_goals first | exact ⟨rfl,(q2 _ _).trans kX⟩ | exact (d ⟨by assumption,by assumption,by assumption⟩).elim
 rw[if_neg c4];by_cases c5:xl < 0∨(k:Int)<=xl∨xr < 0∨(k:Int)<=xr
 ·rw[if_pos c5]
  go_enter Tryz.func182,Tryz.ntmps182
  go_wp2
  go_region
  all_goals go_wp2
  all_goals first
   | (exfalso;omega)
   | (go_ret;exact ⟨rfl,(q2 _ _).trans ⟨rfl,rfl,rfl,le_refl _,fun _ _ _=>rfl⟩⟩)
 rw[if_neg c5];have e1:¬ xl < 0:=fun h=>c5 (.inl h);have e2:¬ (k:Int)<=xl:=fun h=>c5 (.inr (.inl h));have e3:¬ xr < 0:=fun h=>c5 (.inr (.inr (.inl h)));have e4:¬ (k:Int)<=xr:=fun h=>c5 (.inr (.inr (.inr h)));by_cases d:xn=0∧xm=⟨#[]⟩
 ·obtain ⟨rfl,rfl⟩:=d;rw[if_pos ⟨rfl,rfl⟩]
  go_enter Tryz.func182,Tryz.ntmps182
  go_wp2
  go_region
  all_goals go_wp2
  all_goals first
   | (exfalso;omega)
   | (go_ret;exact ⟨rfl,(q2 _ _).trans ⟨rfl,rfl,rfl,le_refl _,fun _ _ _=>rfl⟩⟩)
 ·rw[if_neg d]
  go_enter Tryz.func182,Tryz.ntmps182
  go_wp2
  go_region
  all_goals go_wp2
  all_goals first
   | (exfalso;omega)
   | (go_ret;exact ⟨rfl,(q2 _ _).trans ⟨rfl,rfl,rfl,le_refl _,fun _ _ _=>rfl⟩⟩)
   | (exact (d ⟨by assumption,nil_of (by assumption)⟩).elim)
   | (go_ret;exact (d ⟨by assumption,nil_of (by assumption)⟩).elim)
end Go.Proofs.TryzNode
