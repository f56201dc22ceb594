import Derived.Test.YtcknjppeompbkaaGreatDoorQRu
import Derived.RegionTactic
import Derived.ChangeAlike
open Nat (le_refl)
set_option linter.all false
set_option maxRecDepth 100000
set_option maxHeartbeats 16000000
section
namespace Ab
open Go
section
variable {n:List (List Int)} (hr:Rng n) (hn:n.length<=100000) (hw:∀ i,(n.getD i []).length<=100000)
include hr hn hw
end
end Ab
end
section
namespace Go.Proofs.TryzNode
open Go Go.RowKit Ab
def zag {W:World} {o:Obj} {k:Nat} (h:k < W.heap.size):(W.alloc o).heap[k]? = W.heap[k]?:=by simp[World.alloc, -World.alloc_eq,Array.getElem?_push,Nat.ne_of_lt h]
def qE {W:World} {o O:Obj} {k:Nat} (h:W.heap[k]? = some O):(W.alloc o).heap[k]? = some O:=(zag (Array.getElem?_eq_some_iff.1 h).1).trans h
def XB (W:World) (bx:Nat) (x:Ab.Node):Prop:=W.heap[bx]? = some (.cells (qK x).toArray 167 (0,0))
def qq {W:World} {bx:Nat} {x:Ab.Node} (h:XB W bx x) {j:Nat} {u:Value} (hj:(qK x)[j]? = some u):W.cell? ⟨bx,j,none⟩=some u:=by unfold XB at h;simp[World.cell?,h,hj]
structure Qt (W X:World):Prop where
 os:X.os=W.os
 tape:X.tape=W.tape
 output:X.output=W.output
 size:W.heap.size<=X.heap.size
 block:∀ k,k < W.heap.size->X.heap[k]? = W.heap[k]?
def qt_refl (W:World):Qt W W:=⟨rfl,rfl,rfl,le_refl _,fun _ _=>rfl⟩
def zhU {W X:World} (h:Qt W X) (o:Obj):Qt W (X.alloc o):=⟨h.os,h.tape,h.output,by have:=h.size;simp;omega,fun k hk=>(zag (Nat.lt_of_lt_of_le hk h.size)).trans (h.block k hk)⟩
def nil_of {s:ByteArray} (h:s.toList=[]):s=⟨#[]⟩:=by rw[ByteArray.toList_eq] at h;obtain ⟨⟨l⟩⟩:=s;simp at h;subst h;rfl
def two_new (W:World) (x y:Ab.Node):XB ((W.alloc (.cells (qK x).toArray 167)).alloc (.cells (qK y).toArray 167)) W.heap.size x∧XB ((W.alloc (.cells (qK x).toArray 167)).alloc (.cells (qK y).toArray 167)) (W.heap.size+1) y:=by refine ⟨qE (World.alloc_heap_new W _), ?_⟩;have h:=World.alloc_heap_new (W.alloc (.cells (qK x).toArray 167)) (.cells (qK y).toArray 167);unfold XB;simpa using h
def zeh {X Y:World} {b:Nat} {x:Ab.Node} (k:KeepO (fun _=>False) X Y) (h:XB X b x):XB Y b x:=(k.block b (Array.getElem?_eq_some_iff.1 h).1 (fun e=>e)).trans h
def qt_keep' {W X:World} (h:Qt W X):KeepO (fun _=>False) W X:=⟨h.os,h.tape,h.output,h.size,fun k hk _=>h.block k hk⟩
def node_calls (l:List Ab.Node) (lv:Value) (k:Nat) (x:Ab.Node) (W:World) (hk:l[k]? = some x) (hk6:k<=9223372036854775807) (hN:zhJ W.heap.size W lv l)
  (ez:∀ W',KeepO (fun _=>False) W W'->Calls Tryz.prog 81 #[.string x.name] W' fun e w'=>e=.returned (errV 67 (if qa x.name=true then 2 else 0))∧KeepO (fun _=>False) W' w') :
  Calls Tryz.prog 111 #[lv,.int .i64 k] W fun e W'=>e=.returned (errV 67 (qO k x))∧KeepO (fun _=>False) W W':=by
 have ic:=(List.getElem?_eq_some_iff.1 hk).1;rcases hN with ⟨a,cap,_,rfl⟩ | ⟨b,off,cap,rfl,hb,hc⟩
 ·simp at ic
 have kZ:=hc k x hk 0 _ rfl;have nc:=hc k x hk 1 _ rfl;have eW:=hc k x hk 2 _ rfl;have hc3:=hc k x hk 3 _ rfl;have hc4:=hc k x hk 4 _ rfl;simp only[Nat.add_zero] at kZ;obtain ⟨xo,xn,xm,xl,xr⟩:=x;simp only at kZ nc eW hc3 hc4 ez;unfold qO;simp only;have q2:∀ (X Y:Obj),KeepO (fun _=>False) W ((W.alloc X).alloc Y):=fun X Y=>qt_keep' (zhU (zhU (qt_refl W) _) _);by_cases c1:xo < 1
 ·rw[if_pos (.inl c1)]
  go_enter Tryz.func111,Tryz.ntmps111
  go_wp2
  go_ret;exact ⟨rfl,q2 _ _⟩
 by_cases c2:6 < xo
 ·rw[if_pos (.inr c2)]
  go_enter Tryz.func111,Tryz.ntmps111
  go_wp2
  go_ret;exact ⟨rfl,q2 _ _⟩
 rw[if_neg (by omega)];by_cases c3:xo=1
 ·subst c3;rw[if_pos rfl];by_cases c4:xn < 0
  ·rw[if_pos (.inl c4)]
   go_enter Tryz.func111,Tryz.ntmps111
   go_wp2
   go_ret;exact ⟨rfl,q2 _ _⟩
  by_cases c5:1000000 < xn
  ·rw[if_pos (.inr c5)]
   go_enter Tryz.func111,Tryz.ntmps111
   go_wp2
   go_ret;exact ⟨rfl,q2 _ _⟩
  rw[if_neg (by omega)];by_cases d:xm=⟨#[]⟩∧xl=0∧xr=0
  ·obtain ⟨rfl,rfl,rfl⟩:=d;rw[if_pos ⟨rfl,rfl,rfl⟩]
   go_enter Tryz.func111,Tryz.ntmps111
   go_wp2
   go_ret;exact ⟨rfl,q2 _ _⟩
  ·rw[if_neg d]
   go_enter Tryz.func111,Tryz.ntmps111
   go_wp2
   all_goals go_ret
   all_goals first | exact ⟨rfl,q2 _ _⟩ | exact (d ⟨nil_of (by assumption),by assumption,by assumption⟩).elim
 rw[if_neg c3];by_cases c4:xo=2
 ·subst c4;rw[if_pos rfl];by_cases hb:qa xm=true
  ·rw[if_pos hb] at ez ⊢;have ez:∀ W',KeepO (fun _=>False) W W'->Calls Tryz.prog 81 #[Value.string xm] W' fun e w'=>e=.returned (.iface 67 (.int .i64 2))∧KeepO (fun _=>False) W' w':=ez
   go_enter Tryz.func111,Tryz.ntmps111
   go_wp2_with (go_at_call 81;go_must (refine (ez _ (q2 _ _)).mono ?_);rintro e X ⟨rfl,kX⟩)
   go_ret;exact ⟨rfl,(q2 _ _).trans kX⟩
  ·rw[if_neg hb] at ez ⊢;have ez:∀ W',KeepO (fun _=>False) W W'->Calls Tryz.prog 81 #[Value.string xm] W' fun e w'=>e=.returned .nilIface∧KeepO (fun _=>False) W' w':=ez;have two:=two_new W ⟨2,xn,xm,xl,xr⟩ ⟨2,0,xm,0,0⟩;by_cases d:xn=0∧xl=0∧xr=0
   ·obtain ⟨rfl,rfl,rfl⟩:=d;rw[if_pos ⟨rfl,rfl,rfl⟩]
    go_enter Tryz.func111,Tryz.ntmps111
    go_wp2_with (go_at_call 81;go_must (refine (ez _ (q2 _ _)).mono ?_);rintro e X ⟨rfl,kX⟩;have y1:=zeh kX two.1;have y2:=zeh kX two.2;have a0:=qq y1 (j:=0) rfl;have a1:=qq y1 (j:=1) rfl;have a2:=qq y1 (j:=2) rfl;have a3:=qq y1 (j:=3) rfl;have a4:=qq y1 (j:=4) rfl;have b0:=qq y2 (j:=0) rfl;have b1:=qq y2 (j:=1) rfl;have b2:=qq y2 (j:=2) rfl;have b3:=qq y2 (j:=3) rfl;have b4:=qq y2 (j:=4) rfl)
    go_ret;exact ⟨rfl,(q2 _ _).trans kX⟩
   ·rw[if_neg d]
    go_enter Tryz.func111,Tryz.ntmps111
    go_wp2_with (go_at_call 81;go_must (refine (ez _ (q2 _ _)).mono ?_);rintro e X ⟨rfl,kX⟩;have y1:=zeh kX two.1;have y2:=zeh kX two.2;have a0:=qq y1 (j:=0) rfl;have a1:=qq y1 (j:=1) rfl;have a2:=qq y1 (j:=2) rfl;have a3:=qq y1 (j:=3) rfl;have a4:=qq y1 (j:=4) rfl;have b0:=qq y2 (j:=0) rfl;have b1:=qq y2 (j:=1) rfl;have b2:=qq y2 (j:=2) rfl;have b3:=qq y2 (j:=3) rfl;have b4:=qq y2 (j:=4) rfl)
    all_goals go_ret
    all_goals first | exact ⟨rfl,(q2 _ _).trans kX⟩ | exact (d ⟨by assumption,by assumption,by assumption⟩).elim
 rw[if_neg c4];by_cases c5:xl < 0∨(k:Int)<=xl∨xr < 0∨(k:Int)<=xr
 ·rw[if_pos c5]
  go_enter Tryz.func111,Tryz.ntmps111
  go_wp2
  go_region
  all_goals go_wp2
  all_goals first
   | (exfalso;omega)
   | (go_ret;exact ⟨rfl,(q2 _ _).trans ⟨rfl,rfl,rfl,le_refl _,fun _ _ _=>rfl⟩⟩)
 rw[if_neg c5];have e1:¬ xl < 0:=fun h=>c5 (.inl h);have e2:¬ (k:Int)<=xl:=fun h=>c5 (.inr (.inl h));have e3:¬ xr < 0:=fun h=>c5 (.inr (.inr (.inl h)));have e4:¬ (k:Int)<=xr:=fun h=>c5 (.inr (.inr (.inr h)));by_cases d:xn=0∧xm=⟨#[]⟩
 ·obtain ⟨rfl,rfl⟩:=d;rw[if_pos ⟨rfl,rfl⟩]
  go_enter Tryz.func111,Tryz.ntmps111
  go_wp2
  go_region
  all_goals go_wp2
  all_goals first
   | (exfalso;omega)
   | (go_ret;exact ⟨rfl,(q2 _ _).trans ⟨rfl,rfl,rfl,le_refl _,fun _ _ _=>rfl⟩⟩)
 ·rw[if_neg d]
  go_enter Tryz.func111,Tryz.ntmps111
  go_wp2
  go_region
  all_goals go_wp2
  all_goals first
   | (exfalso;omega)
   | (go_ret;exact ⟨rfl,(q2 _ _).trans ⟨rfl,rfl,rfl,le_refl _,fun _ _ _=>rfl⟩⟩)
   | (exact (d ⟨by assumption,nil_of (by assumption)⟩).elim)
   | (go_ret;exact (d ⟨by assumption,nil_of (by assumption)⟩).elim)
end Go.Proofs.TryzNode
end
section
namespace Go.Proofs.TryzRead
open Go Go.RowKit Ab
def zak (t:ByteArray) (c:Nat) (n:Int) (h:Lib.indexByte t.data.toList ((c:Nat):Int).toNat.toUInt8=n) (W:World):Calls Tryz.prog 124 #[.string t,.int .u8 c] W fun e W'=>e=.returned (.int .i64 n)∧W'=W:=by have:=Tryz.strings_IndexByte t (c:Int) W;rw[h] at this;exact this
def idx_a42 (W:World):Calls Tryz.prog 124 #[.string ⟨#[42,47]⟩,.int .u8 42] W fun e W'=>e=.returned (.int .i64 0)∧W'=W:=zak ⟨#[42,47]⟩ 42 0 (by decide+kernel) W
def idx_b42 (W:World):Calls Tryz.prog 124 #[.string ⟨#[43,45,42,47]⟩,.int .u8 42] W fun e W'=>e=.returned (.int .i64 2)∧W'=W:=zak ⟨#[43,45,42,47]⟩ 42 2 (by decide+kernel) W
def idx_a47 (W:World):Calls Tryz.prog 124 #[.string ⟨#[42,47]⟩,.int .u8 47] W fun e W'=>e=.returned (.int .i64 1)∧W'=W:=zak ⟨#[42,47]⟩ 47 1 (by decide+kernel) W
def idx_b47 (W:World):Calls Tryz.prog 124 #[.string ⟨#[43,45,42,47]⟩,.int .u8 47] W fun e W'=>e=.returned (.int .i64 3)∧W'=W:=zak ⟨#[43,45,42,47]⟩ 47 3 (by decide+kernel) W
def idx_a43 (W:World):Calls Tryz.prog 124 #[.string ⟨#[43,45]⟩,.int .u8 43] W fun e W'=>e=.returned (.int .i64 0)∧W'=W:=zak ⟨#[43,45]⟩ 43 0 (by decide+kernel) W
def idx_b43 (W:World):Calls Tryz.prog 124 #[.string ⟨#[43,45,42,47]⟩,.int .u8 43] W fun e W'=>e=.returned (.int .i64 0)∧W'=W:=zak ⟨#[43,45,42,47]⟩ 43 0 (by decide+kernel) W
def idx_a45 (W:World):Calls Tryz.prog 124 #[.string ⟨#[43,45]⟩,.int .u8 45] W fun e W'=>e=.returned (.int .i64 1)∧W'=W:=zak ⟨#[43,45]⟩ 45 1 (by decide+kernel) W
def idx_b45 (W:World):Calls Tryz.prog 124 #[.string ⟨#[43,45,42,47]⟩,.int .u8 45] W fun e W'=>e=.returned (.int .i64 1)∧W'=W:=zak ⟨#[43,45,42,47]⟩ 45 1 (by decide+kernel) W
def idx_false (c:Nat) (hc:c < 256) (h:dG false c=false) (W:World):Calls Tryz.prog 124 #[.string ⟨#[42,47]⟩,.int .u8 c] W fun e W'=>e=.returned (.int .i64 (-1))∧W'=W:=by
 have all:∀ c:Fin 256,dG false c.val=false->Lib.indexByte (⟨#[42,47]⟩:ByteArray).data.toList ((c.val:Nat):Int).toNat.toUInt8 = -1:=by decide+kernel
 exact zak _ c _ (all ⟨c,hc⟩ h) W
def idx_true (c:Nat) (hc:c < 256) (h:dG true c=false) (W:World):Calls Tryz.prog 124 #[.string ⟨#[43,45]⟩,.int .u8 c] W fun e W'=>e=.returned (.int .i64 (-1))∧W'=W:=by
 have all:∀ c:Fin 256,dG true c.val=false->Lib.indexByte (⟨#[43,45]⟩:ByteArray).data.toList ((c.val:Nat):Int).toNat.toUInt8 = -1:=by decide+kernel
 exact zak _ c _ (all ⟨c,hc⟩ h) W
def zfA {rb n1:Nat} {s:ByteArray} (hs:s.size<=1000) {f:Nat} (aJ:∀ k,k<=f->zdx rb n1 s 126 k (zdN false)) (W:World) (a:Nat) (v:Value) (l:List Ab.Node) (r:PR) (hr:rd s (f+1) (.row false) a l=some r) (h:RD rb n1 s W a v l) (ha:a<=s.size) :
  Calls Tryz.prog 109 #[.pointer (some ⟨rb,0,none⟩),.string ⟨#[42,47]⟩,.func (.func 126) #[.pointer (some ⟨rb,0,none⟩)] #[]] W (PostR rb n1 s W v r):=by
 simp only[rd] at hr;have hE:(match rd s f (zdN false) a l with | some (.ok i a l')=>rd s f (.more false i) a l' | r=>r)=some r:=hr
 cases eK:rd s f (zdN false) a l with
 | none=>rw[eK] at hE;cases hE
 | some r0 =>
 rw[eK] at hE;cases r0 with
 | bad b =>
  cases hE
  go_enter Tryz.func109,Tryz.ntmps109
  go_wp2_with (go_at_call 126;go_must (refine (aJ f (le_refl _) _ _ _ _ _ eK h ha).mono ?_);rintro e Y ⟨v',rfl,sY⟩)
  exact ⟨rfl,v',rfl,sY⟩
 | ok i0 b0 l0 =>
 go_enter Tryz.func109,Tryz.ntmps109
 go_wp2_with (go_at_call 126;go_must (refine (aJ f (le_refl _) _ _ _ _ _ eK h ha).mono ?_);rintro e Y ⟨v',rfl,nq,bV,sY0⟩)
 go_loopw [7] (fun t wr=>∃ (k i at_:Nat) (l1:List Ab.Node) (v1:Value),t=.int .i64 i∧k<=f∧rd s k (.more false i) at_ l1=some r∧at_<=s.size∧RD rb n1 s wr at_ v1 l1∧Stp (some rb) v W wr v1) (fun _ wr=>s.size - atOf wr rb)
 case atStart=>exact ⟨f,i0,b0,l0,v',rfl,le_refl _,hE,bV,nq,sY0⟩
 case round =>
  obtain ⟨k,i,at_,l1,v1,rfl,hkf,hm,bz,hR,hS⟩:=hrel;have q1:=hR.c1;have qf:=hR.fr 1;have gJ:=pk_256 s at_;obtain ⟨k,rfl⟩:∃ k',k=k'+1:=by
   cases k with
   | zero=>cases hm
   | succ k=>exact ⟨k,rfl⟩
  simp only[rd] at hm;by_cases hc:pk s at_=42
  ·have dp:dG false (pk s at_)=true:=by rw[hc];rfl
   rw[if_neg (by rw[dp];simp),hc] at hm;have bG:at_+1<=s.size:=zey (by omega);cases aK:rd s k (zdN false) (at_+1) l1 with
   | none=>rw[aK] at hm;cases hm
   | some r1 =>
    rw[aK] at hm;cases r1 with
    | bad b =>
     cases hm
     go_wp2_with (first
    | (go_at_call 123;go_must (refine (zl hR hs bz).mono ?_);rintro e X ⟨rfl,q,rfl⟩)
    | (go_at_call 124;(first | refine (idx_a42 _).mono ?_ | refine (idx_b42 _).mono ?_);rintro e X ⟨rfl,rfl⟩)
    | (go_at_call 126;go_must (refine (aJ k (by omega) _ _ _ _ _ aK ((hR.drewN _).go (at_+1)) bG).mono ?_);rintro e Y ⟨v2,rfl,sY⟩))
     exact ⟨rfl,v2,rfl,((qN (p:=⟨rb,1,none⟩) (zo hS _) (.inr rfl) _).trans sY)⟩
    | ok j b l2 =>
     simp only at hm;split at hm
     ·cases hm
     rename_i dk;have dk:l2.length < 1000:=by omega
     go_wp2_with (first
    | (go_at_call 123;go_must (refine (zl hR hs bz).mono ?_);rintro e X ⟨rfl,q,rfl⟩)
    | (go_at_call 124;(first | refine (idx_a42 _).mono ?_ | refine (idx_b42 _).mono ?_);rintro e X ⟨rfl,rfl⟩)
    | (go_at_call 125;go_must (refine (jv hY ⟨5,0,⟨#[]⟩,(i:Int),(j:Int)⟩ dk).mono ?_);rintro e Z ⟨v3,rfl,hZ,sZ⟩)
    | (go_at_call 126;go_must (refine (aJ k (by omega) _ _ _ _ _ aK ((hR.drewN _).go (at_+1)) bG).mono ?_);rintro e Y ⟨v2,rfl,hY,hb,sY⟩))
     go_roundw
     case rel =>
      refine ⟨k,l2.length,b,l2++[⟨5,0,⟨#[]⟩,(i:Int),(j:Int)⟩],v3,rfl,by omega,hm,hb,hZ,((qN (p:=⟨rb,1,none⟩) (zo hS _) (.inr rfl) _).trans sY).trans sZ⟩
     case measure =>
      have m1:=jb hR;have m2:=jb hZ;have:=zew s k _ _ _ _ _ _ aK;rw[m1,m2];omega
  by_cases eW:pk s at_=47
  ·have hc:=eW;have dp:dG false (pk s at_)=true:=by rw[hc];rfl
   rw[if_neg (by rw[dp];simp),hc] at hm;have bG:at_+1<=s.size:=zey (by omega);cases aK:rd s k (zdN false) (at_+1) l1 with
   | none=>rw[aK] at hm;cases hm
   | some r1 =>
    rw[aK] at hm;cases r1 with
    | bad b =>
     cases hm
     go_wp2_with (first
    | (go_at_call 123;go_must (refine (zl hR hs bz).mono ?_);rintro e X ⟨rfl,q,rfl⟩)
    | (go_at_call 124;(first | refine (idx_a47 _).mono ?_ | refine (idx_b47 _).mono ?_);rintro e X ⟨rfl,rfl⟩)
    | (go_at_call 126;go_must (refine (aJ k (by omega) _ _ _ _ _ aK ((hR.drewN _).go (at_+1)) bG).mono ?_);rintro e Y ⟨v2,rfl,sY⟩))
     exact ⟨rfl,v2,rfl,((qN (p:=⟨rb,1,none⟩) (zo hS _) (.inr rfl) _).trans sY)⟩
    | ok j b l2 =>
     simp only at hm;split at hm
     ·cases hm
     rename_i dk;have dk:l2.length < 1000:=by omega
     go_wp2_with (first
    | (go_at_call 123;go_must (refine (zl hR hs bz).mono ?_);rintro e X ⟨rfl,q,rfl⟩)
    | (go_at_call 124;(first | refine (idx_a47 _).mono ?_ | refine (idx_b47 _).mono ?_);rintro e X ⟨rfl,rfl⟩)
    | (go_at_call 125;go_must (refine (jv hY ⟨6,0,⟨#[]⟩,(i:Int),(j:Int)⟩ dk).mono ?_);rintro e Z ⟨v3,rfl,hZ,sZ⟩)
    | (go_at_call 126;go_must (refine (aJ k (by omega) _ _ _ _ _ aK ((hR.drewN _).go (at_+1)) bG).mono ?_);rintro e Y ⟨v2,rfl,hY,hb,sY⟩))
     go_roundw
     case rel =>
      refine ⟨k,l2.length,b,l2++[⟨6,0,⟨#[]⟩,(i:Int),(j:Int)⟩],v3,rfl,by omega,hm,hb,hZ,((qN (p:=⟨rb,1,none⟩) (zo hS _) (.inr rfl) _).trans sY).trans sZ⟩
     case measure =>
      have m1:=jb hR;have m2:=jb hZ;have:=zew s k _ _ _ _ _ _ aK;rw[m1,m2];omega
  have cq:dG false (pk s at_)=false:=by simp[dG,hc,eW]
  rw[if_pos cq] at hm;cases hm;by_cases h0:pk s at_=0
  ·go_wp2_with (first
    | (go_at_call 123;go_must (refine (zl hR hs bz).mono ?_);rintro e X ⟨rfl,q,rfl⟩))
   go_ret;exact ⟨v1,rfl,hR.drewN _,bz,zo hS _⟩
  ·have g1:¬ ((pk s at_:Nat):Int)=0:=by omega
   have g2:(((pk s at_:Nat):Int) == 0)=false:=by simpa using h0
   go_wp2_with (first
    | (go_at_call 123;go_must (refine (zl hR hs bz).mono ?_);rintro e X ⟨rfl,q,rfl⟩)
    | (go_at_call 124;go_must (refine (idx_false _ gJ cq _).mono ?_);rintro e X ⟨rfl,rfl⟩))
   go_ret;exact ⟨v1,rfl,hR.drewN _,bz,zo hS _⟩
def zhQ {rb n1:Nat} {s:ByteArray} (hs:s.size<=1000) {f:Nat} (aJ:∀ k,k<=f->zdx rb n1 s 110 k (zdN true)) (W:World) (a:Nat) (v:Value) (l:List Ab.Node) (r:PR) (hr:rd s (f+1) (.row true) a l=some r) (h:RD rb n1 s W a v l) (ha:a<=s.size) :
  Calls Tryz.prog 109 #[.pointer (some ⟨rb,0,none⟩),.string ⟨#[43,45]⟩,.func (.func 110) #[.pointer (some ⟨rb,0,none⟩)] #[]] W (PostR rb n1 s W v r):=by
 simp only[rd] at hr;have hE:(match rd s f (zdN true) a l with | some (.ok i a l')=>rd s f (.more true i) a l' | r=>r)=some r:=hr
 cases eK:rd s f (zdN true) a l with
 | none=>rw[eK] at hE;cases hE
 | some r0 =>
 rw[eK] at hE;cases r0 with
 | bad b =>
  cases hE
  go_enter Tryz.func109,Tryz.ntmps109
  go_wp2_with (go_at_call 110;go_must (refine (aJ f (le_refl _) _ _ _ _ _ eK h ha).mono ?_);rintro e Y ⟨v',rfl,sY⟩)
  exact ⟨rfl,v',rfl,sY⟩
 | ok i0 b0 l0 =>
 go_enter Tryz.func109,Tryz.ntmps109
 go_wp2_with (go_at_call 110;go_must (refine (aJ f (le_refl _) _ _ _ _ _ eK h ha).mono ?_);rintro e Y ⟨v',rfl,nq,bV,sY0⟩)
 go_loopw [7] (fun t wr=>∃ (k i at_:Nat) (l1:List Ab.Node) (v1:Value),t=.int .i64 i∧k<=f∧rd s k (.more true i) at_ l1=some r∧at_<=s.size∧RD rb n1 s wr at_ v1 l1∧Stp (some rb) v W wr v1) (fun _ wr=>s.size - atOf wr rb)
 case atStart=>exact ⟨f,i0,b0,l0,v',rfl,le_refl _,hE,bV,nq,sY0⟩
 case round =>
  obtain ⟨k,i,at_,l1,v1,rfl,hkf,hm,bz,hR,hS⟩:=hrel;have q1:=hR.c1;have qf:=hR.fr 1;have gJ:=pk_256 s at_;obtain ⟨k,rfl⟩:∃ k',k=k'+1:=by
   cases k with
   | zero=>cases hm
   | succ k=>exact ⟨k,rfl⟩
  simp only[rd] at hm;by_cases hc:pk s at_=43
  ·have dp:dG true (pk s at_)=true:=by rw[hc];rfl
   rw[if_neg (by rw[dp];simp),hc] at hm;have bG:at_+1<=s.size:=zey (by omega);cases aK:rd s k (zdN true) (at_+1) l1 with
   | none=>rw[aK] at hm;cases hm
   | some r1 =>
    rw[aK] at hm;cases r1 with
    | bad b =>
     cases hm
     go_wp2_with (first
    | (go_at_call 123;go_must (refine (zl hR hs bz).mono ?_);rintro e X ⟨rfl,q,rfl⟩)
    | (go_at_call 124;(first | refine (idx_a43 _).mono ?_ | refine (idx_b43 _).mono ?_);rintro e X ⟨rfl,rfl⟩)
    | (go_at_call 110;go_must (refine (aJ k (by omega) _ _ _ _ _ aK ((hR.drewN _).go (at_+1)) bG).mono ?_);rintro e Y ⟨v2,rfl,sY⟩))
     exact ⟨rfl,v2,rfl,((qN (p:=⟨rb,1,none⟩) (zo hS _) (.inr rfl) _).trans sY)⟩
    | ok j b l2 =>
     simp only at hm;split at hm
     ·cases hm
     rename_i dk;have dk:l2.length < 1000:=by omega
     go_wp2_with (first
    | (go_at_call 123;go_must (refine (zl hR hs bz).mono ?_);rintro e X ⟨rfl,q,rfl⟩)
    | (go_at_call 124;(first | refine (idx_a43 _).mono ?_ | refine (idx_b43 _).mono ?_);rintro e X ⟨rfl,rfl⟩)
    | (go_at_call 125;go_must (refine (jv hY ⟨3,0,⟨#[]⟩,(i:Int),(j:Int)⟩ dk).mono ?_);rintro e Z ⟨v3,rfl,hZ,sZ⟩)
    | (go_at_call 110;go_must (refine (aJ k (by omega) _ _ _ _ _ aK ((hR.drewN _).go (at_+1)) bG).mono ?_);rintro e Y ⟨v2,rfl,hY,hb,sY⟩))
     go_roundw
     case rel =>
      refine ⟨k,l2.length,b,l2++[⟨3,0,⟨#[]⟩,(i:Int),(j:Int)⟩],v3,rfl,by omega,hm,hb,hZ,((qN (p:=⟨rb,1,none⟩) (zo hS _) (.inr rfl) _).trans sY).trans sZ⟩
     case measure =>
      have m1:=jb hR;have m2:=jb hZ;have:=zew s k _ _ _ _ _ _ aK;rw[m1,m2];omega
  by_cases eW:pk s at_=45
  ·have hc:=eW;have dp:dG true (pk s at_)=true:=by rw[hc];rfl
   rw[if_neg (by rw[dp];simp),hc] at hm;have bG:at_+1<=s.size:=zey (by omega);cases aK:rd s k (zdN true) (at_+1) l1 with
   | none=>rw[aK] at hm;cases hm
   | some r1 =>
    rw[aK] at hm;cases r1 with
    | bad b =>
     cases hm
     go_wp2_with (first
    | (go_at_call 123;go_must (refine (zl hR hs bz).mono ?_);rintro e X ⟨rfl,q,rfl⟩)
    | (go_at_call 124;(first | refine (idx_a45 _).mono ?_ | refine (idx_b45 _).mono ?_);rintro e X ⟨rfl,rfl⟩)
    | (go_at_call 110;go_must (refine (aJ k (by omega) _ _ _ _ _ aK ((hR.drewN _).go (at_+1)) bG).mono ?_);rintro e Y ⟨v2,rfl,sY⟩))
     exact ⟨rfl,v2,rfl,((qN (p:=⟨rb,1,none⟩) (zo hS _) (.inr rfl) _).trans sY)⟩
    | ok j b l2 =>
     simp only at hm;split at hm
     ·cases hm
     rename_i dk;have dk:l2.length < 1000:=by omega
     go_wp2_with (first
    | (go_at_call 123;go_must (refine (zl hR hs bz).mono ?_);rintro e X ⟨rfl,q,rfl⟩)
    | (go_at_call 124;(first | refine (idx_a45 _).mono ?_ | refine (idx_b45 _).mono ?_);rintro e X ⟨rfl,rfl⟩)
    | (go_at_call 125;go_must (refine (jv hY ⟨4,0,⟨#[]⟩,(i:Int),(j:Int)⟩ dk).mono ?_);rintro e Z ⟨v3,rfl,hZ,sZ⟩)
    | (go_at_call 110;go_must (refine (aJ k (by omega) _ _ _ _ _ aK ((hR.drewN _).go (at_+1)) bG).mono ?_);rintro e Y ⟨v2,rfl,hY,hb,sY⟩))
     go_roundw
     case rel =>
      refine ⟨k,l2.length,b,l2++[⟨4,0,⟨#[]⟩,(i:Int),(j:Int)⟩],v3,rfl,by omega,hm,hb,hZ,((qN (p:=⟨rb,1,none⟩) (zo hS _) (.inr rfl) _).trans sY).trans sZ⟩
     case measure =>
      have m1:=jb hR;have m2:=jb hZ;have:=zew s k _ _ _ _ _ _ aK;rw[m1,m2];omega
  have cq:dG true (pk s at_)=false:=by simp[dG,hc,eW]
  rw[if_pos cq] at hm;cases hm;by_cases h0:pk s at_=0
  ·go_wp2_with (first
    | (go_at_call 123;go_must (refine (zl hR hs bz).mono ?_);rintro e X ⟨rfl,q,rfl⟩))
   go_ret;exact ⟨v1,rfl,hR.drewN _,bz,zo hS _⟩
  ·have g1:¬ ((pk s at_:Nat):Int)=0:=by omega
   have g2:(((pk s at_:Nat):Int) == 0)=false:=by simpa using h0
   go_wp2_with (first
    | (go_at_call 123;go_must (refine (zl hR hs bz).mono ?_);rintro e X ⟨rfl,q,rfl⟩)
    | (go_at_call 124;go_must (refine (idx_true _ gJ cq _).mono ?_);rintro e X ⟨rfl,rfl⟩))
   go_ret;exact ⟨v1,rfl,hR.drewN _,bz,zo hS _⟩
end Go.Proofs.TryzRead
end
