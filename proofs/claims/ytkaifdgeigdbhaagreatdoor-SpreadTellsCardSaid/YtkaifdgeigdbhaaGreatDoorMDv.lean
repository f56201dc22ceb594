/-
  The document's ReadFormula, walked at this seat's program.
-/
import Derived.Test.YtkaifdgeigdbhaaGreatDoorD1
import Derived.Test.YtkaifdgeigdbhaaGreatDoorD3
open Nat (le_refl zero_le)
set_option linter.all false
set_option maxRecDepth 100000
set_option maxHeartbeats 4000000
namespace Go.Proofs.TryzRead
open Go Go.RowKit Ab
def jI {rb n1:Nat} {s:ByteArray} (hs:s.size<=1000):∀ f,∀ k,k<=f->OneC rb n1 s k .one∧SumC rb n1 s 2 k (.row false)∧SumC rb n1 s 1 k (.row true)
 | 0,k,hk=>by
  obtain rfl:k=0:=by omega
  exact ⟨fun W a v l r h=>(by cases h),fun W a v l r h=>(by cases h),fun W a v l r h=>(by cases h)⟩
 | f+1,k,hk=>by
  by_cases e:k<=f
  ·exact jI hs f k e
  ·obtain rfl:k=f+1:=by omega
   have ih:=jI (rb:=rb) (n1:=n1) hs f;exact ⟨zkU hs (ih f (le_refl _)).2.2,zkE hs fun k hk=>zkF (ih k hk).1,sumI_true hs fun k hk=>(ih k hk).2.1⟩
def zjI (s:ByteArray) (W:World):RI W.heap.size (W.heap.size+1) s (W.alloc (.cells #[.string s,.int .i64 (0:Nat),.bool false,.slice none 0 0] 181)) 0 false (.slice none 0 0) []:=by refine ⟨World.alloc_heap_new W _,⟨rfl,.inl ⟨rfl,rfl⟩⟩,by omega,by simp⟩
def zaQ (W:World) (X:Obj):KeepO (fun _=>False) W (W.alloc X):=yh (.refl _ _) _
def readI_long (s:ByteArray) (hs:100 < s.size) (W:World):Calls Tryz.prog 93 #[.string s] W fun e W'=>e=.returned (.tuple #[.slice none 0 0,.int .i64 0,.int .i64 4])∧KeepO (fun _=>False) W W':=by
 have h1:(100:Int) < (s.size:Int):=by omega
 go_enter Tryz.func93,Tryz.ntmps93
 go_wp2_with fail
 go_ret3
 exact ⟨rfl,.refl _ _⟩
def readI_bad (s:ByteArray) (hs:s.size<=100) (f b:Nat) (hr:rd s f (.row true) 0 []=some (.bad b)) (W:World):Calls Tryz.prog 93 #[.string s] W fun e W'=>e=.returned (.tuple #[.slice none 0 0,.int .i64 b,.int .i64 2])∧KeepO (fun _=>False) W W':=by
 have h1:¬ (100:Int) < (s.size:Int):=by omega
 have hc:=(jI (rb:=W.heap.size) (n1:=W.heap.size+1) (s:=s) (by omega) f f (le_refl _)).2.2 _ _ _ _ _ hr (zjI s W) (zero_le _)
 go_enter Tryz.func93,Tryz.ntmps93
 go_wp2_with (go_at_call 131;go_must (refine hc.mono ?_);rintro e Y ⟨v',l',z,rfl,hY,hb,sY⟩;have y1:=hY.c1;have y2:=hY.c2)
 go_quiet (fail)
 go_wp2_with fail
 go_ret3
 exact ⟨rfl,qx (zaQ _ _) sY (zaR (.refl (fun _=>False) _) _) (fun i h=>h.elim) (le_refl _) rfl⟩
def readI_short (s:ByteArray) (hs:s.size<=100) (f i b:Nat) (l:List Ab.Node) (hr:rd s f (.row true) 0 []=some (.ok i b l)) (ae:b < s.size) (W:World):Calls Tryz.prog 93 #[.string s] W fun e W'=>e=.returned (.tuple #[.slice none 0 0,.int .i64 b,.int .i64 2])∧KeepO (fun _=>False) W W':=by
 have h2:(b:Int) < (s.size:Int):=by omega
 have h1:¬ (100:Int) < (s.size:Int):=by omega
 have hc:=(jI (rb:=W.heap.size) (n1:=W.heap.size+1) (s:=s) (by omega) f f (le_refl _)).2.2 _ _ _ _ _ hr (zjI s W) (zero_le _)
 go_enter Tryz.func93,Tryz.ntmps93
 go_wp2_with (go_at_call 131;go_must (refine hc.mono ?_);rintro e Y ⟨v',rfl,hY,hb,sY⟩;have y1:=hY.c1;have y2:=hY.c2)
 go_quiet (fail)
 go_wp2_with fail
 go_ret3
 exact ⟨rfl,qx (zaQ _ _) sY (zaR (.refl (fun _=>False) _) _) (fun i h=>h.elim) (le_refl _) rfl⟩
def readI_fault (s:ByteArray) (hs:s.size<=100) (f i b:Nat) (l:List Ab.Node) (n:Int) (hr:rd s f (.row true) 0 []=some (.ok i b l)) (ae:s.size<=b) (hn:n≠0) (W:World)
  (bC:∀ (v:Value) (X:World),KeepO (fun _=>False) W X->z7 W.heap.size X v l->Calls Tryz.prog 132 #[v] X fun e w'=>e=.returned (.int .i64 n)∧KeepO (fun _=>False) X w') :
  Calls Tryz.prog 93 #[.string s] W fun e W'=>e=.returned (.tuple #[.slice none 0 0,.int .i64 0,.int .i64 n])∧KeepO (fun _=>False) W W':=by
 have h2:¬ (b:Int) < (s.size:Int):=by omega
 have h1:¬ (100:Int) < (s.size:Int):=by omega
 have h3:¬ n=0:=hn;have h4:(n != 0)=true:=by simpa using hn
 have hc:=(jI (rb:=W.heap.size) (n1:=W.heap.size+1) (s:=s) (by omega) f f (le_refl _)).2.2 _ _ _ _ _ hr (zjI s W) (zero_le _)
 go_enter Tryz.func93,Tryz.ntmps93
 go_wp2_with (first
  | (go_at_call 131;go_must (refine hc.mono ?_);rintro e Y ⟨v',rfl,hY,hb,sY⟩;obtain ⟨va,vm,vc,rfl⟩:=zdT hY.row;have y1:=hY.c1;have y2:=hY.c2;have y3:=hY.c3)
  | (go_at_call 132;go_must (refine (bC _ _ (qx (zaQ _ _) sY (.refl (fun _=>False) _) (fun i h=>h.elim) (le_refl _) rfl) (zaO (zcc hY.row rfl) (.refl (fun _=>False) _) (fun i h=>h.elim) (by omega))).mono ?_);rintro e X ⟨rfl,kX⟩))
 go_ret3
 exact ⟨rfl,qx (zaQ _ _) sY kX (fun i h=>h.elim) (le_refl _) rfl⟩
def readI_done (s:ByteArray) (hs:s.size<=100) (f i b:Nat) (l:List Ab.Node) (hr:rd s f (.row true) 0 []=some (.ok i b l)) (ae:s.size<=b) (W:World)
  (bC:∀ (v:Value) (X:World),KeepO (fun _=>False) W X->z7 W.heap.size X v l->Calls Tryz.prog 132 #[v] X fun e w'=>e=.returned (.int .i64 0)∧KeepO (fun _=>False) X w') :
  Calls Tryz.prog 93 #[.string s] W fun e W'=>∃ v',e=.returned (.tuple #[v',.int .i64 0,.int .i64 0])∧z7 W.heap.size W' v' l∧KeepO (fun _=>False) W W':=by
 have h2:¬ (b:Int) < (s.size:Int):=by omega
 have h1:¬ (100:Int) < (s.size:Int):=by omega
 have hc:=(jI (rb:=W.heap.size) (n1:=W.heap.size+1) (s:=s) (by omega) f f (le_refl _)).2.2 _ _ _ _ _ hr (zjI s W) (zero_le _)
 go_enter Tryz.func93,Tryz.ntmps93
 go_wp2_with (first
  | (go_at_call 131;go_must (refine hc.mono ?_);rintro e Y ⟨v',rfl,hY,hb,sY⟩;obtain ⟨va,vm,vc,rfl⟩:=zdT hY.row;have y1:=hY.c1;have y2:=hY.c2;have y3:=hY.c3)
  | (go_at_call 132;go_must (refine (bC _ _ (qx (zaQ _ _) sY (.refl (fun _=>False) _) (fun i h=>h.elim) (le_refl _) rfl) (zaO (zcc hY.row rfl) (.refl (fun _=>False) _) (fun i h=>h.elim) (by omega))).mono ?_);rintro e X ⟨rfl,kX⟩;have r3:=qT kX hY.c3))
 go_ret3
 exact ⟨_,rfl,zaO (zcc hY.row rfl) kX (fun i h=>h.elim) (by omega),qx (zaQ _ _) sY kX (fun i h=>h.elim) (le_refl _) rfl⟩
end Go.Proofs.TryzRead
