import Derived.Test.YtchidgkpkhloeaaGreatDoorProg
import Derived.Test.YtchidgkpkhloeaaGreatDoorH5
import Derived.WalkSpells
import Derived.BigQuiet
import Derived.BigRegion
import Derived.StillTailTactics
import Derived.Deep.DeepMust
import Derived.Maps.AppendAt
import Derived.OwnWalk
import Derived.Deep.OwnRows
import Derived.LoopTactic
open List (getElem?_map length_cons)
open Nat (le_trans)
open Option (map_some)
set_option linter.unusedSimpArgs false
set_option linter.unusedVariables false
set_option maxRecDepth 100000
set_option maxHeartbeats 8000000
section
namespace Go.Proofs.TryzSolve
open Go Go.RowKit Ab
end Go.Proofs.TryzSolve
end
section
namespace Go.Proofs.TryzSolve
open Go Go.RowKit Ab
abbrev K0 (W X:World):Prop:=KeepO (fun _=>False) W X
theorem K0.alloc (W:World) (o:Obj):K0 W (W.alloc o):=⟨rfl,rfl,rfl,by simp,fun x hx _=>Below.heap_alloc W o x hx⟩
theorem one_cell {w:World} {b:Nat} {v:Value} {el:TypeId} (h:w.heap[b]? = some (.cells #[v] el (0,0))):w.cell? ⟨b,0,none⟩=some v:=by simp only[World.cell?,h];rfl
end Go.Proofs.TryzSolve
end
section
namespace Go.Proofs.TryzReach
open Go Go.RowKit Ab
theorem infoI:(Tryz.prog.info? 3).map (fun i=>(i.zero,i.size,i.bytes))=some (some (.int .i64 0),1,8):=by kernel_rfl
theorem infoB:(Tryz.prog.info? 4).map (fun i=>(i.zero,i.size,i.bytes))=some (some (.bool false),1,1):=by kernel_rfl
theorem wz {P:Program} {e:TypeId} {z:Value} {s b:Nat} (h:(P.info? e).map (fun i=>(i.zero,i.size,i.bytes))=some (some z,s,b)):∃ i,P.info? e=some i∧i.zero=some z∧i.size=s∧i.bytes=b:=by obtain ⟨i,hi,hz⟩:=Option.map_eq_some_iff.1 h;simp only[Prod.mk.injEq] at hz;exact ⟨i,hi,hz.1,hz.2.1,hz.2.2⟩
theorem wy {W X Y:World} {row:Option Nat} (k:KeepO (fun _=>False) W X) (h:X.grownBy Y row) (hr:∀ b,row=some b->W.heap.size<=b):KeepO (fun _=>False) W Y :=
 ⟨h.os.trans k.os,h.tape.trans k.tape,h.output.trans k.output,le_trans k.size h.size,fun i hi hn=>(h.block i (Nat.lt_of_lt_of_le hi k.size) (fun e=>by have:=hr i e.symm;omega)).trans (k.block i hi hn)⟩
theorem eq_nil (b:Option Addr) (n c:Nat) (w:World):(binOp .eql 32 (.slice b n c) (.slice none 0 0)).run Tryz.prog w=.ok (.bool b.isNone) w:=by
 have e1:∀ dd,(Op.equalIn (dd+1) 32 (.slice b n c) (.slice none 0 0)).run Tryz.prog w=.ok b.isNone w:=fun dd=>by cases b<;>simp[Op.equalIn,run_underlying Tryz.underlying32]
 have k:(Op.equal 32 (.slice b n c) (.slice none 0 0)).run Tryz.prog w=.ok b.isNone w:=e1 9999;simp[binOp,k]
theorem news_ints {N:Nat} {W X:World} {b o:Nat} {l:List Int} (hk:∀ i,i < N->X.heap[i]? = W.heap[i]?) (h2:b < N) (h3:∀ j,j < l.length->W.cell? ⟨b,o+j,none⟩=some (.int .i64 (l.getD j 0))) :
  ∀ j u,(l.map (Value.int .i64))[j]? = some u->X.cell? ((⟨b,o,none⟩:Addr).add j)=some u:=by
 intro j u hu;rw[Addr.add_lit];rw[getElem?_map,Option.map_eq_some_iff] at hu;obtain ⟨x,hx,rfl⟩:=hu;have hj:=(List.getElem?_eq_some_iff.1 hx).1;have:=h3 j hj;rw[List.getD_eq_getElem?_getD,hx] at this;exact (World.cell?_of_block (a:=⟨b,o+j,none⟩) (hk b h2)).trans this
theorem ints_one (l:List Int):∀ u∈l.map (Value.int .i64),u.oneCell'=true:=fun u hu=>by obtain ⟨x,_,rfl⟩:=List.mem_map.1 hu;rfl
theorem zgz {N base:Nat} {W:World} {v:Value} {l:List Int} (h:wW N W v l) (hN:N<=W.heap.size) (hl:l.length<=1000000) (hb:base<=W.heap.size) :
  Calls Tryz.prog 131 #[v] W fun e W'=>∃ v',e=.returned v'∧zbw W' base v' l∧W.grownBy W' none∧∀ b,v'.ownBlock=some b->W.heap.size<=b:=by
 obtain ⟨i0,hi,hz0,hz1,hz2⟩:=wz infoI;have heq:=eq_nil;have hal:∀ i,i < N->(W.alloc (.cells #[] 3)).heap[i]? = W.heap[i]?:=fun i hi'=>Below.heap_alloc W _ i (by omega);rcases h with ⟨rfl,rfl | ⟨a,c,rfl⟩⟩ | ⟨b,o,cap,rfl,h2,h3⟩
 ·go_enter Tryz.func131,Tryz.ntmps131
  go_wp2_with fail
  go_ret;exact ⟨_,rfl,.inl ⟨none,rfl,rfl,by simp[Value.ownBlock]⟩,⟨rfl,rfl,rfl,Nat.le_refl _,fun _ _ _=>rfl⟩,by simp[Value.ownBlock]⟩
 ·go_enter Tryz.func131,Tryz.ntmps131
  go_wp2_with (at_builtin;go_loud (refine wpList_append_own_at _ rfl _ _ 32 rfl base 3 i0 (.int .i64 0) 1 8 Tryz.underlying32 hi hz0 hz1 hz2 rfl (by decide) (.slice (some ⟨W.heap.size,0,none⟩) 0 0) 0 [] rfl (World.ownsRow_made W #[] 0 hb (by decide) rfl) a 0 c [] rfl rfl (fun j u hu=>by cases hu) (fun u hu=>by cases hu) (by decide) (by decide) (by simp;omega) ?_);intro v' w1 hown hgrow hnil hat)
  go_ret;refine ⟨v',rfl,own_q (by simp) hown,⟨hgrow.os,hgrow.tape,hgrow.output,by have:=hgrow.size;simp at this;omega,fun k hk _ => ?_⟩,fun b hb' => ?_⟩
  ·exact (hgrow.block k (by simp;omega) (fun e=>by simp[Value.ownBlock] at e;omega)).trans (Below.heap_alloc W _ k hk)
  ·rcases hat with e | e<;>(rw[e] at hb';simp[Value.ownBlock] at hb';omega)
 ·go_enter Tryz.func131,Tryz.ntmps131
  go_wp2_with (at_builtin;go_loud (refine wpList_append_own_at _ rfl _ _ 32 rfl base 3 i0 (.int .i64 0) 1 8 Tryz.underlying32 hi hz0 hz1 hz2 rfl (by decide) (.slice (some ⟨W.heap.size,0,none⟩) 0 0) 0 [] rfl (World.ownsRow_made W #[] 0 hb (by decide) rfl) ⟨b,o,none⟩ l.length cap (l.map (.int .i64)) rfl (by simp) (news_ints hal h2 h3) (ints_one l) (by unfold maxLen;omega) (by omega) (by simp;omega) ?_);intro v' w1 hown hgrow hnil hat)
  go_ret;rw[Nat.zero_add,List.nil_append] at hown;refine ⟨v',rfl,own_q rfl hown,⟨hgrow.os,hgrow.tape,hgrow.output,by have:=hgrow.size;simp at this;omega,fun k hk _ => ?_⟩,fun b hb' => ?_⟩
  ·exact (hgrow.block k (by simp;omega) (fun e=>by simp[Value.ownBlock] at e;omega)).trans (Below.heap_alloc W _ k hk)
  ·rcases hat with e | e<;>(rw[e] at hb';simp[Value.ownBlock] at hb';omega)
def lenV:Value->Nat
 | .slice _ n _=>n
 | _=>0
def boolV:Value->Bool
 | .bool b=>b
 | _=>false
def seenOf (w:World) (sb:Nat):List Bool:=match w.heap[sb]? with
 | some (.cells cs _ _)=>cs.toList.map boolV
 | _=>[]
theorem zeP {w:World} {sb:Nat} {seen:List Bool} (h:w.heap[sb]? = some (.cells (seen.map Value.bool).toArray 4 (0,0))):seenOf w sb=seen:=by
 unfold seenOf;rw[h];simp only[List.map_map]
 conv=>rhs;rw[← List.map_id seen]
 exact List.map_congr_left fun b _=>rfl
theorem seen_cell {w:World} {sb k:Nat} {seen:List Bool} (h:w.heap[sb]? = some (.cells (seen.map Value.bool).toArray 4 (0,0))) (hk:k < seen.length):w.cell? ⟨sb,k,none⟩=some (.bool (seen.getD k false))∧w.frozen? ⟨sb,k,none⟩=false:=by refine ⟨?_,by unfold World.frozen?;rw[h];simp⟩;simp only[World.cell?,h,List.getElem?_toArray,getElem?_map,List.getElem?_eq_getElem hk,map_some,List.getD_eq_getElem?_getD,Option.getD_some];rfl
theorem seen_set {w:World} {sb k:Nat} {seen:List Bool} (h:w.heap[sb]? = some (.cells (seen.map Value.bool).toArray 4 (0,0))) (hk:k < seen.length):(w.setCell ⟨sb,k,none⟩ (.bool true)).heap[sb]? = some (.cells ((seen.set k true).map Value.bool).toArray 4 (0,0)):=by simp only[World.setCell,Array.getElem?_modify,if_true,h,map_some];congr 2;apply Array.ext';simp[List.map_set]
theorem zgU:∀ (l:List Nat) (f:Nat->Nat),(∀ x,f x<=1000)->(l.map f).sum<=l.length * 1000
 | [],_,_=>by simp
 | a :: r,f,h=>by
  have:=zgU r f h;have:=h a;simp only[List.map_cons,List.sum_cons,length_cons];omega
theorem left_most {n:List (List Int)} (h1:n.length<=1000) (h2:∀ k,(n.getD k []).length<=1000) (seen:List Bool):zaa n seen<=1000000:=by
 unfold zaa;refine le_trans (zgU _ _ fun x => ?_) (by rw[List.length_range];omega);split
 ·omega
 ·exact h2 x
theorem made_seen (m:Nat):madeCells #[.bool false] m=((List.replicate m false).map Value.bool).toArray:=by
 apply Array.ext';simp[madeCells,List.map_replicate];apply List.ext_getElem?;intro j;simp only[getElem?_map,List.getElem?_replicate];by_cases hj:j < m
 ·rw[List.getElem?_range hj,if_pos hj];simp[Nat.mod_one]
 ·rw[List.getElem?_eq_none (by rw[List.length_range];omega),if_neg hj];rfl
theorem qlen {W:World} {base:Nat} {v:Value} {l:List Int} (h:zbw W base v l):lenV v=l.length:=by rcases h with ⟨a,rfl,rfl,_⟩ | ⟨g,o,cap,rfl,_⟩<;>rfl
theorem qtail {W:World} {base g o cap:Nat} {row:List Int} {x:Int} (h2:base<=g) (h3:g < W.heap.size) (h4:row.length+1<=cap) (h6:cap<=maxLen)
  (h7:∀ j,j < (x :: row).length->W.cell? ⟨g,o+j,none⟩=some (.int .i64 ((x :: row).getD j 0))) (h8:∀ j,j < cap->(W.cell? ⟨g,o+j,none⟩).isSome=true∧W.frozen? ⟨g,o+j,none⟩=false) :
  zbw W base (.slice (if cap=1 then some ⟨g,o,none⟩ else some ⟨g,o+1,none⟩) row.length (cap - 1)) row:=by
 by_cases hc:cap=1
 ·subst hc;have:row=[]:=List.length_eq_zero_iff.1 (by omega);subst this;exact .inl ⟨_,rfl,rfl,fun b hb=>by simp[Value.ownBlock] at hb;omega⟩
 ·rw[if_neg hc];refine .inr ⟨g,o+1,cap - 1,rfl,h2,h3,by omega,by omega,by omega,fun j hj => ?_,fun j hj => ?_⟩
  ·rw[show o+1+j=o+(j+1) by omega];exact (h7 (j+1) (by simp;omega)).trans (by simp)
  ·rw[show o+1+j=o+(j+1) by omega];exact h8 (j+1) (by omega)
theorem reach_calls {n:List (List Int)} {i:Nat} {v:Value} {W:World} {b:Bool} (hR:RowsAt W.heap.size W v n) (hs:SmallR n i) (hb:zdE n i=some b) :
  Calls Tryz.prog 98 #[v,.int .i64 i] W fun e W'=>e=.returned (.bool b)∧KeepO (fun _=>False) W W':=by
 obtain ⟨i0,hi,hz0,hz1,hz2⟩:=wz infoI;obtain ⟨ib,bi,bz0,bz1,bz2⟩:=wz infoB;have hrng:=hs.rng;have hin:i < n.length:=by have:=hs.hi;simpa using this
 have hlen:=hs.len;have hrow:=hs.rows;have hR0:=hR;obtain ⟨b0,o0,cap0,rfl,hb0,hrows⟩:=hR0;obtain ⟨u,hu,hui⟩:=hrows i (n.getD i []) (by rw[List.getD_eq_getElem?_getD,List.getElem?_eq_getElem hin];rfl);have a0:(0:Int)<=(i:Int):=Int.natCast_nonneg _;have a1:(i:Int) < (n.length:Int):=by omega
 have hold:∀ k,k < W.heap.size->(W.alloc (.cells (madeCells #[.bool false] n.length) 4)).heap[k]? = W.heap[k]?:=fun k hk=>Below.heap_alloc W _ k hk;have hu1:(W.alloc (.cells (madeCells #[.bool false] n.length) 4)).cell? ⟨b0,o0+i,none⟩=some u:=(World.cell?_of_block (a:=⟨b0,o0+i,none⟩) (hold b0 hb0)).trans hu;have hc:=zgz (base:=W.heap.size+1) (hui.keep hold) (by simp) (le_trans (hrow i) (by omega)) (by simp)
 go_enter Tryz.func98,Tryz.ntmps98
 go_wp2_with (first
  | (refine wpList_make_row _ rfl _ _ 86 rfl 4 ib (.bool false) Tryz.underlying86 bi bz0 bz1 rfl .i64 .i64 n.length rfl rfl (by rw[bz2];omega) (by omega) ?_)
  | (go_at_call 131;go_must (refine hc.mono ?_);rintro e X ⟨v',rfl,hq,hg,hown⟩))
 have hX:X.heap[W.heap.size]? = some (.cells ((List.replicate n.length false).map Value.bool).toArray 4 (0,0)):=(by rw[← made_seen];exact (hg.block _ (by simp) (fun e=>by cases e)).trans (heap_alloc_new W _));have kX:KeepO (fun _=>False) W X:=wy (⟨rfl,rfl,rfl,by simp,fun k hk _=>Below.heap_alloc W _ k hk⟩:KeepO (fun _=>False) W (W.alloc (.cells (madeCells #[.bool false] n.length) 4))) hg (fun b e=>by cases e);have hlm:=left_most hlen hrow;clear hc hu1 hold hu hui
 go_loopw [6] (fun t6 wr=>∃ (f:Nat) (seen:List Bool) (row:List Int),zbw wr (W.heap.size+1) t6 row∧wr.heap[W.heap.size]? = some (.cells (seen.map Value.bool).toArray 4 (0,0))∧seen.length=n.length∧(∀ k∈row,0<=k∧k < n.length)∧zis n i f seen row=some b∧row.length+zaa n seen<=1001000∧KeepO (fun _=>False) W wr) (fun t6 wr=>lenV t6+zaa n (seenOf wr W.heap.size))
 case atStart =>
  exact ⟨_,_,_,hq,hX,by simp,fun k hk=>hrng i k hk,hb,by have:=hlm (List.replicate n.length false);have:=hrow i;omega,kX⟩
 case round =>
  obtain ⟨f,seen,row,hQ,hS,hsl,hk,hf,hC,hK⟩:=hrel;obtain ⟨f,rfl⟩:∃ f',f=f'+1:=by
   cases f with
   | zero=>cases hf
   | succ f=>exact ⟨f,rfl⟩
  cases row with
  | nil =>
   simp only[zis] at hf;cases hf;rcases hQ with ⟨a,rfl,_,_⟩ | ⟨g,o,cap,rfl,_⟩
   ·go_wp2_with fail
    go_ret;exact ⟨rfl,hK⟩
   ·go_wp2_with fail
    go_ret;exact ⟨rfl,hK⟩
  | cons k0 row =>
   obtain ⟨hk0,hk1⟩:=hk k0 (by simp);obtain ⟨k,rfl⟩:∃ k:Nat,k0=k:=⟨k0.toNat,by omega⟩;rcases hQ with ⟨a,_,e,_⟩ | ⟨g,o,cap,rfl,h2,h3,h4,h5,h6,h7,h8⟩
   ·cases e
   have hkn:k < n.length:=by omega
   have c0:wr.cell? ⟨g,o,none⟩=some (.int .i64 k):=h7 0 (by simp);obtain ⟨sc,sf⟩:=seen_cell hS (k:=k) (by omega);simp only[length_cons] at h4 hC;have d0:(1:Int)<=((row.length+1:Nat):Int):=by omega
   have d1:(0:Int) < ((row.length+1:Nat):Int):=by omega
   have d2:((row.length+1:Nat):Int)<=(cap:Int):=by omega
   have d3:(k:Int) < (seen.length:Int):=by omega
   have d4:(k:Int) < (n.length:Int):=by omega
   simp only[zis,Int.toNat_natCast] at hf;by_cases e:(k:Int)=(i:Int)
   ·rw[if_pos e] at hf;cases hf;have e':k=i:=by omega
    subst e'
    go_wp2_with fail
    all_goals (go_ret;exact ⟨rfl,hK⟩)
   rw[if_neg e] at hf;cases hsk:seen.getD k false with
   | true =>
    rw[hsk] at hf sc;rw[if_pos rfl] at hf
    go_wp2_with fail
    go_roundw
    case rel=>exact ⟨f,seen,row,qtail h2 h3 h4 h6 h7 h8,hS,hsl,fun x hx=>hk x (List.mem_cons_of_mem _ hx),hf,by omega,hK⟩
    case measure =>
     simp only[lenV,length_cons];omega
   | false =>
    rw[hsk] at hf sc;rw[if_neg (by simp)] at hf;have hS':=seen_set hS (k:=k) (by omega);have hq':=(qtail h2 h3 h4 h6 h7 h8).kept (w':=wr.setCell ⟨W.heap.size,k,none⟩ (.bool true)) (row:=some W.heap.size) (qW wr W.heap.size k [.bool true]) (fun x hx e=>by cases e;split at hx<;>(simp[Value.ownBlock] at hx;omega))
    have kS:KeepO (fun _=>False) W (wr.setCell ⟨W.heap.size,k,none⟩ (.bool true)):=wy hK (qW wr W.heap.size k [.bool true]) (fun x hx=>by cases hx;exact Nat.le_refl _);obtain ⟨y,hy,hyi⟩:=hrows k (n.getD k []) (by rw[List.getD_eq_getElem?_getD,List.getElem?_eq_getElem hkn];rfl);have y1:(wr.setCell ⟨W.heap.size,k,none⟩ (.bool true)).cell? ⟨b0,o0+k,none⟩=some y:=(World.cell?_of_block (a:=⟨b0,o0+k,none⟩) (kS.block b0 hb0 id)).trans hy;have ysrc:=(hyi.keep (fun x hx=>kS.block x hx id)).src (P:=Tryz.prog) (t:=32) (e:=3) Tryz.underlying32;have hset:=zax hsl hkn hsk;have hl0:∀ x,(n.getD x []).length<=1000:=hrow;have hwb:W.heap.size+1<=(wr.setCell ⟨W.heap.size,k,none⟩ (.bool true)).heap.size:=le_trans (by omega) (qW wr W.heap.size k [.bool true]).size
    go_wp2_with (at_builtin;go_loud (refine jY rfl _ _ 32 rfl hq' hwb Tryz.underlying32 hi hz0 hz1 hz2 rfl rfl rfl ysrc (by have:=hl0 k;omega) ?_);intro v2 w2 hQ2 hG2 hAt)
    have hob:(Value.slice (if cap=1 then some (⟨g,o,none⟩:Addr) else some ⟨g,o+1,none⟩) row.length (cap - 1)).ownBlock=some g:=by split<;>rfl
    rw[hob] at hG2;have k2:=wy kS hG2 (fun x hx=>by cases hx;omega);have hS2:w2.heap[W.heap.size]? = _:=(hG2.block W.heap.size (by omega) (fun e=>by cases e;omega)).trans hS'
    go_roundw
    case rel =>
     refine ⟨f,seen.set k true,row++n.getD k [],hQ2,hS2,by rw[List.length_set];exact hsl,fun x hx => ?_,hf,by rw[List.length_append];omega,k2⟩;rcases List.mem_append.1 hx with hx | hx
     ·exact hk x (List.mem_cons_of_mem _ hx)
     ·exact hrng k x hx
    case measure =>
     rw[qlen hQ2,zeP hS2,zeP hS];simp only[lenV,length_cons,List.length_append];omega
end Go.Proofs.TryzReach
end
