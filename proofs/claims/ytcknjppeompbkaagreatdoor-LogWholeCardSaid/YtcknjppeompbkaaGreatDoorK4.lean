import Derived.Test.YtcknjppeompbkaaGreatDoorK12
import Derived.Defers
import Derived.Recover
import Derived.Deep.OwnRows
open List (getElem?_map length_cons length_range)
open Nat (le_refl le_trans)
open Option (map_some)
set_option linter.all false
set_option maxRecDepth 100000
set_option maxHeartbeats 8000000
section
namespace Go.Proofs.TryzRead
open Go Go.RowKit Ab
section
variable {rb n1:Nat} {s:ByteArray}
def zex (hs:s.size<=1000) {f:Nat} (aJ:∀ k,k<=f->zdx rb n1 s 126 k .one):zdx rb n1 s 110 (f+1) (.row false):=by
 have iV:∀ (fn:Fn) (first cap:Array Value) (w:World),(Instr.makeFunc fn first cap).run Tryz.prog w=.ok (.func fn first cap) w:=fun _ _ _ _=>rfl
 intro W a v l r hr h ha
 go_enter Tryz.func110,Tryz.ntmps110
 cases r with
 | bad b =>
  go_wp2_with (go_at_call 109;go_must (refine (zfA hs aJ _ _ _ _ _ hr h ha).mono ?_);rintro e Y ⟨v',rfl,sY⟩)
  exact ⟨rfl,v',rfl,sY⟩
 | ok i b l' =>
  go_wp2_with (go_at_call 109;go_must (refine (zfA hs aJ _ _ _ _ _ hr h ha).mono ?_);rintro e Y ⟨v',rfl,hY,hb,sY⟩)
  go_ret;exact ⟨v',rfl,hY,hb,sY⟩
def sum_calls (hs:s.size<=1000) {f:Nat} (aJ:∀ k,k<=f->zdx rb n1 s 110 k (.row false)):zdx rb n1 s 105 (f+1) (.row true):=by
 have iV:∀ (fn:Fn) (first cap:Array Value) (w:World),(Instr.makeFunc fn first cap).run Tryz.prog w=.ok (.func fn first cap) w:=fun _ _ _ _=>rfl
 intro W a v l r hr h ha
 go_enter Tryz.func105,Tryz.ntmps105
 cases r with
 | bad b =>
  go_wp2_with (go_at_call 109;go_must (refine (zhQ hs aJ _ _ _ _ _ hr h ha).mono ?_);rintro e Y ⟨v',rfl,sY⟩)
  exact ⟨rfl,v',rfl,sY⟩
 | ok i b l' =>
  go_wp2_with (go_at_call 109;go_must (refine (zhQ hs aJ _ _ _ _ _ hr h ha).mono ?_);rintro e Y ⟨v',rfl,hY,hb,sY⟩)
  go_ret;exact ⟨v',rfl,hY,hb,sY⟩
def jQ (hs:s.size<=1000):∀ f,∀ k,k<=f->zdx rb n1 s 126 k .one∧zdx rb n1 s 110 k (.row false)∧zdx rb n1 s 105 k (.row true)
 | 0,k,hk=>by
  obtain rfl:k=0:=by omega
  exact ⟨fun W a v l r h=>(by cases h),fun W a v l r h=>(by cases h),fun W a v l r h=>(by cases h)⟩
 | f+1,k,hk=>by
  by_cases e:k<=f
  ·exact jQ hs f k e
  ·obtain rfl:k=f+1:=by omega
   have ih:=jQ hs f;exact ⟨one_calls hs (ih f (le_refl _)).2.2,zex hs fun k hk=>(ih k hk).1,sum_calls hs fun k hk=>(ih k hk).2.1⟩
end
def zbv (p q r:Addr) (w:World) :
  CallsD Tryz.prog 104 #[.pointer (some p),.pointer (some q),.pointer (some r)] .returning w fun e u' w'=>e=.returned (.tuple #[])∧u'=.returning∧w'=w:=by
 refine callsD_of_wpS Tryz.func104 rfl fun c₀ cs hu => ?_;apply wpS_seq;apply wpS_region;simp[wpOpsS,go_sem,recoverD,hu,Tryz.ntmps104,Exit.thenS];refine wpS_of_wp ?_
 go_wp2
 cases c₀;simp_all[bodyPostS,results,Tryz.results104]
def jk {W:World} {ob:Nat} {v v':Value} {T:TypeId} (h:W.heap[ob]? = some (.cells #[v] T (0,0))):(W.setCell ⟨ob,0,none⟩ v').heap[ob]? = some (.cells #[v'] T (0,0)):=by simp only[World.setCell,Array.getElem?_modify,if_true,h,map_some];rfl
def zQ {W:World} {ob k:Nat} (v':Value) (hk:k≠ob):(W.setCell ⟨ob,0,none⟩ v').heap[k]? = W.heap[k]?:=Below.heap_setCell _ _ _ k fun e=>hk e
def jN {O:Nat->Prop} {W X:World} (k:KeepO O W X) {b:Nat} (hb:O b) (v:Value):KeepO O W (X.setCell ⟨b,0,none⟩ v) :=
 ⟨k.os,k.tape,k.output,le_trans k.size (KeepsWalks.setCell X _ _).size,fun i hi hn=>(zQ v (fun e=>hn (by rw[e];exact hb))).trans (k.block i hi hn)⟩
def yo {O:Nat->Prop} {W X:World} (k:KeepO O W X) (o:Obj):KeepO O W (X.alloc o):=⟨k.os,k.tape,k.output,by have:=k.size;simp;omega,fun i hi hn=>(zag (Nat.lt_of_lt_of_le hi k.size)).trans (k.block i hi hn)⟩
def oy {O:Nat->Prop} {W X:World} (k:KeepO O W X) (n:Nat):KeepO O W (X.drewN n):=⟨k.os,k.tape,k.output,k.size,k.block⟩
def one_cell {W:World} {ob:Nat} {v:Value} {T:TypeId} (h:W.heap[ob]? = some (.cells #[v] T (0,0))):W.cell? ⟨ob,0,none⟩=some v:=by simp[World.cell?,h]
def zc8 (B:Nat) (n:Int) (older:List PanicEntry) (w:World) (x:Value) (y:Int) (z:Value) (T1 T2 T3:TypeId) (hp:w.heap[B]? = some (.cells #[x] T1 (0,0))) (hq:w.heap[B+1]? = some (.cells #[.int .i64 y] T2 (0,0))) (hr:w.heap[B+2]? = some (.cells #[z] T3 (0,0))) :
  CallsD Tryz.prog 104 #[.pointer (some ⟨B,0,none⟩),.pointer (some ⟨B+1,0,none⟩),.pointer (some ⟨B+2,0,none⟩)] (.panicking ({ v:=.iface 179 (.agg #[.int .i64 n]),recovered:=false } :: older)) w fun e u' w'=>e=.returned (.tuple #[])∧u'=.panicking ({ v:=.iface 179 (.agg #[.int .i64 n]),recovered:=true } :: older) ∧
   KeepO (fun b=>b=B∨b=B+1∨b=B+2) w w'∧w'.cell? ⟨B,0,none⟩=some (.slice none 0 0)∧w'.cell? ⟨B+1,0,none⟩=some (.int .i64 n)∧w'.cell? ⟨B+2,0,none⟩=some (.iface 67 (.int .i64 2)):=by
 have one:∀ {W:World} {ob:Nat} {v:Value} {T:TypeId},W.heap[ob]? = some (.cells #[v] T (0,0))->W.cell? ⟨ob,0,none⟩=some v∧W.frozen? ⟨ob,0,none⟩=false:=fun h=>by simp[World.cell?,World.frozen?,h]
 obtain ⟨p1,p2⟩:=one hp;obtain ⟨q1,q2⟩:=one hq;obtain ⟨r1,r2⟩:=one hr;have l1:=(Array.getElem?_eq_some_iff.1 hp).1;have l2:=(Array.getElem?_eq_some_iff.1 hq).1;have l3:=(Array.getElem?_eq_some_iff.1 hr).1;have m1:¬ B=w.heap.size:=by omega
 have m2:¬ B+1=w.heap.size:=by omega
 have m3:¬ B+2=w.heap.size:=by omega
 refine callsD_of_wpS Tryz.func104 rfl fun c₀ cs hu => ?_;simp only[Tryz.ntmps104,List.size_toArray,length_cons,List.length_nil,Nat.reduceAdd,Nat.reduceSub,Array.replicate_succ,Array.replicate_zero,List.push_toArray,List.append_toArray,List.nil_append,List.cons_append];apply wpS_seq;apply wpS_region;simp[wpOpsS,go_sem,recoverD,hu,Exit.thenS];refine wpS_of_wp ?_;have hta:∀ w,(Instr.typeAssert (.iface 179 (.agg #[.int .i64 n])) 20 179 true).run Tryz.prog w=.ok (.tuple #[.agg #[.int .i64 n],.bool true]) w:=fun w=>by kernel_rfl
 go_wp2
 go_region
 all_goals go_wp2
 all_goals
  refine ⟨rfl,_,rfl,_,by simp[results,Tryz.results104],rfl,rfl,oy (yo (jN (jN (jN (.refl _ _) (.inl rfl) _) (.inr (.inl rfl)) _) (.inr (.inr rfl)) _) _) 1, ?_, ?_, ?_⟩
  ·exact one_cell (qE ((zQ _ (by omega)).trans ((zQ _ (by omega)).trans (jk hp))))
  ·exact one_cell (qE ((zQ _ (by omega)).trans (jk ((zQ _ (by omega)).trans hq))))
  ·exact one_cell (qE (jk ((zQ _ (by omega)).trans ((zQ _ (by omega)).trans hr))))
end Go.Proofs.TryzRead
end
section
namespace Ab
open Go
def allN_len (d:Dim):(zfn d).length=d.members.length:=by unfold zfn;rw[List.length_map,length_range]
def P315_eq (d:Dim):P315 d=some ((yj d).1,zp (yj d).2):=by simp only[P315,S315,P340_eq,zq]
end Ab
end
section
namespace Ab
open Go
section
variable (F28:LI->LI->(Option Bool))
end
end Ab
end
section
namespace Go.Proofs.TryzReach
open Go Go.RowKit Ab
def infoI:(Tryz.prog.info? 3).map (fun i=>(i.zero,i.size,i.bytes))=some (some (.int .i64 0),1,8):=by kernel_rfl
def infoB:(Tryz.prog.info? 4).map (fun i=>(i.zero,i.size,i.bytes))=some (some (.bool false),1,1):=by kernel_rfl
def zbo {P:Program} {e:TypeId} {z:Value} {s b:Nat} (h:(P.info? e).map (fun i=>(i.zero,i.size,i.bytes))=some (some z,s,b)):∃ i,P.info? e=some i∧i.zero=some z∧i.size=s∧i.bytes=b:=by obtain ⟨i,hi,hz⟩:=Option.map_eq_some_iff.1 h;simp only[Prod.mk.injEq] at hz;exact ⟨i,hi,hz.1,hz.2.1,hz.2.2⟩
def zbm {W X Y:World} {row:Option Nat} (k:KeepO (fun _=>False) W X) (h:X.grownBy Y row) (hr:∀ b,row=some b->W.heap.size<=b):KeepO (fun _=>False) W Y :=
 ⟨h.os.trans k.os,h.tape.trans k.tape,h.output.trans k.output,le_trans k.size h.size,fun i hi hn=>(h.block i (Nat.lt_of_lt_of_le hi k.size) (fun e=>by have:=hr i e.symm;omega)).trans (k.block i hi hn)⟩
def eq_nil (b:Option Addr) (n c:Nat) (w:World):(binOp .eql 41 (.slice b n c) (.slice none 0 0)).run Tryz.prog w=.ok (.bool b.isNone) w:=by
 have e1:∀ dd,(Op.equalIn (dd+1) 41 (.slice b n c) (.slice none 0 0)).run Tryz.prog w=.ok b.isNone w:=fun dd=>by cases b<;>simp[Op.equalIn,run_underlying Tryz.underlying41]
 have k:(Op.equal 41 (.slice b n c) (.slice none 0 0)).run Tryz.prog w=.ok b.isNone w:=e1 9999;simp[binOp,k]
def news_ints {N:Nat} {W X:World} {b o:Nat} {l:List Int} (hk:∀ i,i < N->X.heap[i]? = W.heap[i]?) (h2:b < N) (h3:∀ j,j < l.length->W.cell? ⟨b,o+j,none⟩=some (.int .i64 (l.getD j 0))) :
  ∀ j u,(l.map (Value.int .i64))[j]? = some u->X.cell? ((⟨b,o,none⟩:Addr).add j)=some u:=by
 intro j u hu;rw[Addr.add_lit];rw[getElem?_map,Option.map_eq_some_iff] at hu;obtain ⟨x,hx,rfl⟩:=hu;have hj:=(List.getElem?_eq_some_iff.1 hx).1;have:=h3 j hj;rw[List.getD_eq_getElem?_getD,hx] at this;exact (World.cell?_of_block (a:=⟨b,o+j,none⟩) (hk b h2)).trans this
def ints_one (l:List Int):∀ u∈l.map (Value.int .i64),u.oneCell'=true:=fun u hu=>by obtain ⟨x,_,rfl⟩:=List.mem_map.1 hu;rfl
def zhv {N base:Nat} {W:World} {v:Value} {l:List Int} (h:zbZ N W v l) (hN:N<=W.heap.size) (hl:l.length<=1000000) (hb:base<=W.heap.size) :
  Calls Tryz.prog 99 #[v] W fun e W'=>∃ v',e=.returned v'∧zhG W' base v' l∧W.grownBy W' none∧∀ b,v'.ownBlock=some b->W.heap.size<=b:=by
 obtain ⟨i0,hi,da,cj,cU⟩:=zbo infoI;have heq:=eq_nil;have hal:∀ i,i < N->(W.alloc (.cells #[] 3)).heap[i]? = W.heap[i]?:=fun i aQ=>Below.heap_alloc W _ i (by omega);rcases h with ⟨rfl,rfl | ⟨a,c,rfl⟩⟩ | ⟨b,o,cap,rfl,h2,h3⟩
 ·go_enter Tryz.func99,Tryz.ntmps99
  go_wp2_with fail
  go_ret;exact ⟨_,rfl,.inl ⟨none,rfl,rfl,by simp[Value.ownBlock]⟩,⟨rfl,rfl,rfl,le_refl _,fun _ _ _=>rfl⟩,by simp[Value.ownBlock]⟩
 ·go_enter Tryz.func99,Tryz.ntmps99
  go_wp2_with (at_builtin;go_loud (refine wpList_append_own_at _ rfl _ _ 41 rfl base 3 i0 (.int .i64 0) 1 8 Tryz.underlying41 hi da cj cU rfl (by decide) (.slice (some ⟨W.heap.size,0,none⟩) 0 0) 0 [] rfl (World.ownsRow_made W #[] 0 hb (by decide) rfl) a 0 c [] rfl rfl (fun j u hu=>by cases hu) (fun u hu=>by cases hu) (by decide) (by decide) (by simp;omega) ?_);intro v' w1 cw aR bD bz)
  go_ret;refine ⟨v',rfl,own_q (by simp) cw,⟨aR.os,aR.tape,aR.output,by have:=aR.size;simp at this;omega,fun k hk _ => ?_⟩,fun b ay => ?_⟩
  ·exact (aR.block k (by simp;omega) (fun e=>by simp[Value.ownBlock] at e;omega)).trans (Below.heap_alloc W _ k hk)
  ·rcases bz with e | e<;>(rw[e] at ay;simp[Value.ownBlock] at ay;omega)
 ·go_enter Tryz.func99,Tryz.ntmps99
  go_wp2_with (at_builtin;go_loud (refine wpList_append_own_at _ rfl _ _ 41 rfl base 3 i0 (.int .i64 0) 1 8 Tryz.underlying41 hi da cj cU rfl (by decide) (.slice (some ⟨W.heap.size,0,none⟩) 0 0) 0 [] rfl (World.ownsRow_made W #[] 0 hb (by decide) rfl) ⟨b,o,none⟩ l.length cap (l.map (.int .i64)) rfl (by simp) (news_ints hal h2 h3) (ints_one l) (by unfold maxLen;omega) (by omega) (by simp;omega) ?_);intro v' w1 cw aR bD bz)
  go_ret;rw[Nat.zero_add,List.nil_append] at cw;refine ⟨v',rfl,own_q rfl cw,⟨aR.os,aR.tape,aR.output,by have:=aR.size;simp at this;omega,fun k hk _ => ?_⟩,fun b ay => ?_⟩
  ·exact (aR.block k (by simp;omega) (fun e=>by simp[Value.ownBlock] at e;omega)).trans (Below.heap_alloc W _ k hk)
  ·rcases bz with e | e<;>(rw[e] at ay;simp[Value.ownBlock] at ay;omega)
def lenV:Value->Nat
 | .slice _ n _=>n
 | _=>0
def boolV:Value->Bool
 | .bool b=>b
 | _=>false
def seenOf (w:World) (sb:Nat):List Bool:=match w.heap[sb]? with
 | some (.cells cs _ _)=>cs.toList.map boolV
 | _=>[]
def zfx {w:World} {sb:Nat} {seen:List Bool} (h:w.heap[sb]? = some (.cells (seen.map Value.bool).toArray 4 (0,0))):seenOf w sb=seen:=by
 unfold seenOf;rw[h];simp only[List.map_map]
 conv=>rhs;rw[← List.map_id seen]
 exact List.map_congr_left fun b _=>rfl
def seen_cell {w:World} {sb k:Nat} {seen:List Bool} (h:w.heap[sb]? = some (.cells (seen.map Value.bool).toArray 4 (0,0))) (hk:k < seen.length):w.cell? ⟨sb,k,none⟩=some (.bool (seen.getD k false))∧w.frozen? ⟨sb,k,none⟩=false:=by refine ⟨?_,by unfold World.frozen?;rw[h];simp⟩;simp only[World.cell?,h,List.getElem?_toArray,getElem?_map,List.getElem?_eq_getElem hk,map_some,List.getD_eq_getElem?_getD,Option.getD_some];rfl
def seen_set {w:World} {sb k:Nat} {seen:List Bool} (h:w.heap[sb]? = some (.cells (seen.map Value.bool).toArray 4 (0,0))) (hk:k < seen.length):(w.setCell ⟨sb,k,none⟩ (.bool true)).heap[sb]? = some (.cells ((seen.set k true).map Value.bool).toArray 4 (0,0)):=by simp only[World.setCell,Array.getElem?_modify,if_true,h,map_some];congr 2;apply Array.ext';simp[List.map_set]
def zhP:∀ (l:List Nat) (f:Nat->Nat),(∀ x,f x<=1000)->(l.map f).sum<=l.length * 1000
 | [],_,_=>by simp
 | a :: r,f,h=>by
  have:=zhP r f h;have:=h a;simp only[List.map_cons,List.sum_cons,length_cons];omega
def left_most {n:List (List Int)} (h1:n.length<=1000) (h2:∀ k,(n.getD k []).length<=1000) (seen:List Bool):zeL n seen<=1000000:=by
 unfold zeL;refine le_trans (zhP _ _ fun x => ?_) (by rw[length_range];omega);split
 ·omega
 ·exact h2 x
def made_seen (m:Nat):madeCells #[.bool false] m=((List.replicate m false).map Value.bool).toArray:=by
 apply Array.ext';simp[madeCells,List.map_replicate];apply List.ext_getElem?;intro j;simp only[getElem?_map,List.getElem?_replicate];by_cases hj:j < m
 ·rw[List.getElem?_range hj,if_pos hj];simp[Nat.mod_one]
 ·rw[List.getElem?_eq_none (by rw[length_range];omega),if_neg hj];rfl
def qlen {W:World} {base:Nat} {v:Value} {l:List Int} (h:zhG W base v l):lenV v=l.length:=by rcases h with ⟨a,rfl,rfl,_⟩ | ⟨g,o,cap,rfl,_⟩<;>rfl
def qtail {W:World} {base g o cap:Nat} {row:List Int} {x:Int} (h2:base<=g) (h3:g < W.heap.size) (h4:row.length+1<=cap) (h6:cap<=maxLen)
  (h7:∀ j,j < (x :: row).length->W.cell? ⟨g,o+j,none⟩=some (.int .i64 ((x :: row).getD j 0))) (h8:∀ j,j < cap->(W.cell? ⟨g,o+j,none⟩).isSome=true∧W.frozen? ⟨g,o+j,none⟩=false) :
  zhG W base (.slice (if cap=1 then some ⟨g,o,none⟩ else some ⟨g,o+1,none⟩) row.length (cap - 1)) row:=by
 by_cases hc:cap=1
 ·subst hc;have:row=[]:=List.length_eq_zero_iff.1 (by omega);subst this;exact .inl ⟨_,rfl,rfl,fun b hb=>by simp[Value.ownBlock] at hb;omega⟩
 ·rw[if_neg hc];refine .inr ⟨g,o+1,cap - 1,rfl,h2,h3,by omega,by omega,by omega,fun j hj => ?_,fun j hj => ?_⟩
  ·rw[show o+1+j=o+(j+1) by omega];exact (h7 (j+1) (by simp;omega)).trans (by simp)
  ·rw[show o+1+j=o+(j+1) by omega];exact h8 (j+1) (by omega)
def reach_calls {n:List (List Int)} {i:Nat} {v:Value} {W:World} {b:Bool} (hR:RowsAt W.heap.size W v n) (hs:SmallR n i) (hb:zeo n i=some b) :
  Calls Tryz.prog 87 #[v,.int .i64 i] W fun e W'=>e=.returned (.bool b)∧KeepO (fun _=>False) W W':=by
 obtain ⟨i0,hi,da,cj,cU⟩:=zbo infoI;obtain ⟨ib,bi,bz0,bz1,bz2⟩:=zbo infoB;have dh:=hs.rng;have cq:i < n.length:=by have:=hs.hi;simpa using this
 have hlen:=hs.len;have bc:=hs.rows;have hR0:=hR;obtain ⟨b0,o0,cap0,rfl,bV,cJ⟩:=hR0;obtain ⟨u,hu,oI⟩:=cJ i (n.getD i []) (by rw[List.getD_eq_getElem?_getD,List.getElem?_eq_getElem cq];rfl);have a0:(0:Int)<=(i:Int):=Int.natCast_nonneg _;have a1:(i:Int) < (n.length:Int):=by omega
 have hold:∀ k,k < W.heap.size->(W.alloc (.cells (madeCells #[.bool false] n.length) 4)).heap[k]? = W.heap[k]?:=fun k hk=>Below.heap_alloc W _ k hk;have hu1:(W.alloc (.cells (madeCells #[.bool false] n.length) 4)).cell? ⟨b0,o0+i,none⟩=some u:=(World.cell?_of_block (a:=⟨b0,o0+i,none⟩) (hold b0 bV)).trans hu;have hc:=zhv (base:=W.heap.size+1) (oI.keep hold) (by simp) (le_trans (bc i) (by omega)) (by simp)
 go_enter Tryz.func87,Tryz.ntmps87
 go_wp2_with (first
  | (refine wpList_make_row _ rfl _ _ 171 rfl 4 ib (.bool false) Tryz.underlying171 bi bz0 bz1 rfl .i64 .i64 n.length rfl rfl (by rw[bz2];omega) (by omega) ?_)
  | (go_at_call 99;go_must (refine hc.mono ?_);rintro e X ⟨v',rfl,hq,hg,cw⟩))
 have hX:X.heap[W.heap.size]? = some (.cells ((List.replicate n.length false).map Value.bool).toArray 4 (0,0)):=(by rw[← made_seen];exact (hg.block _ (by simp) (fun e=>by cases e)).trans (heap_alloc_new W _));have kX:KeepO (fun _=>False) W X:=zbm (⟨rfl,rfl,rfl,by simp,fun k hk _=>Below.heap_alloc W _ k hk⟩:KeepO (fun _=>False) W (W.alloc (.cells (madeCells #[.bool false] n.length) 4))) hg (fun b e=>by cases e);have hlm:=left_most hlen bc;clear hc hu1 hold hu oI
 go_loopw [6] (fun t6 wr=>∃ (f:Nat) (seen:List Bool) (row:List Int),zhG wr (W.heap.size+1) t6 row∧wr.heap[W.heap.size]? = some (.cells (seen.map Value.bool).toArray 4 (0,0))∧seen.length=n.length∧(∀ k∈row,0<=k∧k < n.length)∧zjp n i f seen row=some b∧row.length+zeL n seen<=1001000∧KeepO (fun _=>False) W wr) (fun t6 wr=>lenV t6+zeL n (seenOf wr W.heap.size))
 case atStart =>
  exact ⟨_,_,_,hq,hX,by simp,fun k hk=>dh i k hk,hb,by have:=hlm (List.replicate n.length false);have:=bc i;omega,kX⟩
 case round =>
  obtain ⟨f,seen,row,hQ,hS,l6,hk,hf,hC,hK⟩:=hrel;obtain ⟨f,rfl⟩:∃ f',f=f'+1:=by
   cases f with
   | zero=>cases hf
   | succ f=>exact ⟨f,rfl⟩
  cases row with
  | nil =>
   simp only[zjp] at hf;cases hf;rcases hQ with ⟨a,rfl,_,_⟩ | ⟨g,o,cap,rfl,_⟩
   ·go_wp2_with fail
    go_ret;exact ⟨rfl,hK⟩
   ·go_wp2_with fail
    go_ret;exact ⟨rfl,hK⟩
  | cons k0 row =>
   obtain ⟨bw,gv⟩:=hk k0 (by simp);obtain ⟨k,rfl⟩:∃ k:Nat,k0=k:=⟨k0.toNat,by omega⟩;rcases hQ with ⟨a,_,e,_⟩ | ⟨g,o,cap,rfl,h2,h3,h4,h5,h6,h7,h8⟩
   ·cases e
   have oW:k < n.length:=by omega
   have c0:wr.cell? ⟨g,o,none⟩=some (.int .i64 k):=h7 0 (by simp);obtain ⟨sc,sf⟩:=seen_cell hS (k:=k) (by omega);simp only[length_cons] at h4 hC;have d0:(1:Int)<=((row.length+1:Nat):Int):=by omega
   have d1:(0:Int) < ((row.length+1:Nat):Int):=by omega
   have d2:((row.length+1:Nat):Int)<=(cap:Int):=by omega
   have d3:(k:Int) < (seen.length:Int):=by omega
   have d4:(k:Int) < (n.length:Int):=by omega
   simp only[zjp,Int.toNat_natCast] at hf;by_cases e:(k:Int)=(i:Int)
   ·rw[if_pos e] at hf;cases hf;have e':k=i:=by omega
    subst e'
    go_wp2_with fail
    all_goals (go_ret;exact ⟨rfl,hK⟩)
   rw[if_neg e] at hf;cases l7:seen.getD k false with
   | true =>
    rw[l7] at hf sc;rw[if_pos rfl] at hf
    go_wp2_with fail
    go_roundw
    case rel=>exact ⟨f,seen,row,qtail h2 h3 h4 h6 h7 h8,hS,l6,fun x hx=>hk x (List.mem_cons_of_mem _ hx),hf,by omega,hK⟩
    case measure =>
     simp only[lenV,length_cons];omega
   | false =>
    rw[l7] at hf sc;rw[if_neg (by simp)] at hf;have hS':=seen_set hS (k:=k) (by omega);have hq':=(qtail h2 h3 h4 h6 h7 h8).kept (w':=wr.setCell ⟨W.heap.size,k,none⟩ (.bool true)) (row:=some W.heap.size) (jm wr W.heap.size k [.bool true]) (fun x hx e=>by cases e;split at hx<;>(simp[Value.ownBlock] at hx;omega))
    have kS:KeepO (fun _=>False) W (wr.setCell ⟨W.heap.size,k,none⟩ (.bool true)):=zbm hK (jm wr W.heap.size k [.bool true]) (fun x hx=>by cases hx;exact le_refl _);obtain ⟨y,hy,hyi⟩:=cJ k (n.getD k []) (by rw[List.getD_eq_getElem?_getD,List.getElem?_eq_getElem oW];rfl);have y1:(wr.setCell ⟨W.heap.size,k,none⟩ (.bool true)).cell? ⟨b0,o0+k,none⟩=some y:=(World.cell?_of_block (a:=⟨b0,o0+k,none⟩) (kS.block b0 bV id)).trans hy;have ysrc:=(hyi.keep (fun x hx=>kS.block x hx id)).src (P:=Tryz.prog) (t:=41) (e:=3) Tryz.underlying41;have dM:=zfW l6 oW l7;have e9:∀ x,(n.getD x []).length<=1000:=bc;have hwb:W.heap.size+1<=(wr.setCell ⟨W.heap.size,k,none⟩ (.bool true)).heap.size:=le_trans (by omega) (jm wr W.heap.size k [.bool true]).size
    go_wp2_with (at_builtin;go_loud (refine zdA rfl _ _ 41 rfl hq' hwb Tryz.underlying41 hi da cj cU rfl rfl rfl ysrc (by have:=e9 k;omega) ?_);intro v2 w2 pf nu ny)
    have fu:(Value.slice (if cap=1 then some (⟨g,o,none⟩:Addr) else some ⟨g,o+1,none⟩) row.length (cap - 1)).ownBlock=some g:=by split<;>rfl
    rw[fu] at nu;have k2:=zbm kS nu (fun x hx=>by cases hx;omega);have pd:w2.heap[W.heap.size]? = _:=(nu.block W.heap.size (by omega) (fun e=>by cases e;omega)).trans hS'
    go_roundw
    case rel =>
     refine ⟨f,seen.set k true,row++n.getD k [],pf,pd,by rw[List.length_set];exact l6,fun x hx => ?_,hf,by rw[List.length_append];omega,k2⟩;rcases List.mem_append.1 hx with hx | hx
     ·exact hk x (List.mem_cons_of_mem _ hx)
     ·exact dh k x hx
    case measure =>
     rw[qlen pf,zfx pd,zfx hS];simp only[lenV,length_cons,List.length_append];omega
end Go.Proofs.TryzReach
end
