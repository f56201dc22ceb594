import Derived.Test.YtchidgkpkhloeaaGreatDoorProg
import Derived.Test.YtchidgkpkhloeaaGreatDoorH5
import Derived.WalkSpells
import Derived.BigQuiet
import Derived.BigRegion
import Derived.StillTailTactics
import Derived.Deep.DeepMust
open List (getD_eq_getElem?_getD)
open Option (isSome_none map_some)
open Array (getElem?_push_size)
set_option linter.unusedSimpArgs false
set_option linter.unusedVariables false
set_option maxRecDepth 100000
set_option maxHeartbeats 8000000
section
namespace Go.Proofs.TryzSolve
open Go Go.RowKit Ab
theorem yu {w:World} {b k:Nat} {vs:Array Value} {x:Value} {el:TypeId} (h:w.heap[b]? = some (.cells vs el (0,0))) (hx:vs[k]? = some x):w.cell? ⟨b,k,none⟩=some x∧∀ j,w.frozen? ⟨b,j,none⟩=false:=by refine ⟨?_,fun j=>by unfold World.frozen?;rw[h];simp⟩;simp only[World.cell?,h];exact hx
theorem yQ {w:World} {b:Nat} {v1 v2:Value} {el:TypeId} (h:w.heap[b]? = some (.cells #[v1,v2] el (0,0))):w.cell? ⟨b,0,none⟩=some v1∧w.cell? ⟨b,1,none⟩=some v2∧∀ j,w.frozen? ⟨b,j,none⟩=false:=by refine ⟨?_, ?_,fun j=>by unfold World.frozen?;rw[h];simp⟩<;>simp only[World.cell?,h]<;>rfl
theorem zcp {w:World} {b:Nat} {v1 v2 u1 u2:Value} {el:TypeId} (h:w.heap[b]? = some (.cells #[v1,v2] el (0,0))):((w.setCell ⟨b,0,none⟩ u1).setCell ⟨b,1,none⟩ u2).heap[b]? = some (.cells #[u1,u2] el (0,0)):=by simp only[World.setCell,Array.getElem?_modify,if_true,h,map_some,isSome_none,Bool.false_eq_true,if_false];rfl
theorem res_two {w:World} {b:Nat} {u1 u2:Value} {el:TypeId} (h:w.heap[b]? = some (.cells #[u1,u2] el (0,0))) {tm:Array Value} (ht:tm.getD 4 undef=.pointer (some ⟨b,0,none⟩)) :
  (results Tryz.f80 tm).run Tryz.prog w=.ok (.agg #[u1,u2]) w:=by
 obtain ⟨h1,h2,_⟩:=yQ h;have hr:Tryz.f80.results=#[.cell 4 70]:=rfl;have hj:(Tryz.prog.info? 70).map (·.size)=some 2:=by kernel_rfl
 obtain ⟨i,hi,hs⟩:=Option.map_eq_some_iff.1 hj;rw[Array.getD_eq_getD_getElem?] at ht;simp only[results,hr];simp[ht,asAddr,loadVar,isAgg,sizeOf,typeInfo,underlying,Tryz.underlying70,loadCells,Addr.add,h1,h2,hi,hs,loadCellsFrom,Result.andThen]
theorem ziI {J:JP} {W Z:World} (h:GK J W Z) (nk:W.heap.size≠J.s.kb) (nc:W.heap.size≠J.s.cb) (k:Nat) (v:Value):GK J W (Z.setCell ⟨W.heap.size,k,none⟩ v):=by
 obtain ⟨⟨a,b,c,d,e⟩,m⟩:=h;have off:∀ x,x≠W.heap.size->(Z.setCell ⟨W.heap.size,k,none⟩ v).heap[x]? = Z.heap[x]?:=fun x hx=>Below.heap_setCell Z _ v x hx;have m':=m;obtain ⟨kn,cl,hM⟩:=m';obtain ⟨v1,e1,h1,_⟩:=hM.hk;obtain ⟨v2,e2,h2,_⟩:=hM.hc;refine ⟨⟨a,b,c,by simpa[World.setCell] using d,fun x hx hn=>(off x (by omega)).trans (e x hx hn)⟩,Memo.keep J Z _ (fun x hx => ?_) m⟩;rcases hx with rfl | rfl
 ·exact ⟨(Array.getElem?_eq_some_iff.1 h1).1,off _ (Ne.symm nk)⟩
 ·exact ⟨(Array.getElem?_eq_some_iff.1 h2).1,off _ (Ne.symm nc)⟩
theorem kn_set {w:World} {b k:Nat} {vs:Array Value} {x:Value} {el:TypeId} (h:w.heap[b]? = some (.cells vs el (0,0))):(w.setCell ⟨b,k,none⟩ x).heap[b]? = some (.cells (vs.setIfInBounds k x) el (0,0)):=by simp only[World.setCell,Array.getElem?_modify,if_true,h,map_some,isSome_none,Bool.false_eq_true,if_false]
theorem set_at {vs:Array Value} {k i:Nat} {kn:List Bool} (h:vs[i]? = some (.bool (kn.getD i false))) (hk:k < kn.length):(vs.setIfInBounds k (.bool true))[i]? = some (.bool ((kn.set k true).getD i false)):=by
 have hi:=(Array.getElem?_eq_some_iff.1 h).1;rw[Array.getElem?_setIfInBounds,getD_eq_getElem?_getD,List.getElem?_set];by_cases e:k=i
 ·subst e;simp[hi,hk]
 ·simp only[if_neg e];rw[h,getD_eq_getElem?_getD]
theorem set_at2 {vs:Array Value} {k i:Nat} {c:Ab.Cell} {cl:List Ab.Cell} (h:vs[i * 2]? = some (.int .i64 (cl.getD i default).k)∧vs[i * 2+1]? = some (.int .i64 (cl.getD i default).n)) (hk:k < cl.length) :
  ((vs.setIfInBounds (k * 2) (.int .i64 c.k)).setIfInBounds (k * 2+1) (.int .i64 c.n))[i * 2]? = some (.int .i64 ((cl.set k c).getD i default).k)∧((vs.setIfInBounds (k * 2) (.int .i64 c.k)).setIfInBounds (k * 2+1) (.int .i64 c.n))[i * 2+1]? = some (.int .i64 ((cl.set k c).getD i default).n):=by
 have h1:=(Array.getElem?_eq_some_iff.1 h.1).1;have h2:=(Array.getElem?_eq_some_iff.1 h.2).1;simp only[Array.getElem?_setIfInBounds,Array.size_setIfInBounds,getD_eq_getElem?_getD,List.getElem?_set];by_cases e:k=i
 ·subst e;rw[if_neg (by omega),if_pos rfl,if_pos h1,if_pos rfl,if_pos h2,if_pos rfl,if_pos hk];exact ⟨rfl,rfl⟩
 ·have a1:¬ k * 2+1=i * 2:=by omega
  have a2:¬ k * 2=i * 2:=by omega
  have a3:¬ k * 2+1=i * 2+1:=by omega
  have a4:¬ k * 2=i * 2+1:=by omega
  simp only[if_neg a1,if_neg a2,if_neg a3,if_neg a4,if_neg e];simpa only[getD_eq_getElem?_getD] using h
theorem zhw {J:JP} {b o k:Nat} {c:Ab.Cell} {W:World} (hbk:b≠J.s.kb) (hbc:b≠J.s.cb) (hne:J.s.kb≠J.s.cb)
  (f3:W.cell? ⟨b,o+3,none⟩=some (zdG J.s.kb J.s.n J.s.kc)) (f4:W.cell? ⟨b,o+4,none⟩=some (zdG J.s.cb J.s.n J.s.cc)) (hk:k < J.s.n) {kn:List Bool} {cl:List Ab.Cell} (hM:MemoIs J W kn cl) (hc:c=J.U k) :
  Calls Tryz.prog 111 #[.pointer (some ⟨b,o,none⟩),.int .i64 k,.agg #[.int .i64 c.k,.int .i64 c.n]] W fun e Y=>e=.returned (.tuple #[])∧KeepO (JG J) W Y∧MemoIs J Y (kn.set k true) (cl.set k c):=by
 subst hc;obtain ⟨v1,e1,hk1,gk1⟩:=hM.hk;obtain ⟨v2,e2,hc1,gc1⟩:=hM.hc;have hlk:=hM.lk;have hlc:=hM.lc;obtain ⟨kc,kf⟩:=yu hk1 (gk1 k hk);obtain ⟨cc,cf⟩:=yu hc1 (gc1 k hk).1;have cd:=(yu hc1 (gc1 k hk).2).1;have d0:(k:Int) < (J.s.n:Int):=by omega
 have hlt1:J.s.kb < W.heap.size:=(Array.getElem?_eq_some_iff.1 hk1).1;have hlt2:J.s.cb < W.heap.size:=(Array.getElem?_eq_some_iff.1 hc1).1;have al:∀ (O:Obj) (x:Nat),x < W.heap.size->(W.alloc O).heap[x]? = W.heap[x]?:=fun O x hx=>Below.heap_alloc W O x hx;have hb:b < W.heap.size:=World.block_lt_of_cell? W _ f3;have g3:∀ O,(W.alloc O).cell? ⟨b,o+3,none⟩=some (zdG J.s.kb J.s.n J.s.kc):=fun O=>(World.cell?_of_block (a:=⟨b,o+3,none⟩) (al O b hb)).trans f3;have g4:∀ O,(W.alloc O).cell? ⟨b,o+4,none⟩=some (zdG J.s.cb J.s.n J.s.cc):=fun O=>(World.cell?_of_block (a:=⟨b,o+4,none⟩) (al O b hb)).trans f4;have gk:∀ O,(W.alloc O).cell? ⟨J.s.kb,k,none⟩=some (.bool (kn.getD k false)):=fun O=>(World.cell?_of_block (a:=⟨J.s.kb,k,none⟩) (al O _ hlt1)).trans kc;have gc:∀ O,(W.alloc O).cell? ⟨J.s.cb,k * 2,none⟩=some (.int .i64 (cl.getD k default).k):=fun O=>(World.cell?_of_block (a:=⟨J.s.cb,k * 2,none⟩) (al O _ hlt2)).trans cc;have gd:∀ O,(W.alloc O).cell? ⟨J.s.cb,k * 2+1,none⟩=some (.int .i64 (cl.getD k default).n):=fun O=>(World.cell?_of_block (a:=⟨J.s.cb,k * 2+1,none⟩) (al O _ hlt2)).trans cd;have hk2:∀ O,(W.alloc O).heap[J.s.kb]? = some (.cells v1 e1 (0,0)):=fun O=>(al O _ hlt1).trans hk1;have hc2:∀ O,(W.alloc O).heap[J.s.cb]? = some (.cells v2 e2 (0,0)):=fun O=>(al O _ hlt2).trans hc1;have fk:∀ O,(W.alloc O).frozen? ⟨J.s.kb,k,none⟩=false:=fun O=>(yu (hk2 O) (gk1 k hk)).2 k;have fc:∀ O j,(W.alloc O).frozen? ⟨J.s.cb,j,none⟩=false:=fun O j=>(yu (hc2 O) (gc1 k hk).1).2 j;have hne':¬ J.s.cb=J.s.kb:=fun e=>hne e.symm
 go_enter Tryz.func111,Tryz.ntmps111
 go_wp2
 go_region
 go_end0
 have off:∀ (X:World) (p:Addr) (v:Value) (x:Nat),x≠p.block->(X.setCell p v).heap[x]? = X.heap[x]?:=fun X p v x hx=>Below.heap_setCell X p v x hx;refine ⟨rfl,⟨rfl,rfl,rfl,by simp[World.setCell],fun x hx hn => ?_⟩,⟨_,e1, ?_,fun i hi=>set_at (gk1 i hi) (by omega)⟩,⟨_,e2, ?_,fun i hi=>set_at2 (gc1 i hi) (by omega)⟩,by rw[List.length_set];exact hlk,by rw[List.length_set];exact hlc,fun i hi => ?_⟩
 ·have n1:x≠J.s.kb:=fun e=>hn (.inl e);have n2:x≠J.s.cb:=fun e=>hn (.inr e);refine (Below.heap_alloc _ _ x (by simpa[World.setCell] using hx)).trans ?_;rw[off _ _ _ x n2,off _ _ _ x n2,off _ _ _ x n1]
 ·refine (Below.heap_alloc _ _ _ (by simpa[World.setCell] using hlt1)).trans ?_;rw[off _ _ _ _ hne,off _ _ _ _ hne];exact kn_set hk1
 ·refine (Below.heap_alloc _ _ _ (by simpa[World.setCell] using hlt2)).trans ?_;refine kn_set (kn_set ?_);rw[off _ _ _ _ hne'];exact hc1
 ·by_cases e:i=k
  ·subst e;rw[getD_eq_getElem?_getD,List.getElem?_set_self (by omega)];rfl
  ·rw[getD_eq_getElem?_getD,List.getElem?_set_ne (Ne.symm e),← getD_eq_getElem?_getD] at hi ⊢;exact hM.ok i hi
theorem at_calls {J:JP} {b o k:Nat} {u0 p:Value} {W:World} (hb:b < W.heap.size) (hbk:b≠J.s.kb) (hbc:b≠J.s.cb) (hne:J.s.kb≠J.s.cb) (f0:W.cell? ⟨b,o,none⟩=some u0) (one:u0.oneCell'=true)
  (f3:W.cell? ⟨b,o+3,none⟩=some (zdG J.s.kb J.s.n J.s.kc)) (f4:W.cell? ⟨b,o+4,none⟩=some (zdG J.s.cb J.s.n J.s.cc)) (hm:Memo J W) (hk:k < J.s.n)
  (h49:∀ X,GK J W X->Calls Tryz.prog 60 #[.agg #[u0],p] X fun e Y=>e=.returned (.int .i64 k)∧GK J X Y)
  (h361:∀ X,GK J W X->Calls Tryz.prog 112 #[.pointer (some ⟨b,o,none⟩),p] X fun e Y=>e=.returned (.agg (zhS (J.U k)).toArray)∧GK J X Y) :
  Calls Tryz.prog 80 #[.pointer (some ⟨b,o,none⟩),p] W fun e Y=>e=.returned (.agg (zhS (J.U k)).toArray)∧GK J W Y:=by
 have keepb:∀ {X:World},GK J W X->X.heap[b]? = W.heap[b]?:=fun h=>h.1.block b hb fun e=>e.elim hbk hbc;have trans:∀ {X Y:World},GK J W X->GK J X Y->GK J W Y:=fun h1 h2=>⟨h1.1.trans h2.1,h2.2⟩;have hW1:GK J W (W.alloc (.cells #[.int .i64 0,.int .i64 0] 70)):=by
  obtain ⟨kn,cl,hM⟩:=hm;refine ⟨⟨rfl,rfl,rfl,by simp,fun x hx _=>Below.heap_alloc W _ x hx⟩,Memo.keep J W _ (fun x hx => ?_) ⟨kn,cl,hM⟩⟩;obtain ⟨v1,e1,h1,_⟩:=hM.hk;obtain ⟨v2,e2,h2,_⟩:=hM.hc;have hlt:x < W.heap.size:=by rcases hx with rfl | rfl;exact (Array.getElem?_eq_some_iff.1 h1).1;exact (Array.getElem?_eq_some_iff.1 h2).1
  exact ⟨hlt,Below.heap_alloc W _ x hlt⟩
 have al:∀ (O:Obj) (x:Nat),x < W.heap.size->(W.alloc O).heap[x]? = W.heap[x]?:=fun O x hx=>Below.heap_alloc W O x hx;have g0:∀ O,(W.alloc O).cell? ⟨b,o,none⟩=some u0:=fun O=>(World.cell?_of_block (a:=⟨b,o,none⟩) (al O b hb)).trans f0;have nk:W.heap.size≠J.s.kb:=(by obtain ⟨kn,cl,hM⟩:=hm;obtain ⟨v1,e1,h1,_⟩:=hM.hk;exact fun e=>Nat.lt_irrefl _ (e ▸ (Array.getElem?_eq_some_iff.1 h1).1));have nc:W.heap.size≠J.s.cb:=(by obtain ⟨kn,cl,hM⟩:=hm;obtain ⟨v1,e1,h1,_⟩:=hM.hc;exact fun e=>Nat.lt_irrefl _ (e ▸ (Array.getElem?_eq_some_iff.1 h1).1));have b1:(W.alloc (.cells #[.int .i64 0,.int .i64 0] 70)).heap[W.heap.size]? = some (.cells #[.int .i64 0,.int .i64 0] 70 (0,0)):=(by show (W.heap.push _)[W.heap.size]? = _;exact getElem?_push_size);have kpn:∀ {X Y:World},GK J X Y->X.heap[W.heap.size]? = some (.cells #[.int .i64 0,.int .i64 0] 70 (0,0))->Y.heap[W.heap.size]? = some (.cells #[.int .i64 0,.int .i64 0] 70 (0,0)):=fun h e=>(h.1.block _ (Array.getElem?_eq_some_iff.1 e).1 fun e=>e.elim nk nc).trans e
 go_enter Tryz.func80,Tryz.ntmps80
 go_wp2_with (first
  | (go_at_call 60;go_must (refine (h49 _ hW1).mono ?_);rintro e X ⟨rfl,hX⟩
     have tX:=trans hW1 hX;have b2:=kpn hX b1;obtain ⟨n1,n2,n3⟩:=yQ b2;have hbX:b < X.heap.size:=Nat.lt_of_lt_of_le hb tX.1.size;have z3:X.cell? ⟨b,o+3,none⟩=some (zdG J.s.kb J.s.n J.s.kc):=(World.cell?_of_block (a:=⟨b,o+3,none⟩) (keepb tX)).trans f3;have z4:X.cell? ⟨b,o+4,none⟩=some (zdG J.s.cb J.s.n J.s.cc):=(World.cell?_of_block (a:=⟨b,o+4,none⟩) (keepb tX)).trans f4;obtain ⟨kn,cl,hM⟩:=tX.2;obtain ⟨v1,e1,hk1,gk1⟩:=hM.hk;obtain ⟨v2,e2,hc1,gc1⟩:=hM.hc;have hlk:=hM.lk;have hlc:=hM.lc;obtain ⟨kc,kf⟩:=yu hk1 (gk1 k hk);obtain ⟨cc,cf⟩:=yu hc1 (gc1 k hk).1;have cd:=(yu hc1 (gc1 k hk).2).1;have d0:(k:Int) < (J.s.n:Int):=by omega
     rcases hkk:kn.getD k false with _ | _<;>(rw[hkk] at kc;first | (rw[hM.ok k hkk] at cc cd) | skip)))
 all_goals go_wp2_with (first
  | (go_at_call 112;go_must (refine (h361 _ tX).mono ?_);rintro e Y ⟨rfl,hY⟩
     have tY:=trans tX hY;have b3:=kpn hY b2;have hbY:b < Y.heap.size:=Nat.lt_of_lt_of_le hb tY.1.size;have y3:Y.cell? ⟨b,o+3,none⟩=some (zdG J.s.kb J.s.n J.s.kc):=(World.cell?_of_block (a:=⟨b,o+3,none⟩) (keepb tY)).trans f3;have y4:Y.cell? ⟨b,o+4,none⟩=some (zdG J.s.cb J.s.n J.s.cc):=(World.cell?_of_block (a:=⟨b,o+4,none⟩) (keepb tY)).trans f4;obtain ⟨kn2,cl2,hM2⟩:=tY.2)
  | (go_at_call 111;go_must (refine (zhw hbk hbc hne y3 y4 hk hM2 rfl).mono ?_);rintro e Z ⟨rfl,hZ,hM3⟩
     have tZ:GK J W Z:=⟨tY.1.trans hZ,_,_,hM3⟩;have b4:=kpn ⟨hZ,_,_,hM3⟩ b3;obtain ⟨n1,n2,n3⟩:=yQ b4;have z4:Z.cell? ⟨b,o+4,none⟩=some (zdG J.s.cb J.s.n J.s.cc):=(World.cell?_of_block (a:=⟨b,o+4,none⟩) (keepb tZ)).trans f4;obtain ⟨v3,e3,hk3,gk3⟩:=hM3.hk;obtain ⟨v4,e4,hc3,gc3⟩:=hM3.hc;have hl3:=hM3.lc;obtain ⟨cc,cf⟩:=yu hc3 (gc3 k hk).1;have cd:=(yu hc3 (gc3 k hk).2).1;have hu:(cl2.set k (J.U k)).getD k default=J.U k:=(by rw[getD_eq_getElem?_getD,List.getElem?_set_self (by have:=hM2.lc;omega)];rfl);rw[hu] at cc cd))
 ·exact bodyPost_ret (res_two (zcp b4) rfl) rfl ⟨rfl,ziI (ziI tZ nk nc _ _) nk nc _ _⟩
 ·exact bodyPost_ret (res_two (zcp b2) rfl) rfl ⟨rfl,ziI (ziI tX nk nc _ _) nk nc _ _⟩
end Go.Proofs.TryzSolve
end
section
namespace Go.Proofs.TryzSolve
open Go Go.RowKit Ab
def sec:Code->Code
 | .seq _ c=>c
 | c=>c
noncomputable def rest332:Code:=sec (sec (sec (sec (Tryz.f39.body.getD .skip))))
abbrev K0 (W X:World):Prop:=KeepO (fun _=>False) W X
theorem K0.alloc (W:World) (o:Obj):K0 W (W.alloc o):=⟨rfl,rfl,rfl,by simp,fun x hx _=>Below.heap_alloc W o x hx⟩
theorem one_cell {w:World} {b:Nat} {v:Value} {el:TypeId} (h:w.heap[b]? = some (.cells #[v] el (0,0))):w.cell? ⟨b,0,none⟩=some v:=by simp only[World.cell?,h];rfl
theorem all_walk {u0 l:Value} {W:World} {R:Ending->World->Prop} {N:World->World->Value->Prop} (one:u0.oneCell'=true)
  (h349:∀ X,K0 W X->Calls Tryz.prog 78 #[.agg #[u0],l] X fun e Y=>e=.returned .nilIface∧K0 X Y)
  (h350:∀ X,K0 W X->W.heap.size < X.heap.size->Calls Tryz.prog 79 #[.agg #[u0],l] X fun e Y=>∃ pv,e=.returned (.tuple #[pv,.nilIface])∧K0 X Y∧N X Y pv)
  (hrest:∀ X Y pv tm,K0 W X->W.heap.size < X.heap.size->K0 X Y->N X Y pv->X.cell? ⟨W.heap.size,0,none⟩=some u0->tm.size=41->tm.getD 2 undef=.pointer (some ⟨W.heap.size,0,none⟩)->tm.getD 1 undef=l->tm.getD 7 undef=pv ->
   rest332.wp Tryz.prog (bodyPost Tryz.prog Tryz.f39 R) { tmps:=tm,defers:=[] } Y) :
  Calls Tryz.prog 39 #[.agg #[u0],l] W R:=by
 have k1:K0 W (W.alloc (.cells #[u0] 39)):=K0.alloc W _;have b1:(W.alloc (.cells #[u0] 39)).heap[W.heap.size]? = some (.cells #[u0] 39 (0,0)):=(by show (W.heap.push _)[W.heap.size]? = _;exact getElem?_push_size);have c1:=one_cell b1;have keepb:∀ {X Y:World},K0 X Y->X.heap[W.heap.size]? = some (.cells #[u0] 39 (0,0))->Y.heap[W.heap.size]? = some (.cells #[u0] 39 (0,0)):=fun h e=>(h.block _ (Array.getElem?_eq_some_iff.1 e).1 fun e=>e).trans e
 go_enter Tryz.func39,Tryz.ntmps39
 show Code.wp _ (Code.seq _ (Code.seq _ (Code.seq _ (Code.seq _ rest332)))) _ _ _
 go_wp2_with (first
  | (go_at_call 78;go_must (refine (h349 _ k1).mono ?_);rintro e X ⟨rfl,hX⟩
     have k2:=k1.trans hX;have b2:=keepb hX b1;have c2:=one_cell b2)
  | (go_at_call 79;go_must (refine (h350 _ k2 (Array.getElem?_eq_some_iff.1 b2).1).mono ?_);rintro e Y ⟨pv,rfl,hY,hN⟩
     have b3:=keepb hY b2;have c3:=one_cell b3))
 exact hrest _ _ _ _ k2 (Array.getElem?_eq_some_iff.1 b2).1 hY hN c2 rfl rfl rfl rfl
theorem all_err {u0 l:Value} {W:World} {R:Ending->World->Prop} (one:u0.oneCell'=true)
  (h349:∀ X,K0 W X->Calls Tryz.prog 78 #[.agg #[u0],l] X fun e Y=>∃ T v,e=.returned (.iface T v)∧K0 X Y∧R (.returned (.tuple #[.slice none 0 0,.iface T v])) Y) :
  Calls Tryz.prog 39 #[.agg #[u0],l] W R:=by
 have k1:K0 W (W.alloc (.cells #[u0] 39)):=K0.alloc W _;have b1:(W.alloc (.cells #[u0] 39)).heap[W.heap.size]? = some (.cells #[u0] 39 (0,0)):=(by show (W.heap.push _)[W.heap.size]? = _;exact getElem?_push_size);have c1:=one_cell b1
 go_enter Tryz.func39,Tryz.ntmps39
 show Code.wp _ (Code.seq _ (Code.seq _ (Code.seq _ (Code.seq _ rest332)))) _ _ _
 go_wp2_with (first
  | (go_at_call 78;go_must (refine (h349 _ k1).mono ?_);rintro e X ⟨T,v,rfl,hX,hR⟩))
 exact hR
theorem zhj {w:World} {b:Nat} {u1 u2 e:Value} {el:TypeId} (h:w.heap[b]? = some (.cells #[u1,u2] el (0,0))) {tm:Array Value} (ht:tm.getD 6 undef=.pointer (some ⟨b,0,none⟩)) (h7:tm.getD 7 undef=e) :
  (results Tryz.f36 tm).run Tryz.prog w=.ok (.tuple #[.agg #[u1,u2],e]) w:=by
 obtain ⟨h1,h2,_⟩:=yQ h;have hr:Tryz.f36.results=#[.cell 6 70,.tmp 7]:=rfl;have hj:(Tryz.prog.info? 70).map (·.size)=some 2:=by kernel_rfl
 obtain ⟨i,hi,hs⟩:=Option.map_eq_some_iff.1 hj;rw[Array.getD_eq_getD_getElem?] at ht h7;simp only[results,hr];simp[ht,h7,asAddr,loadVar,isAgg,sizeOf,typeInfo,underlying,Tryz.underlying70,loadCells,Addr.add,h1,h2,hi,hs,loadCellsFrom,Result.andThen]
theorem value_walk {u0 l p:Value} {W:World} {R:Ending->World->Prop} {N:World->World->Value->Prop} (one:u0.oneCell'=true)
  (h349:∀ X,K0 W X->Calls Tryz.prog 78 #[.agg #[u0],l] X fun e Y=>e=.returned .nilIface∧K0 X Y)
  (h58:∀ X,K0 W X->Calls Tryz.prog 59 #[.agg #[u0],p] X fun e Y=>e=.returned .nilIface∧K0 X Y)
  (h350:∀ X,K0 W X->W.heap.size < X.heap.size->Calls Tryz.prog 79 #[.agg #[u0],l] X fun e Y=>∃ pv,e=.returned (.tuple #[pv,.nilIface])∧K0 X Y∧N X Y pv)
  (hrest:∀ X Y pv,K0 W X->W.heap.size+1 < X.heap.size->K0 X Y->N X Y pv->Calls Tryz.prog 80 #[pv,p] Y fun e Z=>∃ k n,e=.returned (.agg #[.int .i64 k,.int .i64 n])∧(∀ b,b < X.heap.size->Z.heap[b]? = Y.heap[b]?) ∧
   R (.returned (.tuple #[.agg #[.int .i64 k,.int .i64 n],.nilIface])) ((Z.setCell ⟨W.heap.size+1,0,none⟩ (.int .i64 k)).setCell ⟨W.heap.size+1,1,none⟩ (.int .i64 n))) :
  Calls Tryz.prog 36 #[.agg #[u0],l,p] W R:=by
 have k1:K0 W ((W.alloc (.cells #[u0] 39)).alloc (.cells #[.int .i64 0,.int .i64 0] 70)):=(K0.alloc W _).trans (K0.alloc _ _);have b1:((W.alloc (.cells #[u0] 39)).alloc (.cells #[.int .i64 0,.int .i64 0] 70)).heap[W.heap.size]? = some (.cells #[u0] 39 (0,0)):=(by refine (Below.heap_alloc _ _ _ (by simp)).trans ?_;show (W.heap.push _)[W.heap.size]? = _;exact getElem?_push_size);have d1:((W.alloc (.cells #[u0] 39)).alloc (.cells #[.int .i64 0,.int .i64 0] 70)).heap[W.heap.size+1]? = some (.cells #[.int .i64 0,.int .i64 0] 70 (0,0)):=by
  have:W.heap.size+1=(W.alloc (.cells #[u0] 39)).heap.size:=by simp
  rw[this];show ((W.alloc (.cells #[u0] 39)).heap.push _)[(W.alloc (.cells #[u0] 39)).heap.size]? = _;exact getElem?_push_size
 have c1:=one_cell b1;have keepb:∀ {X Y:World} {b:Nat} {o:Obj},K0 X Y->X.heap[b]? = some o->Y.heap[b]? = some o:=fun h e=>(h.block _ (Array.getElem?_eq_some_iff.1 e).1 fun e=>e).trans e
 go_enter Tryz.func36,Tryz.ntmps36
 go_wp2_with (first
  | (go_at_call 78;go_must (refine (h349 _ k1).mono ?_);rintro e X ⟨rfl,hX⟩
     have k2:=k1.trans hX;have b2:=keepb hX b1;have d2:=keepb hX d1;have c2:=one_cell b2)
  | (go_at_call 59;go_must (refine (h58 _ k2).mono ?_);rintro e X2 ⟨rfl,hX2⟩
     have k3:=k2.trans hX2;have b3:=keepb hX2 b2;have d3:=keepb hX2 d2;have c3:=one_cell b3)
  | (go_at_call 79;go_must (refine (h350 _ k3 (Array.getElem?_eq_some_iff.1 b3).1).mono ?_);rintro e Y ⟨pv,rfl,hY,hN⟩
     have b4:=keepb hY b3;have d4:=keepb hY d3;have c4:=one_cell b4)
  | (go_at_call 80;go_must (refine (hrest _ _ _ k3 (Array.getElem?_eq_some_iff.1 d3).1 hY hN).mono ?_);rintro e Z ⟨k,n,rfl,hZ,hR⟩
     have d5:=(hZ _ (Array.getElem?_eq_some_iff.1 d3).1).trans d4;obtain ⟨n1,n2,n3⟩:=yQ d5))
 exact bodyPost_ret (zhj (zcp d5) rfl rfl) rfl hR
theorem value_err1 {u0 l p:Value} {W:World} {R:Ending->World->Prop} (one:u0.oneCell'=true)
  (h349:∀ X,K0 W X->Calls Tryz.prog 78 #[.agg #[u0],l] X fun e Y=>∃ T v,e=.returned (.iface T v)∧K0 X Y∧R (.returned (.tuple #[.agg #[.int .i64 0,.int .i64 0],.iface T v])) ((Y.setCell ⟨W.heap.size+1,0,none⟩ (.int .i64 0)).setCell ⟨W.heap.size+1,1,none⟩ (.int .i64 0))) :
  Calls Tryz.prog 36 #[.agg #[u0],l,p] W R:=by
 have k1:K0 W ((W.alloc (.cells #[u0] 39)).alloc (.cells #[.int .i64 0,.int .i64 0] 70)):=(K0.alloc W _).trans (K0.alloc _ _);have b1:((W.alloc (.cells #[u0] 39)).alloc (.cells #[.int .i64 0,.int .i64 0] 70)).heap[W.heap.size]? = some (.cells #[u0] 39 (0,0)):=(by refine (Below.heap_alloc _ _ _ (by simp)).trans ?_;show (W.heap.push _)[W.heap.size]? = _;exact getElem?_push_size);have d1:((W.alloc (.cells #[u0] 39)).alloc (.cells #[.int .i64 0,.int .i64 0] 70)).heap[W.heap.size+1]? = some (.cells #[.int .i64 0,.int .i64 0] 70 (0,0)):=by
  have:W.heap.size+1=(W.alloc (.cells #[u0] 39)).heap.size:=by simp
  rw[this];show ((W.alloc (.cells #[u0] 39)).heap.push _)[(W.alloc (.cells #[u0] 39)).heap.size]? = _;exact getElem?_push_size
 have c1:=one_cell b1;have keepb:∀ {X Y:World} {b:Nat} {o:Obj},K0 X Y->X.heap[b]? = some o->Y.heap[b]? = some o:=fun h e=>(h.block _ (Array.getElem?_eq_some_iff.1 e).1 fun e=>e).trans e
 go_enter Tryz.func36,Tryz.ntmps36
 go_wp2_with (first
  | (go_at_call 78;go_must (refine (h349 _ k1).mono ?_);rintro e X ⟨T,v,rfl,hX,hR⟩
     have d2:=keepb hX d1;obtain ⟨n1,n2,n3⟩:=yQ d2))
 exact bodyPost_ret (zhj (zcp d2) rfl rfl) rfl hR
theorem value_err2 {u0 l p:Value} {W:World} {R:Ending->World->Prop} (one:u0.oneCell'=true)
  (h349:∀ X,K0 W X->Calls Tryz.prog 78 #[.agg #[u0],l] X fun e Y=>e=.returned .nilIface∧K0 X Y)
  (h58:∀ X,K0 W X->Calls Tryz.prog 59 #[.agg #[u0],p] X fun e Y=>∃ T v,e=.returned (.iface T v)∧K0 X Y∧R (.returned (.tuple #[.agg #[.int .i64 0,.int .i64 0],.iface T v])) ((Y.setCell ⟨W.heap.size+1,0,none⟩ (.int .i64 0)).setCell ⟨W.heap.size+1,1,none⟩ (.int .i64 0))) :
  Calls Tryz.prog 36 #[.agg #[u0],l,p] W R:=by
 have k1:K0 W ((W.alloc (.cells #[u0] 39)).alloc (.cells #[.int .i64 0,.int .i64 0] 70)):=(K0.alloc W _).trans (K0.alloc _ _);have b1:((W.alloc (.cells #[u0] 39)).alloc (.cells #[.int .i64 0,.int .i64 0] 70)).heap[W.heap.size]? = some (.cells #[u0] 39 (0,0)):=(by refine (Below.heap_alloc _ _ _ (by simp)).trans ?_;show (W.heap.push _)[W.heap.size]? = _;exact getElem?_push_size);have d1:((W.alloc (.cells #[u0] 39)).alloc (.cells #[.int .i64 0,.int .i64 0] 70)).heap[W.heap.size+1]? = some (.cells #[.int .i64 0,.int .i64 0] 70 (0,0)):=by
  have:W.heap.size+1=(W.alloc (.cells #[u0] 39)).heap.size:=by simp
  rw[this];show ((W.alloc (.cells #[u0] 39)).heap.push _)[(W.alloc (.cells #[u0] 39)).heap.size]? = _;exact getElem?_push_size
 have c1:=one_cell b1;have keepb:∀ {X Y:World} {b:Nat} {o:Obj},K0 X Y->X.heap[b]? = some o->Y.heap[b]? = some o:=fun h e=>(h.block _ (Array.getElem?_eq_some_iff.1 e).1 fun e=>e).trans e
 go_enter Tryz.func36,Tryz.ntmps36
 go_wp2_with (first
  | (go_at_call 78;go_must (refine (h349 _ k1).mono ?_);rintro e X ⟨rfl,hX⟩
     have k2:=k1.trans hX;have b2:=keepb hX b1;have d2:=keepb hX d1;have c2:=one_cell b2)
  | (go_at_call 59;go_must (refine (h58 _ k2).mono ?_);rintro e X2 ⟨T,v,rfl,hX2,hR⟩
     have d3:=keepb hX2 d2;obtain ⟨n1,n2,n3⟩:=yQ d3))
 exact bodyPost_ret (zhj (zcp d3) rfl rfl) rfl hR
end Go.Proofs.TryzSolve
end
