import Derived.Test.YtchidgkpkhloeaaGreatDoorProg
import Derived.Test.YtchidgkpkhloeaaGreatDoorH5
import Derived.WalkSpells
import Derived.BigQuiet
import Derived.BigRegion
import Derived.StillTailTactics
import Derived.Deep.DeepMust
import Derived.Maps.AppendAt
import Derived.OwnWalk
import Derived.Deep.OwnRows
import Derived.LoopTactic
open List (getD_eq_getElem?_getD getElem?_map length_cons length_set)
open Nat (le_trans)
open Option (isSome_none map_eq_some_iff map_some)
open Array (getElem?_modify)
set_option linter.all false
set_option maxRecDepth 100000
set_option maxHeartbeats 8000000
section
namespace Go.Proofs.TryzSolve
open Go Go.RowKit Ab
def yR {w:World} {b k:Nat} {vs:Array Value} {x:Value} {el:TypeId} (h:w.heap[b]? = some (.cells vs el (0,0))) (hx:vs[k]? = some x):w.cell? ⟨b,k,none⟩=some x∧∀ j,w.frozen? ⟨b,j,none⟩=false:=by refine ⟨?_,fun j=>by unfold World.frozen?;rw[h];simp⟩;simp only[World.cell?,h];exact hx
def zfh {w:World} {b:Nat} {v1 v2:Value} {el:TypeId} (h:w.heap[b]? = some (.cells #[v1,v2] el (0,0))):w.cell? ⟨b,0,none⟩=some v1∧w.cell? ⟨b,1,none⟩=some v2∧∀ j,w.frozen? ⟨b,j,none⟩=false:=by refine ⟨?_, ?_,fun j=>by unfold World.frozen?;rw[h];simp⟩<;>simp only[World.cell?,h]<;>rfl
def set_two {w:World} {b:Nat} {v1 v2 u1 u2:Value} {el:TypeId} (h:w.heap[b]? = some (.cells #[v1,v2] el (0,0))):((w.setCell ⟨b,0,none⟩ u1).setCell ⟨b,1,none⟩ u2).heap[b]? = some (.cells #[u1,u2] el (0,0)):=by simp only[World.setCell,getElem?_modify,if_true,h,map_some,isSome_none,Bool.false_eq_true,if_false];rfl
def res_two {w:World} {b:Nat} {u1 u2:Value} {el:TypeId} (h:w.heap[b]? = some (.cells #[u1,u2] el (0,0))) {tm:Array Value} (ht:tm.getD 4 undef=.pointer (some ⟨b,0,none⟩)) :
  (results Tryz.f80 tm).run Tryz.prog w=.ok (.agg #[u1,u2]) w:=by
 obtain ⟨h1,h2,_⟩:=zfh h;have hr:Tryz.f80.results=#[.cell 4 70]:=rfl;have hj:(Tryz.prog.info? 70).map (·.size)=some 2:=by kernel_rfl
 obtain ⟨i,hi,hs⟩:=map_eq_some_iff.1 hj;rw[Array.getD_eq_getD_getElem?] at ht;simp only[results,hr];simp[ht,asAddr,loadVar,isAgg,sizeOf,typeInfo,underlying,Tryz.underlying70,loadCells,Addr.add,h1,h2,hi,hs,loadCellsFrom,Result.andThen]
def zjK {J:JP} {W Z:World} (h:GK J W Z) (nk:W.heap.size≠J.s.kb) (nc:W.heap.size≠J.s.cb) (k:Nat) (v:Value):GK J W (Z.setCell ⟨W.heap.size,k,none⟩ v):=by
 obtain ⟨⟨a,b,c,d,e⟩,m⟩:=h;have off:∀ x,x≠W.heap.size->(Z.setCell ⟨W.heap.size,k,none⟩ v).heap[x]? = Z.heap[x]?:=fun x hx=>Below.heap_setCell Z _ v x hx;have m':=m;obtain ⟨kn,cl,hM⟩:=m';obtain ⟨v1,e1,h1,_⟩:=hM.hk;obtain ⟨v2,e2,h2,_⟩:=hM.hc;refine ⟨⟨a,b,c,by simpa[World.setCell] using d,fun x hx hn=>(off x (by omega)).trans (e x hx hn)⟩,Memo.keep J Z _ (fun x hx => ?_) m⟩;rcases hx with rfl | rfl
 ·exact ⟨(Array.getElem?_eq_some_iff.1 h1).1,off _ (Ne.symm nk)⟩
 ·exact ⟨(Array.getElem?_eq_some_iff.1 h2).1,off _ (Ne.symm nc)⟩
def kn_set {w:World} {b k:Nat} {vs:Array Value} {x:Value} {el:TypeId} (h:w.heap[b]? = some (.cells vs el (0,0))):(w.setCell ⟨b,k,none⟩ x).heap[b]? = some (.cells (vs.setIfInBounds k x) el (0,0)):=by simp only[World.setCell,getElem?_modify,if_true,h,map_some,isSome_none,Bool.false_eq_true,if_false]
def set_at {vs:Array Value} {k i:Nat} {kn:List Bool} (h:vs[i]? = some (.bool (kn.getD i false))) (hk:k < kn.length):(vs.setIfInBounds k (.bool true))[i]? = some (.bool ((kn.set k true).getD i false)):=by
 have hi:=(Array.getElem?_eq_some_iff.1 h).1;rw[Array.getElem?_setIfInBounds,getD_eq_getElem?_getD,List.getElem?_set];by_cases e:k=i
 ·subst e;simp[hi,hk]
 ·simp only[if_neg e];rw[h,getD_eq_getElem?_getD]
def set_at2 {vs:Array Value} {k i:Nat} {c:Ab.Cell} {cl:List Ab.Cell} (h:vs[i * 2]? = some (.int .i64 (cl.getD i default).k)∧vs[i * 2+1]? = some (.int .i64 (cl.getD i default).n)) (hk:k < cl.length) :
  ((vs.setIfInBounds (k * 2) (.int .i64 c.k)).setIfInBounds (k * 2+1) (.int .i64 c.n))[i * 2]? = some (.int .i64 ((cl.set k c).getD i default).k)∧((vs.setIfInBounds (k * 2) (.int .i64 c.k)).setIfInBounds (k * 2+1) (.int .i64 c.n))[i * 2+1]? = some (.int .i64 ((cl.set k c).getD i default).n):=by
 have h1:=(Array.getElem?_eq_some_iff.1 h.1).1;have h2:=(Array.getElem?_eq_some_iff.1 h.2).1;simp only[Array.getElem?_setIfInBounds,Array.size_setIfInBounds,getD_eq_getElem?_getD,List.getElem?_set];by_cases e:k=i
 ·subst e;rw[if_neg (by omega),if_pos rfl,if_pos h1,if_pos rfl,if_pos h2,if_pos rfl,if_pos hk];exact ⟨rfl,rfl⟩
 ·have a1:¬ k * 2+1=i * 2:=by omega
  have a2:¬ k * 2=i * 2:=by omega
  have a3:¬ k * 2+1=i * 2+1:=by omega
  have a4:¬ k * 2=i * 2+1:=by omega
  simp only[if_neg a1,if_neg a2,if_neg a3,if_neg a4,if_neg e];simpa only[getD_eq_getElem?_getD] using h
def zio {J:JP} {b o k:Nat} {c:Ab.Cell} {W:World} (eI:b≠J.s.kb) (iW:b≠J.s.cb) (ai:J.s.kb≠J.s.cb)
  (f3:W.cell? ⟨b,o+3,none⟩=some (zeA J.s.kb J.s.n J.s.kc)) (f4:W.cell? ⟨b,o+4,none⟩=some (zeA J.s.cb J.s.n J.s.cc)) (hk:k < J.s.n) {kn:List Bool} {cl:List Ab.Cell} (hM:MemoIs J W kn cl) (hc:c=J.U k) :
  Calls Tryz.prog 111 #[.pointer (some ⟨b,o,none⟩),.int .i64 k,.agg #[.int .i64 c.k,.int .i64 c.n]] W fun e Y=>e=.returned (.tuple #[])∧KeepO (JG J) W Y∧MemoIs J Y (kn.set k true) (cl.set k c):=by
 subst hc;obtain ⟨v1,e1,bS,n4⟩:=hM.hk;obtain ⟨v2,e2,bT,kj⟩:=hM.hc;have nA:=hM.lk;have tM:=hM.lc;obtain ⟨kc,kf⟩:=yR bS (n4 k hk);obtain ⟨cc,cf⟩:=yR bT (kj k hk).1;have cd:=(yR bT (kj k hk).2).1;have d0:(k:Int) < (J.s.n:Int):=by omega
 have iO:J.s.kb < W.heap.size:=(Array.getElem?_eq_some_iff.1 bS).1;have dJ:J.s.cb < W.heap.size:=(Array.getElem?_eq_some_iff.1 bT).1;have al:∀ (O:Obj) (x:Nat),x < W.heap.size->(W.alloc O).heap[x]? = W.heap[x]?:=fun O x hx=>Below.heap_alloc W O x hx;have hb:b < W.heap.size:=World.block_lt_of_cell? W _ f3;have g3:∀ O,(W.alloc O).cell? ⟨b,o+3,none⟩=some (zeA J.s.kb J.s.n J.s.kc):=fun O=>(World.cell?_of_block (a:=⟨b,o+3,none⟩) (al O b hb)).trans f3;have g4:∀ O,(W.alloc O).cell? ⟨b,o+4,none⟩=some (zeA J.s.cb J.s.n J.s.cc):=fun O=>(World.cell?_of_block (a:=⟨b,o+4,none⟩) (al O b hb)).trans f4;have gk:∀ O,(W.alloc O).cell? ⟨J.s.kb,k,none⟩=some (.bool (kn.getD k false)):=fun O=>(World.cell?_of_block (a:=⟨J.s.kb,k,none⟩) (al O _ iO)).trans kc;have gc:∀ O,(W.alloc O).cell? ⟨J.s.cb,k * 2,none⟩=some (.int .i64 (cl.getD k default).k):=fun O=>(World.cell?_of_block (a:=⟨J.s.cb,k * 2,none⟩) (al O _ dJ)).trans cc;have gd:∀ O,(W.alloc O).cell? ⟨J.s.cb,k * 2+1,none⟩=some (.int .i64 (cl.getD k default).n):=fun O=>(World.cell?_of_block (a:=⟨J.s.cb,k * 2+1,none⟩) (al O _ dJ)).trans cd;have bB:∀ O,(W.alloc O).heap[J.s.kb]? = some (.cells v1 e1 (0,0)):=fun O=>(al O _ iO).trans bS;have dy:∀ O,(W.alloc O).heap[J.s.cb]? = some (.cells v2 e2 (0,0)):=fun O=>(al O _ dJ).trans bT;have fk:∀ O,(W.alloc O).frozen? ⟨J.s.kb,k,none⟩=false:=fun O=>(yR (bB O) (n4 k hk)).2 k;have fc:∀ O j,(W.alloc O).frozen? ⟨J.s.cb,j,none⟩=false:=fun O j=>(yR (dy O) (kj k hk).1).2 j;have rV:¬ J.s.cb=J.s.kb:=fun e=>ai e.symm
 go_enter Tryz.func111,Tryz.ntmps111
 go_wp2
 go_region
 go_end0
 have off:∀ (X:World) (p:Addr) (v:Value) (x:Nat),x≠p.block->(X.setCell p v).heap[x]? = X.heap[x]?:=fun X p v x hx=>Below.heap_setCell X p v x hx;refine ⟨rfl,⟨rfl,rfl,rfl,by simp[World.setCell],fun x hx hn => ?_⟩,⟨_,e1, ?_,fun i hi=>set_at (n4 i hi) (by omega)⟩,⟨_,e2, ?_,fun i hi=>set_at2 (kj i hi) (by omega)⟩,by rw[length_set];exact nA,by rw[length_set];exact tM,fun i hi => ?_⟩
 ·have n1:x≠J.s.kb:=fun e=>hn (.inl e);have n2:x≠J.s.cb:=fun e=>hn (.inr e);refine (Below.heap_alloc _ _ x (by simpa[World.setCell] using hx)).trans ?_;rw[off _ _ _ x n2,off _ _ _ x n2,off _ _ _ x n1]
 ·refine (Below.heap_alloc _ _ _ (by simpa[World.setCell] using iO)).trans ?_;rw[off _ _ _ _ ai,off _ _ _ _ ai];exact kn_set bS
 ·refine (Below.heap_alloc _ _ _ (by simpa[World.setCell] using dJ)).trans ?_;refine kn_set (kn_set ?_);rw[off _ _ _ _ rV];exact bT
 ·by_cases e:i=k
  ·subst e;rw[getD_eq_getElem?_getD,List.getElem?_set_self (by omega)];rfl
  ·rw[getD_eq_getElem?_getD,List.getElem?_set_ne (Ne.symm e),← getD_eq_getElem?_getD] at hi ⊢;exact hM.ok i hi
def at_calls {J:JP} {b o k:Nat} {u0 p:Value} {W:World} (hb:b < W.heap.size) (eI:b≠J.s.kb) (iW:b≠J.s.cb) (ai:J.s.kb≠J.s.cb) (f0:W.cell? ⟨b,o,none⟩=some u0) (one:u0.oneCell'=true)
  (f3:W.cell? ⟨b,o+3,none⟩=some (zeA J.s.kb J.s.n J.s.kc)) (f4:W.cell? ⟨b,o+4,none⟩=some (zeA J.s.cb J.s.n J.s.cc)) (hm:Memo J W) (hk:k < J.s.n)
  (n0:∀ X,GK J W X->Calls Tryz.prog 60 #[.agg #[u0],p] X fun e Y=>e=.returned (.int .i64 k)∧GK J X Y)
  (iZ:∀ X,GK J W X->Calls Tryz.prog 112 #[.pointer (some ⟨b,o,none⟩),p] X fun e Y=>e=.returned (.agg (ziM (J.U k)).toArray)∧GK J X Y) :
  Calls Tryz.prog 80 #[.pointer (some ⟨b,o,none⟩),p] W fun e Y=>e=.returned (.agg (ziM (J.U k)).toArray)∧GK J W Y:=by
 have keepb:∀ {X:World},GK J W X->X.heap[b]? = W.heap[b]?:=fun h=>h.1.block b hb fun e=>e.elim eI iW;have trans:∀ {X Y:World},GK J W X->GK J X Y->GK J W Y:=fun h1 h2=>⟨h1.1.trans h2.1,h2.2⟩;have uc:GK J W (W.alloc (.cells #[.int .i64 0,.int .i64 0] 70)):=by
  obtain ⟨kn,cl,hM⟩:=hm;refine ⟨⟨rfl,rfl,rfl,by simp,fun x hx _=>Below.heap_alloc W _ x hx⟩,Memo.keep J W _ (fun x hx => ?_) ⟨kn,cl,hM⟩⟩;obtain ⟨v1,e1,h1,_⟩:=hM.hk;obtain ⟨v2,e2,h2,_⟩:=hM.hc;have ae:x < W.heap.size:=by rcases hx with rfl | rfl;exact (Array.getElem?_eq_some_iff.1 h1).1;exact (Array.getElem?_eq_some_iff.1 h2).1
  exact ⟨ae,Below.heap_alloc W _ x ae⟩
 have al:∀ (O:Obj) (x:Nat),x < W.heap.size->(W.alloc O).heap[x]? = W.heap[x]?:=fun O x hx=>Below.heap_alloc W O x hx;have g0:∀ O,(W.alloc O).cell? ⟨b,o,none⟩=some u0:=fun O=>(World.cell?_of_block (a:=⟨b,o,none⟩) (al O b hb)).trans f0;have nk:W.heap.size≠J.s.kb:=(by obtain ⟨kn,cl,hM⟩:=hm;obtain ⟨v1,e1,h1,_⟩:=hM.hk;exact fun e=>Nat.lt_irrefl _ (e ▸ (Array.getElem?_eq_some_iff.1 h1).1));have nc:W.heap.size≠J.s.cb:=(by obtain ⟨kn,cl,hM⟩:=hm;obtain ⟨v1,e1,h1,_⟩:=hM.hc;exact fun e=>Nat.lt_irrefl _ (e ▸ (Array.getElem?_eq_some_iff.1 h1).1));have b1:(W.alloc (.cells #[.int .i64 0,.int .i64 0] 70)).heap[W.heap.size]? = some (.cells #[.int .i64 0,.int .i64 0] 70 (0,0)):=(by show (W.heap.push _)[W.heap.size]? = _;exact Array.getElem?_push_size);have kpn:∀ {X Y:World},GK J X Y->X.heap[W.heap.size]? = some (.cells #[.int .i64 0,.int .i64 0] 70 (0,0))->Y.heap[W.heap.size]? = some (.cells #[.int .i64 0,.int .i64 0] 70 (0,0)):=fun h e=>(h.1.block _ (Array.getElem?_eq_some_iff.1 e).1 fun e=>e.elim nk nc).trans e
 go_enter Tryz.func80,Tryz.ntmps80
 go_wp2_with (first
  | (go_at_call 60;go_must (refine (n0 _ uc).mono ?_);rintro e X ⟨rfl,hX⟩
     have tX:=trans uc hX;have b2:=kpn hX b1;obtain ⟨n1,n2,n3⟩:=zfh b2;have hbX:b < X.heap.size:=Nat.lt_of_lt_of_le hb tX.1.size;have z3:X.cell? ⟨b,o+3,none⟩=some (zeA J.s.kb J.s.n J.s.kc):=(World.cell?_of_block (a:=⟨b,o+3,none⟩) (keepb tX)).trans f3;have z4:X.cell? ⟨b,o+4,none⟩=some (zeA J.s.cb J.s.n J.s.cc):=(World.cell?_of_block (a:=⟨b,o+4,none⟩) (keepb tX)).trans f4;obtain ⟨kn,cl,hM⟩:=tX.2;obtain ⟨v1,e1,bS,n4⟩:=hM.hk;obtain ⟨v2,e2,bT,kj⟩:=hM.hc;have nA:=hM.lk;have tM:=hM.lc;obtain ⟨kc,kf⟩:=yR bS (n4 k hk);obtain ⟨cc,cf⟩:=yR bT (kj k hk).1;have cd:=(yR bT (kj k hk).2).1;have d0:(k:Int) < (J.s.n:Int):=by omega
     rcases nC:kn.getD k false with _ | _<;>(rw[nC] at kc;first | (rw[hM.ok k nC] at cc cd) | skip)))
 all_goals go_wp2_with (first
  | (go_at_call 112;go_must (refine (iZ _ tX).mono ?_);rintro e Y ⟨rfl,hY⟩
     have tY:=trans tX hY;have b3:=kpn hY b2;have hbY:b < Y.heap.size:=Nat.lt_of_lt_of_le hb tY.1.size;have y3:Y.cell? ⟨b,o+3,none⟩=some (zeA J.s.kb J.s.n J.s.kc):=(World.cell?_of_block (a:=⟨b,o+3,none⟩) (keepb tY)).trans f3;have y4:Y.cell? ⟨b,o+4,none⟩=some (zeA J.s.cb J.s.n J.s.cc):=(World.cell?_of_block (a:=⟨b,o+4,none⟩) (keepb tY)).trans f4;obtain ⟨kn2,cl2,ug⟩:=tY.2)
  | (go_at_call 111;go_must (refine (zio eI iW ai y3 y4 hk ug rfl).mono ?_);rintro e Z ⟨rfl,hZ,nY⟩
     have tZ:GK J W Z:=⟨tY.1.trans hZ,_,_,nY⟩;have b4:=kpn ⟨hZ,_,_,nY⟩ b3;obtain ⟨n1,n2,n3⟩:=zfh b4;have z4:Z.cell? ⟨b,o+4,none⟩=some (zeA J.s.cb J.s.n J.s.cc):=(World.cell?_of_block (a:=⟨b,o+4,none⟩) (keepb tZ)).trans f4;obtain ⟨v3,e3,nE,gk3⟩:=nY.hk;obtain ⟨v4,e4,nS,ur⟩:=nY.hc;have hl3:=nY.lc;obtain ⟨cc,cf⟩:=yR nS (ur k hk).1;have cd:=(yR nS (ur k hk).2).1;have hu:(cl2.set k (J.U k)).getD k default=J.U k:=(by rw[getD_eq_getElem?_getD,List.getElem?_set_self (by have:=ug.lc;omega)];rfl);rw[hu] at cc cd))
 ·exact bodyPost_ret (res_two (set_two b4) rfl) rfl ⟨rfl,zjK (zjK tZ nk nc _ _) nk nc _ _⟩
 ·exact bodyPost_ret (res_two (set_two b2) rfl) rfl ⟨rfl,zjK (zjK tX nk nc _ _) nk nc _ _⟩
end Go.Proofs.TryzSolve
end
section
namespace Go.Proofs.TryzSolve
open Go Go.RowKit Ab
def sec:Code->Code
 | .seq _ c=>c
 | c=>c
noncomputable def rest332:Code:=sec (sec (sec (sec (Tryz.f39.body.getD .skip))))
abbrev K0 (W X:World):Prop:=KeepO (fun _=>False) W X
def K0.alloc (W:World) (o:Obj):K0 W (W.alloc o):=⟨rfl,rfl,rfl,by simp,fun x hx _=>Below.heap_alloc W o x hx⟩
def one_cell {w:World} {b:Nat} {v:Value} {el:TypeId} (h:w.heap[b]? = some (.cells #[v] el (0,0))):w.cell? ⟨b,0,none⟩=some v:=by simp only[World.cell?,h];rfl
def all_walk {u0 l:Value} {W:World} {R:Ending->World->Prop} {N:World->World->Value->Prop} (one:u0.oneCell'=true)
  (dO:∀ X,K0 W X->Calls Tryz.prog 78 #[.agg #[u0],l] X fun e Y=>e=.returned .nilIface∧K0 X Y)
  (s7:∀ X,K0 W X->W.heap.size < X.heap.size->Calls Tryz.prog 79 #[.agg #[u0],l] X fun e Y=>∃ pv,e=.returned (.tuple #[pv,.nilIface])∧K0 X Y∧N X Y pv)
  (cE:∀ X Y pv tm,K0 W X->W.heap.size < X.heap.size->K0 X Y->N X Y pv->X.cell? ⟨W.heap.size,0,none⟩=some u0->tm.size=41->tm.getD 2 undef=.pointer (some ⟨W.heap.size,0,none⟩)->tm.getD 1 undef=l->tm.getD 7 undef=pv ->
   rest332.wp Tryz.prog (bodyPost Tryz.prog Tryz.f39 R) { tmps:=tm,defers:=[] } Y) :
  Calls Tryz.prog 39 #[.agg #[u0],l] W R:=by
 have k1:K0 W (W.alloc (.cells #[u0] 39)):=K0.alloc W _;have b1:(W.alloc (.cells #[u0] 39)).heap[W.heap.size]? = some (.cells #[u0] 39 (0,0)):=(by show (W.heap.push _)[W.heap.size]? = _;exact Array.getElem?_push_size);have c1:=one_cell b1;have keepb:∀ {X Y:World},K0 X Y->X.heap[W.heap.size]? = some (.cells #[u0] 39 (0,0))->Y.heap[W.heap.size]? = some (.cells #[u0] 39 (0,0)):=fun h e=>(h.block _ (Array.getElem?_eq_some_iff.1 e).1 fun e=>e).trans e
 go_enter Tryz.func39,Tryz.ntmps39
 show Code.wp _ (Code.seq _ (Code.seq _ (Code.seq _ (Code.seq _ rest332)))) _ _ _
 go_wp2_with (first
  | (go_at_call 78;go_must (refine (dO _ k1).mono ?_);rintro e X ⟨rfl,hX⟩
     have k2:=k1.trans hX;have b2:=keepb hX b1;have c2:=one_cell b2)
  | (go_at_call 79;go_must (refine (s7 _ k2 (Array.getElem?_eq_some_iff.1 b2).1).mono ?_);rintro e Y ⟨pv,rfl,hY,hN⟩
     have b3:=keepb hY b2;have c3:=one_cell b3))
 exact cE _ _ _ _ k2 (Array.getElem?_eq_some_iff.1 b2).1 hY hN c2 rfl rfl rfl rfl
def all_err {u0 l:Value} {W:World} {R:Ending->World->Prop} (one:u0.oneCell'=true)
  (dO:∀ X,K0 W X->Calls Tryz.prog 78 #[.agg #[u0],l] X fun e Y=>∃ T v,e=.returned (.iface T v)∧K0 X Y∧R (.returned (.tuple #[.slice none 0 0,.iface T v])) Y) :
  Calls Tryz.prog 39 #[.agg #[u0],l] W R:=by
 have k1:K0 W (W.alloc (.cells #[u0] 39)):=K0.alloc W _;have b1:(W.alloc (.cells #[u0] 39)).heap[W.heap.size]? = some (.cells #[u0] 39 (0,0)):=(by show (W.heap.push _)[W.heap.size]? = _;exact Array.getElem?_push_size);have c1:=one_cell b1
 go_enter Tryz.func39,Tryz.ntmps39
 show Code.wp _ (Code.seq _ (Code.seq _ (Code.seq _ (Code.seq _ rest332)))) _ _ _
 go_wp2_with (first
  | (go_at_call 78;go_must (refine (dO _ k1).mono ?_);rintro e X ⟨T,v,rfl,hX,hR⟩))
 exact hR
end Go.Proofs.TryzSolve
end
section
namespace Go.Proofs.TryzReach
open Go Go.RowKit Ab
def infoI:(Tryz.prog.info? 3).map (fun i=>(i.zero,i.size,i.bytes))=some (some (.int .i64 0),1,8):=by kernel_rfl
def infoB:(Tryz.prog.info? 4).map (fun i=>(i.zero,i.size,i.bytes))=some (some (.bool false),1,1):=by kernel_rfl
def zcd {P:Program} {e:TypeId} {z:Value} {s b:Nat} (h:(P.info? e).map (fun i=>(i.zero,i.size,i.bytes))=some (some z,s,b)):∃ i,P.info? e=some i∧i.zero=some z∧i.size=s∧i.bytes=b:=by obtain ⟨i,hi,hz⟩:=map_eq_some_iff.1 h;simp only[Prod.mk.injEq] at hz;exact ⟨i,hi,hz.1,hz.2.1,hz.2.2⟩
def zcc {W X Y:World} {row:Option Nat} (k:KeepO (fun _=>False) W X) (h:X.grownBy Y row) (hr:∀ b,row=some b->W.heap.size<=b):KeepO (fun _=>False) W Y :=
 ⟨h.os.trans k.os,h.tape.trans k.tape,h.output.trans k.output,le_trans k.size h.size,fun i hi hn=>(h.block i (Nat.lt_of_lt_of_le hi k.size) (fun e=>by have:=hr i e.symm;omega)).trans (k.block i hi hn)⟩
def eq_nil (b:Option Addr) (n c:Nat) (w:World):(binOp .eql 32 (.slice b n c) (.slice none 0 0)).run Tryz.prog w=.ok (.bool b.isNone) w:=by
 have e1:∀ dd,(Op.equalIn (dd+1) 32 (.slice b n c) (.slice none 0 0)).run Tryz.prog w=.ok b.isNone w:=fun dd=>by cases b<;>simp[Op.equalIn,run_underlying Tryz.underlying32]
 have k:(Op.equal 32 (.slice b n c) (.slice none 0 0)).run Tryz.prog w=.ok b.isNone w:=e1 9999;simp[binOp,k]
def news_ints {N:Nat} {W X:World} {b o:Nat} {l:List Int} (hk:∀ i,i < N->X.heap[i]? = W.heap[i]?) (h2:b < N) (h3:∀ j,j < l.length->W.cell? ⟨b,o+j,none⟩=some (.int .i64 (l.getD j 0))) :
  ∀ j u,(l.map (Value.int .i64))[j]? = some u->X.cell? ((⟨b,o,none⟩:Addr).add j)=some u:=by
 intro j u hu;rw[Addr.add_lit];rw[getElem?_map,map_eq_some_iff] at hu;obtain ⟨x,hx,rfl⟩:=hu;have hj:=(List.getElem?_eq_some_iff.1 hx).1;have:=h3 j hj;rw[getD_eq_getElem?_getD,hx] at this;exact (World.cell?_of_block (a:=⟨b,o+j,none⟩) (hk b h2)).trans this
def ints_one (l:List Int):∀ u∈l.map (Value.int .i64),u.oneCell'=true:=fun u hu=>by obtain ⟨x,_,rfl⟩:=List.mem_map.1 hu;rfl
def ziK {N base:Nat} {W:World} {v:Value} {l:List Int} (h:zcQ N W v l) (hN:N<=W.heap.size) (hl:l.length<=1000000) (hb:base<=W.heap.size) :
  Calls Tryz.prog 131 #[v] W fun e W'=>∃ v',e=.returned v'∧zi6 W' base v' l∧W.grownBy W' none∧∀ b,v'.ownBlock=some b->W.heap.size<=b:=by
 obtain ⟨i0,hi,bW,bE,bn⟩:=zcd infoI;have heq:=eq_nil;have kL:∀ i,i < N->(W.alloc (.cells #[] 3)).heap[i]? = W.heap[i]?:=fun i aA=>Below.heap_alloc W _ i (by omega);rcases h with ⟨rfl,rfl | ⟨a,c,rfl⟩⟩ | ⟨b,o,cap,rfl,h2,h3⟩
 ·go_enter Tryz.func131,Tryz.ntmps131
  go_wp2_with fail
  go_ret;exact ⟨_,rfl,.inl ⟨none,rfl,rfl,by simp[Value.ownBlock]⟩,⟨rfl,rfl,rfl,Nat.le_refl _,fun _ _ _=>rfl⟩,by simp[Value.ownBlock]⟩
 ·go_enter Tryz.func131,Tryz.ntmps131
  go_wp2_with (at_builtin;go_loud (refine wpList_append_own_at _ rfl _ _ 32 rfl base 3 i0 (.int .i64 0) 1 8 Tryz.underlying32 hi bW bE bn rfl (by decide) (.slice (some ⟨W.heap.size,0,none⟩) 0 0) 0 [] rfl (World.ownsRow_made W #[] 0 hb (by decide) rfl) a 0 c [] rfl rfl (fun j u hu=>by cases hu) (fun u hu=>by cases hu) (by decide) (by decide) (by simp;omega) ?_);intro v' w1 cL ab bt aq)
  go_ret;refine ⟨v',rfl,own_q (by simp) cL,⟨ab.os,ab.tape,ab.output,by have:=ab.size;simp at this;omega,fun k hk _ => ?_⟩,fun b az => ?_⟩
  ·exact (ab.block k (by simp;omega) (fun e=>by simp[Value.ownBlock] at e;omega)).trans (Below.heap_alloc W _ k hk)
  ·rcases aq with e | e<;>(rw[e] at az;simp[Value.ownBlock] at az;omega)
 ·go_enter Tryz.func131,Tryz.ntmps131
  go_wp2_with (at_builtin;go_loud (refine wpList_append_own_at _ rfl _ _ 32 rfl base 3 i0 (.int .i64 0) 1 8 Tryz.underlying32 hi bW bE bn rfl (by decide) (.slice (some ⟨W.heap.size,0,none⟩) 0 0) 0 [] rfl (World.ownsRow_made W #[] 0 hb (by decide) rfl) ⟨b,o,none⟩ l.length cap (l.map (.int .i64)) rfl (by simp) (news_ints kL h2 h3) (ints_one l) (by unfold maxLen;omega) (by omega) (by simp;omega) ?_);intro v' w1 cL ab bt aq)
  go_ret;rw[Nat.zero_add,List.nil_append] at cL;refine ⟨v',rfl,own_q rfl cL,⟨ab.os,ab.tape,ab.output,by have:=ab.size;simp at this;omega,fun k hk _ => ?_⟩,fun b az => ?_⟩
  ·exact (ab.block k (by simp;omega) (fun e=>by simp[Value.ownBlock] at e;omega)).trans (Below.heap_alloc W _ k hk)
  ·rcases aq with e | e<;>(rw[e] at az;simp[Value.ownBlock] at az;omega)
def lenV:Value->Nat
 | .slice _ n _=>n
 | _=>0
def boolV:Value->Bool
 | .bool b=>b
 | _=>false
def seenOf (w:World) (sb:Nat):List Bool:=match w.heap[sb]? with
 | some (.cells cs _ _)=>cs.toList.map boolV
 | _=>[]
def zgU {w:World} {sb:Nat} {seen:List Bool} (h:w.heap[sb]? = some (.cells (seen.map Value.bool).toArray 4 (0,0))):seenOf w sb=seen:=by
 unfold seenOf;rw[h];simp only[List.map_map]
 conv=>rhs;rw[← List.map_id seen]
 exact List.map_congr_left fun b _=>rfl
def seen_cell {w:World} {sb k:Nat} {seen:List Bool} (h:w.heap[sb]? = some (.cells (seen.map Value.bool).toArray 4 (0,0))) (hk:k < seen.length):w.cell? ⟨sb,k,none⟩=some (.bool (seen.getD k false))∧w.frozen? ⟨sb,k,none⟩=false:=by refine ⟨?_,by unfold World.frozen?;rw[h];simp⟩;simp only[World.cell?,h,List.getElem?_toArray,getElem?_map,List.getElem?_eq_getElem hk,map_some,getD_eq_getElem?_getD,Option.getD_some];rfl
def seen_set {w:World} {sb k:Nat} {seen:List Bool} (h:w.heap[sb]? = some (.cells (seen.map Value.bool).toArray 4 (0,0))) (hk:k < seen.length):(w.setCell ⟨sb,k,none⟩ (.bool true)).heap[sb]? = some (.cells ((seen.set k true).map Value.bool).toArray 4 (0,0)):=by simp only[World.setCell,getElem?_modify,if_true,h,map_some];congr 2;apply Array.ext';simp[List.map_set]
def zjn:∀ (l:List Nat) (f:Nat->Nat),(∀ x,f x<=1000)->(l.map f).sum<=l.length * 1000
 | [],_,_=>by simp
 | a :: r,f,h=>by
  have:=zjn r f h;have:=h a;simp only[List.map_cons,List.sum_cons,length_cons];omega
def left_most {n:List (List Int)} (h1:n.length<=1000) (h2:∀ k,(n.getD k []).length<=1000) (seen:List Bool):zfB n seen<=1000000:=by
 unfold zfB;refine le_trans (zjn _ _ fun x => ?_) (by rw[List.length_range];omega);split
 ·omega
 ·exact h2 x
def made_seen (m:Nat):madeCells #[.bool false] m=((List.replicate m false).map Value.bool).toArray:=by
 apply Array.ext';simp[madeCells,List.map_replicate];apply List.ext_getElem?;intro j;simp only[getElem?_map,List.getElem?_replicate];by_cases hj:j < m
 ·rw[List.getElem?_range hj,if_pos hj];simp[Nat.mod_one]
 ·rw[List.getElem?_eq_none (by rw[List.length_range];omega),if_neg hj];rfl
def qlen {W:World} {base:Nat} {v:Value} {l:List Int} (h:zi6 W base v l):lenV v=l.length:=by rcases h with ⟨a,rfl,rfl,_⟩ | ⟨g,o,cap,rfl,_⟩<;>rfl
def qtail {W:World} {base g o cap:Nat} {row:List Int} {x:Int} (h2:base<=g) (h3:g < W.heap.size) (h4:row.length+1<=cap) (h6:cap<=maxLen)
  (h7:∀ j,j < (x :: row).length->W.cell? ⟨g,o+j,none⟩=some (.int .i64 ((x :: row).getD j 0))) (h8:∀ j,j < cap->(W.cell? ⟨g,o+j,none⟩).isSome=true∧W.frozen? ⟨g,o+j,none⟩=false) :
  zi6 W base (.slice (if cap=1 then some ⟨g,o,none⟩ else some ⟨g,o+1,none⟩) row.length (cap - 1)) row:=by
 by_cases hc:cap=1
 ·subst hc;have:row=[]:=List.length_eq_zero_iff.1 (by omega);subst this;exact .inl ⟨_,rfl,rfl,fun b hb=>by simp[Value.ownBlock] at hb;omega⟩
 ·rw[if_neg hc];refine .inr ⟨g,o+1,cap - 1,rfl,h2,h3,by omega,by omega,by omega,fun j hj => ?_,fun j hj => ?_⟩
  ·rw[show o+1+j=o+(j+1) by omega];exact (h7 (j+1) (by simp;omega)).trans (by simp)
  ·rw[show o+1+j=o+(j+1) by omega];exact h8 (j+1) (by omega)
def reach_calls {n:List (List Int)} {i:Nat} {v:Value} {W:World} {b:Bool} (hR:RowsAt W.heap.size W v n) (hs:SmallR n i) (hb:zcT n i=some b) :
  Calls Tryz.prog 98 #[v,.int .i64 i] W fun e W'=>e=.returned (.bool b)∧KeepO (fun _=>False) W W':=by
 obtain ⟨i0,hi,bW,bE,bn⟩:=zcd infoI;obtain ⟨ib,bi,bz0,bz1,bz2⟩:=zcd infoB;have ca:=hs.rng;have aK:i < n.length:=by have:=hs.hi;simpa using this
 have hlen:=hs.len;have cK:=hs.rows;have hR0:=hR;obtain ⟨b0,o0,cap0,rfl,bX,gF⟩:=hR0;obtain ⟨u,hu,tC⟩:=gF i (n.getD i []) (by rw[getD_eq_getElem?_getD,List.getElem?_eq_getElem aK];rfl);have a0:(0:Int)<=(i:Int):=Int.natCast_nonneg _;have a1:(i:Int) < (n.length:Int):=by omega
 have hold:∀ k,k < W.heap.size->(W.alloc (.cells (madeCells #[.bool false] n.length) 4)).heap[k]? = W.heap[k]?:=fun k hk=>Below.heap_alloc W _ k hk;have hu1:(W.alloc (.cells (madeCells #[.bool false] n.length) 4)).cell? ⟨b0,o0+i,none⟩=some u:=(World.cell?_of_block (a:=⟨b0,o0+i,none⟩) (hold b0 bX)).trans hu;have hc:=ziK (base:=W.heap.size+1) (tC.keep hold) (by simp) (le_trans (cK i) (by omega)) (by simp)
 go_enter Tryz.func98,Tryz.ntmps98
 go_wp2_with (first
  | (refine wpList_make_row _ rfl _ _ 86 rfl 4 ib (.bool false) Tryz.underlying86 bi bz0 bz1 rfl .i64 .i64 n.length rfl rfl (by rw[bz2];omega) (by omega) ?_)
  | (go_at_call 131;go_must (refine hc.mono ?_);rintro e X ⟨v',rfl,hq,hg,cL⟩))
 have hX:X.heap[W.heap.size]? = some (.cells ((List.replicate n.length false).map Value.bool).toArray 4 (0,0)):=(by rw[← made_seen];exact (hg.block _ (by simp) (fun e=>by cases e)).trans (heap_alloc_new W _));have kX:KeepO (fun _=>False) W X:=zcc (⟨rfl,rfl,rfl,by simp,fun k hk _=>Below.heap_alloc W _ k hk⟩:KeepO (fun _=>False) W (W.alloc (.cells (madeCells #[.bool false] n.length) 4))) hg (fun b e=>by cases e);have hlm:=left_most hlen cK;clear hc hu1 hold hu tC
 go_loopw [6] (fun t6 wr=>∃ (f:Nat) (seen:List Bool) (row:List Int),zi6 wr (W.heap.size+1) t6 row∧wr.heap[W.heap.size]? = some (.cells (seen.map Value.bool).toArray 4 (0,0))∧seen.length=n.length∧(∀ k∈row,0<=k∧k < n.length)∧zlg n i f seen row=some b∧row.length+zfB n seen<=1001000∧KeepO (fun _=>False) W wr) (fun t6 wr=>lenV t6+zfB n (seenOf wr W.heap.size))
 case atStart =>
  exact ⟨_,_,_,hq,hX,by simp,fun k hk=>ca i k hk,hb,by have:=hlm (List.replicate n.length false);have:=cK i;omega,kX⟩
 case round =>
  obtain ⟨f,seen,row,hQ,hS,rJ,hk,hf,hC,hK⟩:=hrel;obtain ⟨f,rfl⟩:∃ f',f=f'+1:=by
   cases f with
   | zero=>cases hf
   | succ f=>exact ⟨f,rfl⟩
  cases row with
  | nil =>
   simp only[zlg] at hf;cases hf;rcases hQ with ⟨a,rfl,_,_⟩ | ⟨g,o,cap,rfl,_⟩
   ·go_wp2_with fail
    go_ret;exact ⟨rfl,hK⟩
   ·go_wp2_with fail
    go_ret;exact ⟨rfl,hK⟩
  | cons k0 row =>
   obtain ⟨bC,bS⟩:=hk k0 (by simp);obtain ⟨k,rfl⟩:∃ k:Nat,k0=k:=⟨k0.toNat,by omega⟩;rcases hQ with ⟨a,_,e,_⟩ | ⟨g,o,cap,rfl,h2,h3,h4,h5,h6,h7,h8⟩
   ·cases e
   have tN:k < n.length:=by omega
   have c0:wr.cell? ⟨g,o,none⟩=some (.int .i64 k):=h7 0 (by simp);obtain ⟨sc,sf⟩:=seen_cell hS (k:=k) (by omega);simp only[length_cons] at h4 hC;have d0:(1:Int)<=((row.length+1:Nat):Int):=by omega
   have d1:(0:Int) < ((row.length+1:Nat):Int):=by omega
   have d2:((row.length+1:Nat):Int)<=(cap:Int):=by omega
   have d3:(k:Int) < (seen.length:Int):=by omega
   have d4:(k:Int) < (n.length:Int):=by omega
   simp only[zlg,Int.toNat_natCast] at hf;by_cases e:(k:Int)=(i:Int)
   ·rw[if_pos e] at hf;cases hf;have e':k=i:=by omega
    subst e'
    go_wp2_with fail
    all_goals (go_ret;exact ⟨rfl,hK⟩)
   rw[if_neg e] at hf;cases rK:seen.getD k false with
   | true =>
    rw[rK] at hf sc;rw[if_pos rfl] at hf
    go_wp2_with fail
    go_roundw
    case rel=>exact ⟨f,seen,row,qtail h2 h3 h4 h6 h7 h8,hS,rJ,fun x hx=>hk x (List.mem_cons_of_mem _ hx),hf,by omega,hK⟩
    case measure =>
     simp only[lenV,length_cons];omega
   | false =>
    rw[rK] at hf sc;rw[if_neg (by simp)] at hf;have hS':=seen_set hS (k:=k) (by omega);have tI:=(qtail h2 h3 h4 h6 h7 h8).kept (w':=wr.setCell ⟨W.heap.size,k,none⟩ (.bool true)) (row:=some W.heap.size) (jG wr W.heap.size k [.bool true]) (fun x hx e=>by cases e;split at hx<;>(simp[Value.ownBlock] at hx;omega))
    have kS:KeepO (fun _=>False) W (wr.setCell ⟨W.heap.size,k,none⟩ (.bool true)):=zcc hK (jG wr W.heap.size k [.bool true]) (fun x hx=>by cases hx;exact Nat.le_refl _);obtain ⟨y,hy,hyi⟩:=gF k (n.getD k []) (by rw[getD_eq_getElem?_getD,List.getElem?_eq_getElem tN];rfl);have y1:(wr.setCell ⟨W.heap.size,k,none⟩ (.bool true)).cell? ⟨b0,o0+k,none⟩=some y:=(World.cell?_of_block (a:=⟨b0,o0+k,none⟩) (kS.block b0 bX id)).trans hy;have ysrc:=(hyi.keep (fun x hx=>kS.block x hx id)).src (P:=Tryz.prog) (t:=32) (e:=3) Tryz.underlying32;have bJ:=zhg rJ tN rK;have eH:∀ x,(n.getD x []).length<=1000:=cK;have hwb:W.heap.size+1<=(wr.setCell ⟨W.heap.size,k,none⟩ (.bool true)).heap.size:=le_trans (by omega) (jG wr W.heap.size k [.bool true]).size
    go_wp2_with (at_builtin;go_loud (refine zex rfl _ _ 32 rfl tI hwb Tryz.underlying32 hi bW bE bn rfl rfl rfl ysrc (by have:=eH k;omega) ?_);intro v2 w2 uf sP sR)
    have hob:(Value.slice (if cap=1 then some (⟨g,o,none⟩:Addr) else some ⟨g,o+1,none⟩) row.length (cap - 1)).ownBlock=some g:=by split<;>rfl
    rw[hob] at sP;have k2:=zcc kS sP (fun x hx=>by cases hx;omega);have ue:w2.heap[W.heap.size]? = _:=(sP.block W.heap.size (by omega) (fun e=>by cases e;omega)).trans hS'
    go_roundw
    case rel =>
     refine ⟨f,seen.set k true,row++n.getD k [],uf,ue,by rw[length_set];exact rJ,fun x hx => ?_,hf,by rw[List.length_append];omega,k2⟩;rcases List.mem_append.1 hx with hx | hx
     ·exact hk x (List.mem_cons_of_mem _ hx)
     ·exact ca k x hx
    case measure =>
     rw[qlen uf,zgU ue,zgU hS];simp only[lenV,length_cons,List.length_append];omega
end Go.Proofs.TryzReach
end
