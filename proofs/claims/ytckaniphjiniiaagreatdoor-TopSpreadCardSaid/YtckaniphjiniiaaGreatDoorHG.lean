import Derived.Test.YtckaniphjiniiaaGreatDoorProg
import Derived.Test.YtckaniphjiniiaaGreatDoorH5
import Derived.WalkSpells
import Derived.BigQuiet
import Derived.BigRegion
import Derived.StillTailTactics
import Derived.Deep.DeepMust
open List (getD_eq_getElem?_getD)
open Option (isSome_none map_some)
open Array (getElem?_push_size)
set_option linter.all false
set_option maxRecDepth 100000
set_option maxHeartbeats 8000000
noncomputable section
section
namespace Go.Proofs.TryzSolve
open Go Go.RowKit Ab
def wy {w:World} {b k:Nat} {vs:Array Value} {x:Value} {el:TypeId} (h:w.heap[b]? = some (.cells vs el (0,0))) (hx:vs[k]? = some x):w.cell? ⟨b,k,none⟩=some x∧∀j,w.frozen? ⟨b,j,none⟩=false:=by refine⟨?_,fun j=>by unfold World.frozen?;rw[h];simp⟩;simp only[World.cell?,h];exact hx
def zgq {w:World} {b:Nat} {v1 v2:Value} {el:TypeId} (h:w.heap[b]? = some (.cells #[v1,v2] el (0,0))):w.cell? ⟨b,0,none⟩=some v1∧w.cell? ⟨b,1,none⟩=some v2∧∀j,w.frozen? ⟨b,j,none⟩=false:=by refine⟨?_, ?_,fun j=>by unfold World.frozen?;rw[h];simp⟩<;>simp only[World.cell?,h]<;>rfl
def set_two {w:World} {b:Nat} {v1 v2 u1 u2:Value} {el:TypeId} (h:w.heap[b]? = some (.cells #[v1,v2] el (0,0))):((w.setCell ⟨b,0,none⟩ u1).setCell ⟨b,1,none⟩ u2).heap[b]? = some (.cells #[u1,u2] el (0,0)):=by simp only[World.setCell,Array.getElem?_modify,if_true,h,map_some,isSome_none,Bool.false_eq_true,if_false];rfl
def res_two {w:World} {b:Nat} {u1 u2:Value} {el:TypeId} (h:w.heap[b]? = some (.cells #[u1,u2] el (0,0))) {tm:Array Value} (ht:tm.getD 4 undef=.pointer (some ⟨b,0,none⟩)) :
  (results Tryz.f21 tm).run Tryz.prog w=.ok (.agg #[u1,u2]) w:=by
 obtain⟨h1,h2,_⟩:=zgq h;have hr:Tryz.f21.results=#[.cell 4 48]:=rfl;have hj:(Tryz.prog.info? 48).map (·.size)=some 2:=by kernel_rfl
 obtain⟨i,hi,hs⟩:=Option.map_eq_some_iff.1 hj;rw[Array.getD_eq_getD_getElem?] at ht;simp only[results,hr];simp[ht,asAddr,loadVar,isAgg,sizeOf,typeInfo,underlying,Tryz.underlying48,loadCells,Addr.add,h1,h2,hi,hs,loadCellsFrom,Result.andThen]
def zlo {J:JP} {W Z:World} (h:GK J W Z) (nk:W.heap.size≠J.s.kb) (nc:W.heap.size≠J.s.cb) (k:Nat) (v:Value):GK J W (Z.setCell ⟨W.heap.size,k,none⟩ v):=by
 obtain⟨⟨a,b,c,d,e⟩,m⟩:=h;have off:∀x,x≠W.heap.size->(Z.setCell ⟨W.heap.size,k,none⟩ v).heap[x]? = Z.heap[x]?:=fun x hx=>Below.heap_setCell Z _ v x hx;have m':=m;obtain⟨kn,cl,hM⟩:=m';obtain⟨v1,e1,h1,_⟩:=hM.hk;obtain⟨v2,e2,h2,_⟩:=hM.hc;refine⟨⟨a,b,c,by simpa[World.setCell] using d,fun x hx hn=>(off x (by omega)).trans (e x hx hn)⟩,Memo.keep J Z _ (fun x hx => ?_) m⟩;rcases hx with rfl|rfl
 ·exact⟨(Array.getElem?_eq_some_iff.1 h1).1,off _ (Ne.symm nk)⟩
 ·exact⟨(Array.getElem?_eq_some_iff.1 h2).1,off _ (Ne.symm nc)⟩
def kn_set {w:World} {b k:Nat} {vs:Array Value} {x:Value} {el:TypeId} (h:w.heap[b]? = some (.cells vs el (0,0))):(w.setCell ⟨b,k,none⟩ x).heap[b]? = some (.cells (vs.setIfInBounds k x) el (0,0)):=by simp only[World.setCell,Array.getElem?_modify,if_true,h,map_some,isSome_none,Bool.false_eq_true,if_false]
def set_at {vs:Array Value} {k i:Nat} {kn:List Bool} (h:vs[i]? = some (.bool (kn.getD i false))) (hk:k<kn.length):(vs.setIfInBounds k (.bool true))[i]? = some (.bool ((kn.set k true).getD i false)):=by
 have hi:=(Array.getElem?_eq_some_iff.1 h).1;rw[Array.getElem?_setIfInBounds,getD_eq_getElem?_getD,List.getElem?_set];by_cases e:k=i
 ·subst e;simp[hi,hk]
 ·simp only[if_neg e];rw[h,getD_eq_getElem?_getD]
def set_at2 {vs:Array Value} {k i:Nat} {c:Ab.Cell} {cl:List Ab.Cell} (h:vs[i*2]? = some (.int .i64 (cl.getD i default).k)∧vs[i*2+1]? = some (.int .i64 (cl.getD i default).n)) (hk:k<cl.length) :
  ((vs.setIfInBounds (k*2) (.int .i64 c.k)).setIfInBounds (k*2+1) (.int .i64 c.n))[i*2]? = some (.int .i64 ((cl.set k c).getD i default).k)∧((vs.setIfInBounds (k*2) (.int .i64 c.k)).setIfInBounds (k*2+1) (.int .i64 c.n))[i*2+1]? = some (.int .i64 ((cl.set k c).getD i default).n):=by
 have h1:=(Array.getElem?_eq_some_iff.1 h.1).1;have h2:=(Array.getElem?_eq_some_iff.1 h.2).1;simp only[Array.getElem?_setIfInBounds,Array.size_setIfInBounds,getD_eq_getElem?_getD,List.getElem?_set];by_cases e:k=i
 ·subst e;rw[if_neg (by omega),if_pos rfl,if_pos h1,if_pos rfl,if_pos h2,if_pos rfl,if_pos hk];exact⟨rfl,rfl⟩
 ·have a1:¬k*2+1=i*2:=by omega
  have a2:¬k*2=i*2:=by omega
  have a3:¬k*2+1=i*2+1:=by omega
  have a4:¬k*2=i*2+1:=by omega
  simp only[if_neg a1,if_neg a2,if_neg a3,if_neg a4,if_neg e];simpa only[getD_eq_getElem?_getD] using h
def zj5 {J:JP} {b o k:Nat} {c:Ab.Cell} {W:World} (fB:b≠J.s.kb) (mF:b≠J.s.cb) (ah:J.s.kb≠J.s.cb)
  (f3:W.cell? ⟨b,o+3,none⟩=some (zfu J.s.kb J.s.n J.s.kc)) (f4:W.cell? ⟨b,o+4,none⟩=some (zfu J.s.cb J.s.n J.s.cc)) (hk:k<J.s.n) {kn:List Bool} {cl:List Ab.Cell} (hM:MemoIs J W kn cl) (hc:c=J.U k) :
  Calls Tryz.prog 45 #[.pointer (some ⟨b,o,none⟩),.int .i64 k,.agg #[.int .i64 c.k,.int .i64 c.n]] W fun e Y=>e=.returned (.tuple #[])∧KeepO (JG J) W Y∧MemoIs J Y (kn.set k true) (cl.set k c):=by
 subst hc;obtain⟨v1,e1,cW,mR⟩:=hM.hk;obtain⟨v2,e2,fe,kC⟩:=hM.hc;have mh:=hM.lk;have tK:=hM.lc;obtain⟨kc,kf⟩:=wy cW (mR k hk);obtain⟨cc,cf⟩:=wy fe (kC k hk).1;have cd:=(wy fe (kC k hk).2).1;have d0:(k:Int)<(J.s.n:Int):=by omega
 have iT:J.s.kb<W.heap.size:=(Array.getElem?_eq_some_iff.1 cW).1;have dA:J.s.cb<W.heap.size:=(Array.getElem?_eq_some_iff.1 fe).1;have al:∀(O:Obj) (x:Nat),x<W.heap.size->(W.alloc O).heap[x]? = W.heap[x]?:=fun O x hx=>Below.heap_alloc W O x hx;have hb:b<W.heap.size:=World.block_lt_of_cell? W _ f3;have g3:∀O,(W.alloc O).cell? ⟨b,o+3,none⟩=some (zfu J.s.kb J.s.n J.s.kc):=fun O=>(World.cell?_of_block (a:=⟨b,o+3,none⟩) (al O b hb)).trans f3;have g4:∀O,(W.alloc O).cell? ⟨b,o+4,none⟩=some (zfu J.s.cb J.s.n J.s.cc):=fun O=>(World.cell?_of_block (a:=⟨b,o+4,none⟩) (al O b hb)).trans f4;have gk:∀O,(W.alloc O).cell? ⟨J.s.kb,k,none⟩=some (.bool (kn.getD k false)):=fun O=>(World.cell?_of_block (a:=⟨J.s.kb,k,none⟩) (al O _ iT)).trans kc;have gc:∀O,(W.alloc O).cell? ⟨J.s.cb,k*2,none⟩=some (.int .i64 (cl.getD k default).k):=fun O=>(World.cell?_of_block (a:=⟨J.s.cb,k*2,none⟩) (al O _ dA)).trans cc;have gd:∀O,(W.alloc O).cell? ⟨J.s.cb,k*2+1,none⟩=some (.int .i64 (cl.getD k default).n):=fun O=>(World.cell?_of_block (a:=⟨J.s.cb,k*2+1,none⟩) (al O _ dA)).trans cd;have cx:∀O,(W.alloc O).heap[J.s.kb]? = some (.cells v1 e1 (0,0)):=fun O=>(al O _ iT).trans cW;have dP:∀O,(W.alloc O).heap[J.s.cb]? = some (.cells v2 e2 (0,0)):=fun O=>(al O _ dA).trans fe;have fk:∀O,(W.alloc O).frozen? ⟨J.s.kb,k,none⟩=false:=fun O=>(wy (cx O) (mR k hk)).2 k;have fc:∀O j,(W.alloc O).frozen? ⟨J.s.cb,j,none⟩=false:=fun O j=>(wy (dP O) (kC k hk).1).2 j;have pC:¬J.s.cb=J.s.kb:=fun e=>ah e.symm
 go_enter Tryz.func45,Tryz.ntmps45
 go_wp2
 go_region
 go_end0
 have off:∀(X:World) (p:Addr) (v:Value) (x:Nat),x≠p.block->(X.setCell p v).heap[x]? = X.heap[x]?:=fun X p v x hx=>Below.heap_setCell X p v x hx;refine⟨rfl,⟨rfl,rfl,rfl,by simp[World.setCell],fun x hx hn => ?_⟩,⟨_,e1, ?_,fun i hi=>set_at (mR i hi) (by omega)⟩,⟨_,e2, ?_,fun i hi=>set_at2 (kC i hi) (by omega)⟩,by rw[List.length_set];exact mh,by rw[List.length_set];exact tK,fun i hi => ?_⟩
 ·have n1:x≠J.s.kb:=fun e=>hn (.inl e);have n2:x≠J.s.cb:=fun e=>hn (.inr e);refine (Below.heap_alloc _ _ x (by simpa[World.setCell] using hx)).trans ?_;rw[off _ _ _ x n2,off _ _ _ x n2,off _ _ _ x n1]
 ·refine (Below.heap_alloc _ _ _ (by simpa[World.setCell] using iT)).trans ?_;rw[off _ _ _ _ ah,off _ _ _ _ ah];exact kn_set cW
 ·refine (Below.heap_alloc _ _ _ (by simpa[World.setCell] using dA)).trans ?_;refine kn_set (kn_set ?_);rw[off _ _ _ _ pC];exact fe
 ·by_cases e:i=k
  ·subst e;rw[getD_eq_getElem?_getD,List.getElem?_set_self (by omega)];rfl
  ·rw[getD_eq_getElem?_getD,List.getElem?_set_ne (Ne.symm e),←getD_eq_getElem?_getD] at hi ⊢;exact hM.ok i hi
def at_calls {J:JP} {b o k:Nat} {u0 p:Value} {W:World} (hb:b<W.heap.size) (fB:b≠J.s.kb) (mF:b≠J.s.cb) (ah:J.s.kb≠J.s.cb) (f0:W.cell? ⟨b,o,none⟩=some u0) (one:u0.oneCell'=true)
  (f3:W.cell? ⟨b,o+3,none⟩=some (zfu J.s.kb J.s.n J.s.kc)) (f4:W.cell? ⟨b,o+4,none⟩=some (zfu J.s.cb J.s.n J.s.cc)) (hm:Memo J W) (hk:k<J.s.n)
  (mO:∀X,GK J W X->Calls Tryz.prog 44 #[.agg #[u0],p] X fun e Y=>e=.returned (.int .i64 k)∧GK J X Y)
  (kt:∀X,GK J W X->Calls Tryz.prog 46 #[.pointer (some ⟨b,o,none⟩),p] X fun e Y=>e=.returned (.agg (zkp (J.U k)).toArray)∧GK J X Y) :
  Calls Tryz.prog 21 #[.pointer (some ⟨b,o,none⟩),p] W fun e Y=>e=.returned (.agg (zkp (J.U k)).toArray)∧GK J W Y:=by
 have keepb:∀ {X:World},GK J W X->X.heap[b]? = W.heap[b]?:=fun h=>h.1.block b hb fun e=>e.elim fB mF;have trans:∀ {X Y:World},GK J W X->GK J X Y->GK J W Y:=fun h1 h2=>⟨h1.1.trans h2.1,h2.2⟩;have cP:GK J W (W.alloc (.cells #[.int .i64 0,.int .i64 0] 48)):=by
  obtain⟨kn,cl,hM⟩:=hm;refine⟨⟨rfl,rfl,rfl,by simp,fun x hx _=>Below.heap_alloc W _ x hx⟩,Memo.keep J W _ (fun x hx => ?_) ⟨kn,cl,hM⟩⟩;obtain⟨v1,e1,h1,_⟩:=hM.hk;obtain⟨v2,e2,h2,_⟩:=hM.hc;have aj:x<W.heap.size:=by rcases hx with rfl|rfl;exact (Array.getElem?_eq_some_iff.1 h1).1;exact (Array.getElem?_eq_some_iff.1 h2).1
  exact⟨aj,Below.heap_alloc W _ x aj⟩
 have al:∀(O:Obj) (x:Nat),x<W.heap.size->(W.alloc O).heap[x]? = W.heap[x]?:=fun O x hx=>Below.heap_alloc W O x hx;have g0:∀O,(W.alloc O).cell? ⟨b,o,none⟩=some u0:=fun O=>(World.cell?_of_block (a:=⟨b,o,none⟩) (al O b hb)).trans f0;have nk:W.heap.size≠J.s.kb:=(by obtain⟨kn,cl,hM⟩:=hm;obtain⟨v1,e1,h1,_⟩:=hM.hk;exact fun e=>Nat.lt_irrefl _ (e▸(Array.getElem?_eq_some_iff.1 h1).1));have nc:W.heap.size≠J.s.cb:=(by obtain⟨kn,cl,hM⟩:=hm;obtain⟨v1,e1,h1,_⟩:=hM.hc;exact fun e=>Nat.lt_irrefl _ (e▸(Array.getElem?_eq_some_iff.1 h1).1));have b1:(W.alloc (.cells #[.int .i64 0,.int .i64 0] 48)).heap[W.heap.size]? = some (.cells #[.int .i64 0,.int .i64 0] 48 (0,0)):=(by show (W.heap.push _)[W.heap.size]? = _;exact getElem?_push_size);have kpn:∀ {X Y:World},GK J X Y->X.heap[W.heap.size]? = some (.cells #[.int .i64 0,.int .i64 0] 48 (0,0))->Y.heap[W.heap.size]? = some (.cells #[.int .i64 0,.int .i64 0] 48 (0,0)):=fun h e=>(h.1.block _ (Array.getElem?_eq_some_iff.1 e).1 fun e=>e.elim nk nc).trans e
 go_enter Tryz.func21,Tryz.ntmps21
 go_wp2_with (first
  | (go_at_call 44;go_must (refine (mO _ cP).mono ?_);rintro e X ⟨rfl,hX⟩
     have tX:=trans cP hX;have b2:=kpn hX b1;obtain⟨n1,n2,n3⟩:=zgq b2;have hbX:b<X.heap.size:=Nat.lt_of_lt_of_le hb tX.1.size;have z3:X.cell? ⟨b,o+3,none⟩=some (zfu J.s.kb J.s.n J.s.kc):=(World.cell?_of_block (a:=⟨b,o+3,none⟩) (keepb tX)).trans f3;have z4:X.cell? ⟨b,o+4,none⟩=some (zfu J.s.cb J.s.n J.s.cc):=(World.cell?_of_block (a:=⟨b,o+4,none⟩) (keepb tX)).trans f4;obtain⟨kn,cl,hM⟩:=tX.2;obtain⟨v1,e1,cW,mR⟩:=hM.hk;obtain⟨v2,e2,fe,kC⟩:=hM.hc;have mh:=hM.lk;have tK:=hM.lc;obtain⟨kc,kf⟩:=wy cW (mR k hk);obtain⟨cc,cf⟩:=wy fe (kC k hk).1;have cd:=(wy fe (kC k hk).2).1;have d0:(k:Int)<(J.s.n:Int):=by omega
     rcases ic:kn.getD k false with _|_<;>(rw[ic] at kc;first|(rw[hM.ok k ic] at cc cd)|skip)))
 all_goals go_wp2_with (first
  | (go_at_call 46;go_must (refine (kt _ tX).mono ?_);rintro e Y ⟨rfl,hY⟩
     have tY:=trans tX hY;have b3:=kpn hY b2;have tW:b<Y.heap.size:=Nat.lt_of_lt_of_le hb tY.1.size;have y3:Y.cell? ⟨b,o+3,none⟩=some (zfu J.s.kb J.s.n J.s.kc):=(World.cell?_of_block (a:=⟨b,o+3,none⟩) (keepb tY)).trans f3;have y4:Y.cell? ⟨b,o+4,none⟩=some (zfu J.s.cb J.s.n J.s.cc):=(World.cell?_of_block (a:=⟨b,o+4,none⟩) (keepb tY)).trans f4;obtain⟨kn2,cl2,uh⟩:=tY.2)
  | (go_at_call 45;go_must (refine (zj5 fB mF ah y3 y4 hk uh rfl).mono ?_);rintro e Z ⟨rfl,hZ,mM⟩
     have tZ:GK J W Z:=⟨tY.1.trans hZ,_,_,mM⟩;have b4:=kpn ⟨hZ,_,_,mM⟩ b3;obtain⟨n1,n2,n3⟩:=zgq b4;have z4:Z.cell? ⟨b,o+4,none⟩=some (zfu J.s.cb J.s.n J.s.cc):=(World.cell?_of_block (a:=⟨b,o+4,none⟩) (keepb tZ)).trans f4;obtain⟨v3,e3,tN,gk3⟩:=mM.hk;obtain⟨v4,e4,mC,uv⟩:=mM.hc;have hl3:=mM.lc;obtain⟨cc,cf⟩:=wy mC (uv k hk).1;have cd:=(wy mC (uv k hk).2).1;have hu:(cl2.set k (J.U k)).getD k default=J.U k:=(by rw[getD_eq_getElem?_getD,List.getElem?_set_self (by have:=uh.lc;omega)];rfl);rw[hu] at cc cd))
 ·exact bodyPost_ret (res_two (set_two b4) rfl) rfl ⟨rfl,zlo (zlo tZ nk nc _ _) nk nc _ _⟩
 ·exact bodyPost_ret (res_two (set_two b2) rfl) rfl ⟨rfl,zlo (zlo tX nk nc _ _) nk nc _ _⟩
end Go.Proofs.TryzSolve
end
section
namespace Go.Proofs.TryzSolve
open Go Go.RowKit Ab
def sec:Code->Code
 | .seq _ c=>c
 | c=>c
def rest332:Code:=sec (sec (sec (sec (Tryz.f9.body.getD .skip))))
abbrev K0 (W X:World):Prop:=KeepO (fun _=>False) W X
def K0.alloc (W:World) (o:Obj):K0 W (W.alloc o):=⟨rfl,rfl,rfl,by simp,fun x hx _=>Below.heap_alloc W o x hx⟩
def one_cell {w:World} {b:Nat} {v:Value} {el:TypeId} (h:w.heap[b]? = some (.cells #[v] el (0,0))):w.cell? ⟨b,0,none⟩=some v:=by simp only[World.cell?,h];rfl
def all_walk {u0 l:Value} {W:World} {R:Ending->World->Prop} {N:World->World->Value->Prop} (one:u0.oneCell'=true)
  (ct:∀X,K0 W X->Calls Tryz.prog 10 #[.agg #[u0],l] X fun e Y=>e=.returned .nilIface∧K0 X Y)
  (ku:∀X,K0 W X->W.heap.size<X.heap.size->Calls Tryz.prog 20 #[.agg #[u0],l] X fun e Y=>∃pv,e=.returned (.tuple #[pv,.nilIface])∧K0 X Y∧N X Y pv)
  (bN:∀X Y pv tm,K0 W X->W.heap.size<X.heap.size->K0 X Y->N X Y pv->X.cell? ⟨W.heap.size,0,none⟩=some u0->tm.size=41->tm.getD 2 undef=.pointer (some ⟨W.heap.size,0,none⟩)->tm.getD 1 undef=l->tm.getD 7 undef=pv ->
   rest332.wp Tryz.prog (bodyPost Tryz.prog Tryz.f9 R) { tmps:=tm,defers:=[] } Y) :
  Calls Tryz.prog 9 #[.agg #[u0],l] W R:=by
 have k1:K0 W (W.alloc (.cells #[u0] 24)):=K0.alloc W _;have b1:(W.alloc (.cells #[u0] 24)).heap[W.heap.size]? = some (.cells #[u0] 24 (0,0)):=(by show (W.heap.push _)[W.heap.size]? = _;exact getElem?_push_size);have c1:=one_cell b1;have keepb:∀ {X Y:World},K0 X Y->X.heap[W.heap.size]? = some (.cells #[u0] 24 (0,0))->Y.heap[W.heap.size]? = some (.cells #[u0] 24 (0,0)):=fun h e=>(h.block _ (Array.getElem?_eq_some_iff.1 e).1 fun e=>e).trans e
 go_enter Tryz.func9,Tryz.ntmps9
 show Code.wp _ (Code.seq _ (Code.seq _ (Code.seq _ (Code.seq _ rest332)))) _ _ _
 go_wp2_with (first
  | (go_at_call 10;go_must (refine (ct _ k1).mono ?_);rintro e X ⟨rfl,hX⟩
     have k2:=k1.trans hX;have b2:=keepb hX b1;have c2:=one_cell b2)
  | (go_at_call 20;go_must (refine (ku _ k2 (Array.getElem?_eq_some_iff.1 b2).1).mono ?_);rintro e Y ⟨pv,rfl,hY,hN⟩
     have b3:=keepb hY b2;have c3:=one_cell b3))
 exact bN _ _ _ _ k2 (Array.getElem?_eq_some_iff.1 b2).1 hY hN c2 rfl rfl rfl rfl
def all_err {u0 l:Value} {W:World} {R:Ending->World->Prop} (one:u0.oneCell'=true)
  (ct:∀X,K0 W X->Calls Tryz.prog 10 #[.agg #[u0],l] X fun e Y=>∃T v,e=.returned (.iface T v)∧K0 X Y∧R (.returned (.tuple #[.slice none 0 0,.iface T v])) Y) :
  Calls Tryz.prog 9 #[.agg #[u0],l] W R:=by
 have k1:K0 W (W.alloc (.cells #[u0] 24)):=K0.alloc W _;have b1:(W.alloc (.cells #[u0] 24)).heap[W.heap.size]? = some (.cells #[u0] 24 (0,0)):=(by show (W.heap.push _)[W.heap.size]? = _;exact getElem?_push_size);have c1:=one_cell b1
 go_enter Tryz.func9,Tryz.ntmps9
 show Code.wp _ (Code.seq _ (Code.seq _ (Code.seq _ (Code.seq _ rest332)))) _ _ _
 go_wp2_with (first
  | (go_at_call 10;go_must (refine (ct _ k1).mono ?_);rintro e X ⟨T,v,rfl,hX,hR⟩))
 exact hR
end Go.Proofs.TryzSolve
end
section
namespace Go.Proofs.TryzSolve
open Go Go.RowKit Ab
def rest377:Code:=sec (sec (sec (sec (sec (sec (Tryz.f7.body.getD .skip))))))
def make_walk {u0 l:Value} {pa:Option Addr} {pn pc row col:Nat} {W:World} {R:Ending->World->Prop} {N:World->World->Value->Prop} (one:u0.oneCell'=true) (hr:row<pn) (hc:col<pn) (pr:row≠col) (gR:pn<=9223372036854775807)
  (ct:∀X,K0 W X->Calls Tryz.prog 10 #[.agg #[u0],l] X fun e Y=>e=.returned .nilIface∧K0 X Y)
  (lx:∀X,K0 W X->Calls Tryz.prog 19 #[.agg #[u0],.slice pa pn pc] X fun e Y=>e=.returned .nilIface∧K0 X Y)
  (ku:∀X,K0 W X->W.heap.size+1<X.heap.size->Calls Tryz.prog 20 #[.agg #[u0],l] X fun e Y=>∃pv,e=.returned (.tuple #[pv,.nilIface])∧K0 X Y∧N X Y pv)
  (bN:∀X Y pv tm,K0 W X->W.heap.size+1<X.heap.size->K0 X Y->N X Y pv->X.cell? ⟨W.heap.size,0,none⟩=some u0->X.heap[W.heap.size+1]? = some (.cells #[.slice none 0 0,.slice none 0 0,.slice none 0 0] 43 (0,0))->tm.size=136->tm.getD 2 undef=.slice pa pn pc->tm.getD 3 undef=.int .i64 row->tm.getD 4 undef=.int .i64 col->tm.getD 5 undef=.pointer (some ⟨W.heap.size,0,none⟩)->tm.getD 10 undef=.pointer (some ⟨W.heap.size+1,0,none⟩)->tm.getD 14 undef=pv ->
   rest377.wp Tryz.prog (bodyPost Tryz.prog Tryz.f7 R) { tmps:=tm,defers:=[] } Y) :
  Calls Tryz.prog 7 #[.agg #[u0],l,.slice pa pn pc,.int .i64 row,.int .i64 col] W R:=by
 have k1:K0 W ((W.alloc (.cells #[u0] 24)).alloc (.cells #[.slice none 0 0,.slice none 0 0,.slice none 0 0] 43)):=(K0.alloc W _).trans (K0.alloc _ _);have b1:((W.alloc (.cells #[u0] 24)).alloc (.cells #[.slice none 0 0,.slice none 0 0,.slice none 0 0] 43)).heap[W.heap.size]? = some (.cells #[u0] 24 (0,0)):=(by refine (Below.heap_alloc _ _ _ (by simp)).trans ?_;show (W.heap.push _)[W.heap.size]? = _;exact getElem?_push_size);have d1:((W.alloc (.cells #[u0] 24)).alloc (.cells #[.slice none 0 0,.slice none 0 0,.slice none 0 0] 43)).heap[W.heap.size+1]? = some (.cells #[.slice none 0 0,.slice none 0 0,.slice none 0 0] 43 (0,0)):=by
  have:W.heap.size+1=(W.alloc (.cells #[u0] 24)).heap.size:=by simp
  rw[this];show ((W.alloc (.cells #[u0] 24)).heap.push _)[(W.alloc (.cells #[u0] 24)).heap.size]? = _;exact getElem?_push_size
 have c1:=one_cell b1;have keepb:∀ {X Y:World} {b:Nat} {o:Obj},K0 X Y->X.heap[b]? = some o->Y.heap[b]? = some o:=fun h e=>(h.block _ (Array.getElem?_eq_some_iff.1 e).1 fun e=>e).trans e;have e1:¬((row:Int)<0):=by omega
 have e2:¬((pn:Int)<=(row:Int)):=by omega
 have e3:¬((col:Int)<0):=by omega
 have e4:¬((pn:Int)<=(col:Int)):=by omega
 have e5:¬((row:Int)=(col:Int)):=by omega
 go_enter Tryz.func7,Tryz.ntmps7
 show Code.wp _ (Code.seq _ (Code.seq _ (Code.seq _ (Code.seq _ (Code.seq _ (Code.seq _ rest377)))))) _ _ _
 go_wp2_with (first
  | (go_at_call 10;go_must (refine (ct _ k1).mono ?_);rintro e X ⟨rfl,hX⟩
     have k2:=k1.trans hX;have b2:=keepb hX b1;have d2:=keepb hX d1;have c2:=one_cell b2)
  | (go_at_call 19;go_must (refine (lx _ k2).mono ?_);rintro e X2 ⟨rfl,rI⟩
     have k3:=k2.trans rI;have b3:=keepb rI b2;have d3:=keepb rI d2;have c3:=one_cell b3)
  | (go_at_call 20;go_must (refine (ku _ k3 (Array.getElem?_eq_some_iff.1 d3).1).mono ?_);rintro e Y ⟨pv,rfl,hY,hN⟩
     have b4:=keepb hY b3;have d4:=keepb hY d3;have c4:=one_cell b4))
 exact bN _ _ _ _ k3 (Array.getElem?_eq_some_iff.1 d3).1 hY hN c3 d3 rfl rfl rfl rfl rfl rfl rfl
end Go.Proofs.TryzSolve
end
