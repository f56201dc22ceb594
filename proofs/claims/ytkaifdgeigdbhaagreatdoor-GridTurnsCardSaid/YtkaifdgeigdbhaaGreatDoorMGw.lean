/-
  grid.Make, walked at this seat's program up to where a solver is there.
-/
import Derived.Test.YtkaifdgeigdbhaaGreatDoorHG
set_option linter.unusedSimpArgs false
set_option linter.unusedVariables false
namespace Go.Proofs.TryzSolve
open Go Go.RowKit Ab
noncomputable def rest377:Code:=sec (sec (sec (sec (sec (sec (Tryz.f11.body.getD .skip))))))
set_option maxRecDepth 100000 in
set_option maxHeartbeats 8000000 in
theorem make_walk {u0 l:Value} {pa:Option Addr} {pn pc row col:Nat} {W:World} {R:Ending->World->Prop} {N:World->World->Value->Prop} (one:u0.oneCell'=true) (hr:row < pn) (hc:col < pn) (hrc:row≠col) (hpn:pn<=9223372036854775807)
  (h349:∀ X,K0 W X->Calls Tryz.prog 40 #[.agg #[u0],l] X fun e Y=>e=.returned .nilIface∧K0 X Y)
  (h58:∀ X,K0 W X->Calls Tryz.prog 41 #[.agg #[u0],.slice pa pn pc] X fun e Y=>e=.returned .nilIface∧K0 X Y)
  (h350:∀ X,K0 W X->W.heap.size+1 < X.heap.size->Calls Tryz.prog 42 #[.agg #[u0],l] X fun e Y=>∃ pv,e=.returned (.tuple #[pv,.nilIface])∧K0 X Y∧N X Y pv)
  (hrest:∀ X Y pv tm,K0 W X->W.heap.size+1 < X.heap.size->K0 X Y->N X Y pv->X.cell? ⟨W.heap.size,0,none⟩=some u0->X.heap[W.heap.size+1]? = some (.cells #[.slice none 0 0,.slice none 0 0,.slice none 0 0] 34 (0,0))->tm.size=136->tm.getD 2 undef=.slice pa pn pc->tm.getD 3 undef=.int .i64 row->tm.getD 4 undef=.int .i64 col->tm.getD 5 undef=.pointer (some ⟨W.heap.size,0,none⟩)->tm.getD 10 undef=.pointer (some ⟨W.heap.size+1,0,none⟩)->tm.getD 14 undef=pv ->
   rest377.wp Tryz.prog (bodyPost Tryz.prog Tryz.f11 R) { tmps:=tm,defers:=[] } Y) :
  Calls Tryz.prog 11 #[.agg #[u0],l,.slice pa pn pc,.int .i64 row,.int .i64 col] W R:=by
 have k1:K0 W ((W.alloc (.cells #[u0] 24)).alloc (.cells #[.slice none 0 0,.slice none 0 0,.slice none 0 0] 34)):=(K0.alloc W _).trans (K0.alloc _ _);have b1:((W.alloc (.cells #[u0] 24)).alloc (.cells #[.slice none 0 0,.slice none 0 0,.slice none 0 0] 34)).heap[W.heap.size]? = some (.cells #[u0] 24 (0,0)):=(by refine (Below.heap_alloc _ _ _ (by simp)).trans ?_;show (W.heap.push _)[W.heap.size]? = _;exact Array.getElem?_push_size);have d1:((W.alloc (.cells #[u0] 24)).alloc (.cells #[.slice none 0 0,.slice none 0 0,.slice none 0 0] 34)).heap[W.heap.size+1]? = some (.cells #[.slice none 0 0,.slice none 0 0,.slice none 0 0] 34 (0,0)):=by
  have:W.heap.size+1=(W.alloc (.cells #[u0] 24)).heap.size:=by simp
  rw[this];show ((W.alloc (.cells #[u0] 24)).heap.push _)[(W.alloc (.cells #[u0] 24)).heap.size]? = _;exact Array.getElem?_push_size
 have c1:=one_cell b1;have keepb:∀ {X Y:World} {b:Nat} {o:Obj},K0 X Y->X.heap[b]? = some o->Y.heap[b]? = some o:=fun h e=>(h.block _ (Array.getElem?_eq_some_iff.1 e).1 fun e=>e).trans e;have e1:¬ ((row:Int) < 0):=by omega
 have e2:¬ ((pn:Int)<=(row:Int)):=by omega
 have e3:¬ ((col:Int) < 0):=by omega
 have e4:¬ ((pn:Int)<=(col:Int)):=by omega
 have e5:¬ ((row:Int)=(col:Int)):=by omega
 go_enter Tryz.func11,Tryz.ntmps11
 show Code.wp _ (Code.seq _ (Code.seq _ (Code.seq _ (Code.seq _ (Code.seq _ (Code.seq _ rest377)))))) _ _ _
 go_wp2_with (first
  | (go_at_call 40;go_must (refine (h349 _ k1).mono ?_);rintro e X ⟨rfl,hX⟩
     have k2:=k1.trans hX;have b2:=keepb hX b1;have d2:=keepb hX d1;have c2:=one_cell b2)
  | (go_at_call 41;go_must (refine (h58 _ k2).mono ?_);rintro e X2 ⟨rfl,hX2⟩
     have k3:=k2.trans hX2;have b3:=keepb hX2 b2;have d3:=keepb hX2 d2;have c3:=one_cell b3)
  | (go_at_call 42;go_must (refine (h350 _ k3 (Array.getElem?_eq_some_iff.1 d3).1).mono ?_);rintro e Y ⟨pv,rfl,hY,hN⟩
     have b4:=keepb hY b3;have d4:=keepb hY d3;have c4:=one_cell b4))
 exact hrest _ _ _ _ k3 (Array.getElem?_eq_some_iff.1 d3).1 hY hN c3 d3 rfl rfl rfl rfl rfl rfl rfl
end Go.Proofs.TryzSolve
