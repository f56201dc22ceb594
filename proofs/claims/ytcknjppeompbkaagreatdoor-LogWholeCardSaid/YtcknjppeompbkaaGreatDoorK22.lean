import Derived.Test.YtcknjppeompbkaaGreatDoorK13
import Derived.LaidEql
import Derived.Stop.Asserts
import Derived.RowKitTokens
set_option linter.all false
set_option maxHeartbeats 4000000
section
namespace Ab
open Go
section
variable {l:List Node}
end
end Ab
end
section
namespace Go.Proofs.Tryztold
open Go.RowKit Go.Extern.Stop Go.Stop Go.Extern
def told_nil (w:World):Calls Tryz.prog 23 #[.nilIface] w fun e w'=>e=.returned (.int .i64 0)∧w'=w:=by
 go_enter Tryz.func23,Tryz.ntmps23
 go_wp2
 go_ret;exact ⟨rfl,rfl⟩
def valueOfP (t:Addr) (w:World):(ReflectliteValue.unpack (.iface 85 (.pointer (some t)))).run Tryz.prog w
  = .ok (.agg #[.pointer (some ⟨7,85,none⟩),.pointer (some ⟨w.heap.size,0,none⟩),.int .u64 150]) (w.alloc (.cells #[.pointer (some t)] 85)):=by kernel_rfl
def typeP (a : Addr) (w : World) : (ReflectliteValue.methodAny (ReflectliteValue.valueError "reflectlite.Value.Type" 0) (fun t _ _ _ => ReflectliteType.toType t) #[.agg #[.pointer (some ⟨7, 85, none⟩), .pointer (some a), .int .u64 150]]).run Tryz.prog w
  = .ok (.iface 128 (.agg #[.pointer (some ⟨7,85,none⟩)])) w:=by kernel_rfl
def ziY (h : Value) (w : World) : (Go.method 349 128 (.agg #[h]) "Kind").run Tryz.prog w = .ok (165, h) w := by kernel_rfl
def kindP (w:World):((ReflectliteType.abiMethod fun t=>Functor.map (fun a:Nat=>Value.int IntKind.u8 (a:Int)) (Rtype.kind t)) #[.pointer (some ⟨7,85,none⟩)]).run Tryz.prog w=.ok (.int .u8 22) w:=by kernel_rfl
def kindE (w:World):((ReflectliteType.abiMethod fun t=>Functor.map (fun a:Nat=>Value.int IntKind.u8 (a:Int)) (Rtype.kind t)) #[.pointer (some ⟨7,67,none⟩)]).run Tryz.prog w=.ok (.int .u8 2) w:=by kernel_rfl
def rlm (z:Sem Value) (f:TypeId->Addr->Nat->Nat->Sem Value) (v:Value) :
  ReflectliteValue.method z f #[v]=(do match ← ReflectliteValue.parts v with | none=>z | some (t,a,fl)=>f t a fl (fl % 32)):=rfl
def partsP (a:Addr) (w:World):(ReflectliteValue.parts (.agg #[.pointer (some ⟨7,85,none⟩),.pointer (some a),.int .u64 150])).run Tryz.prog w=.ok (some (85,a,150)) w:=by kernel_rfl
def isNilP (a p:Addr) (W:World) (ha:W.cell? a=some (.pointer (some p))) :
  (ReflectliteValue.method (ReflectliteValue.valueError "reflectlite.Value.IsNil" 0) ReflectliteValue.isNil #[.agg #[.pointer (some ⟨7, 85, none⟩), .pointer (some a), .int .u64 150]]).run Tryz.prog W = .ok (.bool false) W := by
 rw[rlm];simp only[Sem.run_bind,partsP,Result.andThen];simp[ReflectliteValue.isNil,loadVar,isAgg,underlying,Tryz.underlying85,ha,Result.andThen]
def ziZ (h : Value) (w : World) : (Go.method 349 128 (.agg #[h]) "Elem").run Tryz.prog w = .ok (176, .agg #[h]) w := by kernel_rfl
def zb2 (h : Value) (w : World) : (Go.method 349 128 (.agg #[h]) "Implements").run Tryz.prog w = .ok (177, .agg #[h]) w := by kernel_rfl
def zaS (h : Value) (w : World) : (Go.method 349 128 (.agg #[h]) "AssignableTo").run Tryz.prog w = .ok (174, .agg #[h]) w := by kernel_rfl
def elemP (w:World):(ReflectliteType.method ReflectliteType.elem #[.agg #[.pointer (some ⟨7,85,none⟩)]]).run Tryz.prog w=.ok (.iface 128 (.agg #[.pointer (some ⟨7,67,none⟩)])) w:=by kernel_rfl
def zg8 (w : World) : (ReflectliteType.relation "Implements" ReflectliteType.implements_ #[.agg #[.pointer (some ⟨7, 67, none⟩)], .iface 128 (.agg #[.pointer (some ⟨7, 27, none⟩)])]).run Tryz.prog w = .ok (.bool true) w := by kernel_rfl
def typeOfE (v:Value) (w:World):(ReflectliteType.typeOf #[.iface 67 v]).run Tryz.prog w=.ok (.iface 128 (.agg #[.pointer (some ⟨7,67,none⟩)])) w:=by kernel_rfl
def zhE (w : World) : (ReflectliteType.relation "AssignableTo" ReflectliteType.assignableTo #[.agg #[.pointer (some ⟨7, 67, none⟩)], .iface 128 (.agg #[.pointer (some ⟨7, 67, none⟩)])]).run Tryz.prog w = .ok (.bool true) w := by kernel_rfl
def valueOfE (n:Int) (w:World):(ReflectliteValue.unpack (.iface 67 (.int .i64 n))).run Tryz.prog w
  = .ok (.agg #[.pointer (some ⟨7,67,none⟩),.pointer (some ⟨w.heap.size,0,none⟩),.int .u64 130]) (w.alloc (.cells #[.int .i64 n] 67)):=by kernel_rfl
def elemOfP (w:World):(Rtype.elem? 85).run Tryz.prog w=.ok (some 67) w:=by kernel_rfl
def mkE (p:Addr) (w:World):(ReflectliteValue.mk 67 p ReflectliteValue.flagAddr).run Tryz.prog w=.ok (.agg #[.pointer (some ⟨7,67,none⟩),.pointer (some p),.int .u64 386]) w:=by kernel_rfl
def elemVP (a p:Addr) (W:World) (ha:W.cell? a=some (.pointer (some p))) :
  (ReflectliteValue.method (ReflectliteValue.valueError "reflectlite.Value.Elem" 0) ReflectliteValue.elem #[.agg #[.pointer (some ⟨7, 85, none⟩), .pointer (some a), .int .u64 150]]).run Tryz.prog W
   = .ok (.agg #[.pointer (some ⟨7,67,none⟩),.pointer (some p),.int .u64 386]) W:=by
 rw[rlm];simp only[Sem.run_bind,partsP,Result.andThen];simp[ReflectliteValue.elem,loadVar,isAgg,underlying,Tryz.underlying85,ha,Result.andThen,elemOfP,mkE]
def rls (v x:Value):ReflectliteValue.set #[v,x]=(do
  let (some (dst,a,fl),some (src,b,_)):=(← ReflectliteValue.parts v,← ReflectliteValue.parts x)
   | unsupported (.noEntry "extern/(internal/reflectlite.Value).Set.zeroValue")
  if fl / ReflectliteValue.flagAddr % 2 == 0 then unsupported (.noEntry "extern/(internal/reflectlite.Value).Set.unaddressable")
  let val ← loadVar src b
  if ← Rtype.directlyAssignable dst src then storeVar dst a val
  else if ← Rtype.implements dst src then
   if (← Rtype.kind src) == 20 then
    match val with
    | .nilIface => unsupported (.noEntry "extern/reflectlite: a nil value of one interface type handed on as a value of another")
    | _=>storeVar dst a val
   else storeVar dst a (.iface src val)
  else panicString ("reflectlite.Set: value of type " ++ (← Rtype.spelt src) ++ " is not assignable to type " ++ (← Rtype.spelt dst))
  pure (.tuple #[])):=rfl
def partsEa (a:Addr) (w:World):(ReflectliteValue.parts (.agg #[.pointer (some ⟨7,67,none⟩),.pointer (some a),.int .u64 386])).run Tryz.prog w=.ok (some (67,a,386)) w:=by kernel_rfl
def partsE (a:Addr) (w:World):(ReflectliteValue.parts (.agg #[.pointer (some ⟨7,67,none⟩),.pointer (some a),.int .u64 130])).run Tryz.prog w=.ok (some (67,a,130)) w:=by kernel_rfl
def directE (w:World):(Rtype.directlyAssignable 67 67).run Tryz.prog w=.ok true w:=by kernel_rfl
def setE (ta b:Addr) (n:Int) (old:Value) (W:World) (hb:W.cell? b=some (.int .i64 n)) (ht:W.cell? ta=some old) (hf:W.frozen? ta=false) :
  (ReflectliteValue.set #[.agg #[.pointer (some ⟨7,67,none⟩),.pointer (some ta),.int .u64 386],.agg #[.pointer (some ⟨7,67,none⟩),.pointer (some b),.int .u64 130]]).run Tryz.prog W
   = .ok (.tuple #[]) (W.setCell ta (.int .i64 n)):=by
 rw[rls];simp only[Sem.run_bind,partsEa,partsE,Result.andThen];simp[ReflectliteValue.flagAddr,loadVar,isAgg,underlying,Tryz.underlying67,hb,Result.andThen,directE,storeVar,Value.cells,storeCells,Addr.add];rw[run_store Tryz.prog W ta _ _ (by rfl)];simp[ht,hf]
def handle:Value:=.iface 128 (.agg #[.pointer (some ⟨7,27,none⟩)])
def as_hit (n:Int) (t:Addr) (old:Value) (w:World) (o9:w.cell? ⟨0,0,none⟩=some handle) (oK:w.cell? t=some old) (hf0:w.frozen? t=false) :
  Calls Tryz.prog 35 #[.iface 67 (.int .i64 n),.iface 85 (.pointer (some t))] w fun ev w'=>ev=.returned (.bool true)∧w'=((((w.alloc (.cells #[.pointer (some t)] 85)).alloc (.cells #[.pointer (some ⟨7,85,none⟩),.pointer (some ⟨w.heap.size,0,none⟩),.int .u64 150] 101)).alloc (.cells #[.pointer (some ⟨7,85,none⟩),.pointer (some ⟨w.heap.size,0,none⟩),.int .u64 150] 101)).alloc (.cells #[.int .i64 n] 67)).setCell t (.int .i64 n):=by
 have hg:w.cell? ⟨0,0,none⟩=some (.iface 128 (.agg #[.pointer (some ⟨7,27,none⟩)])):=o9;have h6:=@run_callFunc_extern Tryz.prog 51 _ (fun args=>ReflectliteValue.unpack (args.getD 0 (.tuple #[]))) Tryz.func51 (by kernel_rfl) (by kernel_rfl) (by kernel_rfl) (by kernel_rfl)
 have h7 := @run_callFunc_extern Tryz.prog 52 _ (ReflectliteValue.methodAny (ReflectliteValue.valueError "reflectlite.Value.Type" 0) (fun t _ _ _ => ReflectliteType.toType t)) Tryz.func52 (by kernel_rfl) (by kernel_rfl) (by kernel_rfl) (by kernel_rfl)
 have h8 := @run_callFunc_extern Tryz.prog 53 _ (ReflectliteValue.method (ReflectliteValue.valueError "reflectlite.Value.IsNil" 0) ReflectliteValue.isNil) Tryz.func53 (by kernel_rfl) (by kernel_rfl) (by kernel_rfl) (by kernel_rfl)
 have h27:=@run_callFunc_extern Tryz.prog 165 _ (ReflectliteType.abiMethod fun t=>do pure (.int .u8 (← Rtype.kind t))) Tryz.func165 (by kernel_rfl) (by kernel_rfl) (by kernel_rfl) (by kernel_rfl);have h37:=@run_callFunc_extern Tryz.prog 176 _ (ReflectliteType.method ReflectliteType.elem) Tryz.func176 (by kernel_rfl) (by kernel_rfl) (by kernel_rfl) (by kernel_rfl)
 have h38 := @run_callFunc_extern Tryz.prog 177 _ (ReflectliteType.relation "Implements" ReflectliteType.implements_) Tryz.func177 (by kernel_rfl) (by kernel_rfl) (by kernel_rfl) (by kernel_rfl)
 have h10:=@run_callFunc_extern Tryz.prog 70 _ ReflectliteType.typeOf Tryz.func70 (by kernel_rfl) (by kernel_rfl) (by kernel_rfl) (by kernel_rfl)
 have h35 := @run_callFunc_extern Tryz.prog 174 _ (ReflectliteType.relation "AssignableTo" ReflectliteType.assignableTo) Tryz.func174 (by kernel_rfl) (by kernel_rfl) (by kernel_rfl) (by kernel_rfl)
 have h11 := @run_callFunc_extern Tryz.prog 71 _ (ReflectliteValue.method (ReflectliteValue.valueError "reflectlite.Value.Elem" 0) ReflectliteValue.elem) Tryz.func71 (by kernel_rfl) (by kernel_rfl) (by kernel_rfl) (by kernel_rfl)
 have h12:=@run_callFunc_extern Tryz.prog 72 _ ReflectliteValue.set Tryz.func72 (by kernel_rfl) (by kernel_rfl) (by kernel_rfl) (by kernel_rfl);have tO:=typeOfE;have mA:=zaS;have a25:=zhE;have v25:=valueOfE;have f6:=valueOfP;have f7:=typeP;have mK:=ziY;have mE:=ziZ;have mI:=zb2;have k27:=kindP;have k25:=kindE;have e27:=elemP;have i25:=zg8;have n8:=isNilP ⟨w.heap.size,0,none⟩ t ((w.alloc (.cells #[.pointer (some t)] 85)).alloc (.cells #[.pointer (some ⟨7,85,none⟩),.pointer (some ⟨w.heap.size,0,none⟩),.int .u64 150] 101)) (by simp);have aq:0 < w.heap.size:=World.block_lt_of_cell? w ⟨0,0,none⟩ hg;have ij:((w.alloc (.cells #[.pointer (some t)] 85)).alloc (.cells #[.pointer (some ⟨7,85,none⟩),.pointer (some ⟨w.heap.size,0,none⟩),.int .u64 150] 101)).cell? ⟨0,0,none⟩=some (.iface 128 (.agg #[.pointer (some ⟨7,27,none⟩)])):=(by rw[World.cell?_alloc_lt _ _ ⟨0,0,none⟩ (by first | (simp;done) | (simp;omega)),World.cell?_alloc_lt _ _ ⟨0,0,none⟩ aq];exact hg)
 have oJ:t.block < w.heap.size:=by
  rcases Nat.lt_or_ge t.block w.heap.size with h | h
  ·exact h
  ·simp[World.cell?,Array.getElem?_eq_none h] at oK
 have el:=elemVP ⟨w.heap.size,0,none⟩ t (((w.alloc (.cells #[.pointer (some t)] 85)).alloc (.cells #[.pointer (some ⟨7,85,none⟩),.pointer (some ⟨w.heap.size,0,none⟩),.int .u64 150] 101)).alloc (.cells #[.pointer (some ⟨7,85,none⟩),.pointer (some ⟨w.heap.size,0,none⟩),.int .u64 150] 101)) (by rw[World.cell?_alloc_lt _ _ ⟨w.heap.size,0,none⟩ (by simp;omega)];simp)
 have st:=setE t ⟨w.heap.size+1+1+1,0,none⟩ n old ((((w.alloc (.cells #[.pointer (some t)] 85)).alloc (.cells #[.pointer (some ⟨7,85,none⟩),.pointer (some ⟨w.heap.size,0,none⟩),.int .u64 150] 101)).alloc (.cells #[.pointer (some ⟨7,85,none⟩),.pointer (some ⟨w.heap.size,0,none⟩),.int .u64 150] 101)).alloc (.cells #[.int .i64 n] 67))
  (by rw[World.cell?_alloc_at _ _ _ _ (by simp)];rfl)
  (by rw[World.cell?_alloc_lt _ _ t (by simp;omega),World.cell?_alloc_lt _ _ t (by simp;omega),World.cell?_alloc_lt _ _ t (by simp;omega),World.cell?_alloc_lt _ _ t oJ];exact oK)
  (by rw[World.frozen?_alloc_old _ _ t (by simp;omega),World.frozen?_alloc_old _ _ t (by simp;omega),World.frozen?_alloc_old _ _ t (by simp;omega),World.frozen?_alloc_old _ _ t (Nat.ne_of_lt oJ)];exact hf0)
 clear o9
 go_enter Tryz.func35,Tryz.ntmps35
 go_wp2
 refine wp_loop_rounds 1 ?_;rw[rounds_succ]
 go_wp2
 go_ret;exact ⟨rfl,rfl⟩
def told_no (n:Int) (w:World) (hg:w.cell? ⟨0,0,none⟩=some handle):Calls Tryz.prog 23 #[.iface 67 (.int .i64 n)] w fun e w'=>e=.returned (.int .i64 n)∧Below w.heap.size w w':=by
 have aq:0 < w.heap.size:=World.block_lt_of_cell? w ⟨0,0,none⟩ hg;have hgA:(w.alloc (.cells #[.int .i64 0] 67)).cell? ⟨0,0,none⟩=some handle:=(by rw[World.cell?_alloc_lt _ _ ⟨0,0,none⟩ aq];exact hg);have htA:(w.alloc (.cells #[.int .i64 0] 67)).cell? ⟨w.heap.size,0,none⟩=some (.int .i64 0):=by simp
 have hfA:(w.alloc (.cells #[.int .i64 0] 67)).frozen? ⟨w.heap.size,0,none⟩=false:=by simp
 go_enter Tryz.func23,Tryz.ntmps23
 go_wp2_with (go_at_call 35;refine (as_hit n _ (.int .i64 0) _ hgA htA hfA).mono ?_;rintro e w' ⟨rfl,rfl⟩)
 go_ret;refine ⟨rfl, ?_⟩;exact (((((Below.refl _ w).alloc (Nat.le_refl _) _).alloc (by simp) _).alloc (by simp;omega) _).alloc (by simp;omega) _).alloc (by simp;omega) _
end Go.Proofs.Tryztold
end
