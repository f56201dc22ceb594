import Derived.Test.YtkaifdgeigdbhaaGreatDoorProg
import Derived.Test.YtkaifdgeigdbhaaGreatDoorF1
import Derived.LaidEql
import Derived.Stop.Asserts
import Derived.RowKitTokens
import Derived.Lib.LaidTab
import Derived.Test.YtkaifdgeigdbhaaGreatDoorRows
import Derived.ChangeSame
import Derived.ChangeVars
import Derived.JoinedOf
import Derived.RowKit
import Derived.LaidLaws
import Derived.LaidHandle
import Derived.Stop.LaidErr
import Derived.Stop.Joined
import Derived.SizedLaws
set_option linter.all false
set_option maxHeartbeats 4000000
noncomputable section
section
namespace Go.Proofs.Tryztold
open Go.RowKit Go.Extern.Stop Go.Stop Go.Extern
def told_nil (w:World):Calls Tryz.prog 54 #[.nilIface] w fun e w'=>e=.returned (.int .i64 0)∧w'=w:=by
 go_enter Tryz.func54,Tryz.ntmps54
 go_wp2
 go_ret;exact ⟨rfl,rfl⟩
def valueOfP (t:Addr) (w:World):(ReflectliteValue.unpack (.iface 152 (.pointer (some t)))).run Tryz.prog w
  = .ok (.agg #[.pointer (some ⟨7,152,none⟩),.pointer (some ⟨w.heap.size,0,none⟩),.int .u64 150]) (w.alloc (.cells #[.pointer (some t)] 152)):=by kernel_rfl
def typeP (a : Addr) (w : World) : (ReflectliteValue.methodAny (ReflectliteValue.valueError "reflectlite.Value.Type" 0) (fun t _ _ _ => ReflectliteType.toType t) #[.agg #[.pointer (some ⟨7, 152, none⟩), .pointer (some a), .int .u64 150]]).run Tryz.prog w
  = .ok (.iface 223 (.agg #[.pointer (some ⟨7,152,none⟩)])) w:=by kernel_rfl
def zkV (h : Value) (w : World) : (Go.method 433 223 (.agg #[h]) "Kind").run Tryz.prog w = .ok (262, h) w := by kernel_rfl
def kindP (w:World):((ReflectliteType.abiMethod fun t=>Functor.map (fun a:Nat=>Value.int IntKind.u8 (a:Int)) (Rtype.kind t)) #[.pointer (some ⟨7,152,none⟩)]).run Tryz.prog w=.ok (.int .u8 22) w:=by kernel_rfl
def kindE (w:World):((ReflectliteType.abiMethod fun t=>Functor.map (fun a:Nat=>Value.int IntKind.u8 (a:Int)) (Rtype.kind t)) #[.pointer (some ⟨7,90,none⟩)]).run Tryz.prog w=.ok (.int .u8 2) w:=by kernel_rfl
def rlm (z:Sem Value) (f:TypeId->Addr->Nat->Nat->Sem Value) (v:Value) :
  ReflectliteValue.method z f #[v]=(do match ← ReflectliteValue.parts v with | none=>z | some (t,a,fl)=>f t a fl (fl % 32)):=rfl
def partsP (a:Addr) (w:World):(ReflectliteValue.parts (.agg #[.pointer (some ⟨7,152,none⟩),.pointer (some a),.int .u64 150])).run Tryz.prog w=.ok (some (152,a,150)) w:=by kernel_rfl
def isNilP (a p:Addr) (W:World) (ha:W.cell? a=some (.pointer (some p))) :
  (ReflectliteValue.method (ReflectliteValue.valueError "reflectlite.Value.IsNil" 0) ReflectliteValue.isNil #[.agg #[.pointer (some ⟨7, 152, none⟩), .pointer (some a), .int .u64 150]]).run Tryz.prog W = .ok (.bool false) W := by
 rw[rlm];simp only[Sem.run_bind,partsP,Result.andThen];simp[ReflectliteValue.isNil,loadVar,isAgg,underlying,Tryz.underlying152,ha,Result.andThen]
def zkW (h : Value) (w : World) : (Go.method 433 223 (.agg #[h]) "Elem").run Tryz.prog w = .ok (273, .agg #[h]) w := by kernel_rfl
def zc3 (h : Value) (w : World) : (Go.method 433 223 (.agg #[h]) "Implements").run Tryz.prog w = .ok (274, .agg #[h]) w := by kernel_rfl
def zbG (h : Value) (w : World) : (Go.method 433 223 (.agg #[h]) "AssignableTo").run Tryz.prog w = .ok (271, .agg #[h]) w := by kernel_rfl
def elemP (w:World):(ReflectliteType.method ReflectliteType.elem #[.agg #[.pointer (some ⟨7,152,none⟩)]]).run Tryz.prog w=.ok (.iface 223 (.agg #[.pointer (some ⟨7,90,none⟩)])) w:=by kernel_rfl
def ziP (w : World) : (ReflectliteType.relation "Implements" ReflectliteType.implements_ #[.agg #[.pointer (some ⟨7, 90, none⟩)], .iface 223 (.agg #[.pointer (some ⟨7, 36, none⟩)])]).run Tryz.prog w = .ok (.bool true) w := by kernel_rfl
def typeOfE (v:Value) (w:World):(ReflectliteType.typeOf #[.iface 90 v]).run Tryz.prog w=.ok (.iface 223 (.agg #[.pointer (some ⟨7,90,none⟩)])) w:=by kernel_rfl
def zjh (w : World) : (ReflectliteType.relation "AssignableTo" ReflectliteType.assignableTo #[.agg #[.pointer (some ⟨7, 90, none⟩)], .iface 223 (.agg #[.pointer (some ⟨7, 90, none⟩)])]).run Tryz.prog w = .ok (.bool true) w := by kernel_rfl
def valueOfE (n:Int) (w:World):(ReflectliteValue.unpack (.iface 90 (.int .i64 n))).run Tryz.prog w
  = .ok (.agg #[.pointer (some ⟨7,90,none⟩),.pointer (some ⟨w.heap.size,0,none⟩),.int .u64 130]) (w.alloc (.cells #[.int .i64 n] 90)):=by kernel_rfl
def elemOfP (w:World):(Rtype.elem? 152).run Tryz.prog w=.ok (some 90) w:=by kernel_rfl
def mkE (p:Addr) (w:World):(ReflectliteValue.mk 90 p ReflectliteValue.flagAddr).run Tryz.prog w=.ok (.agg #[.pointer (some ⟨7,90,none⟩),.pointer (some p),.int .u64 386]) w:=by kernel_rfl
def elemVP (a p:Addr) (W:World) (ha:W.cell? a=some (.pointer (some p))) :
  (ReflectliteValue.method (ReflectliteValue.valueError "reflectlite.Value.Elem" 0) ReflectliteValue.elem #[.agg #[.pointer (some ⟨7, 152, none⟩), .pointer (some a), .int .u64 150]]).run Tryz.prog W
   = .ok (.agg #[.pointer (some ⟨7,90,none⟩),.pointer (some p),.int .u64 386]) W:=by
 rw[rlm];simp only[Sem.run_bind,partsP,Result.andThen];simp[ReflectliteValue.elem,loadVar,isAgg,underlying,Tryz.underlying152,ha,Result.andThen,elemOfP,mkE]
def rls (v x:Value):ReflectliteValue.set #[v,x]=(do
  let (some (dst,a,fl),some (src,b,_)):=(← ReflectliteValue.parts v,← ReflectliteValue.parts x)
   | unsupported (.noEntry "extern/(internal/reflectlite.Value).Set.zeroValue")
  if fl / ReflectliteValue.flagAddr % 2 == 0 then unsupported (.noEntry "extern/(internal/reflectlite.Value).Set.unaddressable")
  let val ← loadVar src b
  if ← Rtype.directlyAssignable dst src then storeVar dst a val
  else if ← Rtype.implements dst src then
   if (← Rtype.kind src) == 20 then
    match val with
    | .nilIface => unsupported (.noEntry "extern/reflectlite: a nil value of one interface type handed on as a value of another")
    | _=>storeVar dst a val
   else storeVar dst a (.iface src val)
  else panicString ("reflectlite.Set: value of type " ++ (← Rtype.spelt src) ++ " is not assignable to type " ++ (← Rtype.spelt dst))
  pure (.tuple #[])):=rfl
def partsEa (a:Addr) (w:World):(ReflectliteValue.parts (.agg #[.pointer (some ⟨7,90,none⟩),.pointer (some a),.int .u64 386])).run Tryz.prog w=.ok (some (90,a,386)) w:=by kernel_rfl
def partsE (a:Addr) (w:World):(ReflectliteValue.parts (.agg #[.pointer (some ⟨7,90,none⟩),.pointer (some a),.int .u64 130])).run Tryz.prog w=.ok (some (90,a,130)) w:=by kernel_rfl
def directE (w:World):(Rtype.directlyAssignable 90 90).run Tryz.prog w=.ok true w:=by kernel_rfl
def setE (ta b:Addr) (n:Int) (old:Value) (W:World) (hb:W.cell? b=some (.int .i64 n)) (ht:W.cell? ta=some old) (hf:W.frozen? ta=false) :
  (ReflectliteValue.set #[.agg #[.pointer (some ⟨7,90,none⟩),.pointer (some ta),.int .u64 386],.agg #[.pointer (some ⟨7,90,none⟩),.pointer (some b),.int .u64 130]]).run Tryz.prog W
   = .ok (.tuple #[]) (W.setCell ta (.int .i64 n)):=by
 rw[rls];simp only[Sem.run_bind,partsEa,partsE,Result.andThen];simp[ReflectliteValue.flagAddr,loadVar,isAgg,underlying,Tryz.underlying90,hb,Result.andThen,directE,storeVar,Value.cells,storeCells,Addr.add];rw[run_store Tryz.prog W ta _ _ (by rfl)];simp[ht,hf]
def handle:Value:=.iface 223 (.agg #[.pointer (some ⟨7,36,none⟩)])
def as_hit (n:Int) (t:Addr) (old:Value) (w:World) (rm:w.cell? ⟨0,0,none⟩=some handle) (pQ:w.cell? t=some old) (hf0:w.frozen? t=false) :
  Calls Tryz.prog 99 #[.iface 90 (.int .i64 n),.iface 152 (.pointer (some t))] w fun ev w'=>ev=.returned (.bool true)∧w'=((((w.alloc (.cells #[.pointer (some t)] 152)).alloc (.cells #[.pointer (some ⟨7,152,none⟩),.pointer (some ⟨w.heap.size,0,none⟩),.int .u64 150] 191)).alloc (.cells #[.pointer (some ⟨7,152,none⟩),.pointer (some ⟨w.heap.size,0,none⟩),.int .u64 150] 191)).alloc (.cells #[.int .i64 n] 90)).setCell t (.int .i64 n):=by
 have hg:w.cell? ⟨0,0,none⟩=some (.iface 223 (.agg #[.pointer (some ⟨7,36,none⟩)])):=rm;have h6:=@run_callFunc_extern Tryz.prog 137 _ (fun args=>ReflectliteValue.unpack (args.getD 0 (.tuple #[]))) Tryz.func137 (by kernel_rfl) (by kernel_rfl) (by kernel_rfl) (by kernel_rfl)
 have h7 := @run_callFunc_extern Tryz.prog 138 _ (ReflectliteValue.methodAny (ReflectliteValue.valueError "reflectlite.Value.Type" 0) (fun t _ _ _ => ReflectliteType.toType t)) Tryz.func138 (by kernel_rfl) (by kernel_rfl) (by kernel_rfl) (by kernel_rfl)
 have h8 := @run_callFunc_extern Tryz.prog 139 _ (ReflectliteValue.method (ReflectliteValue.valueError "reflectlite.Value.IsNil" 0) ReflectliteValue.isNil) Tryz.func139 (by kernel_rfl) (by kernel_rfl) (by kernel_rfl) (by kernel_rfl)
 have h27:=@run_callFunc_extern Tryz.prog 262 _ (ReflectliteType.abiMethod fun t=>do pure (.int .u8 (← Rtype.kind t))) Tryz.func262 (by kernel_rfl) (by kernel_rfl) (by kernel_rfl) (by kernel_rfl);have h37:=@run_callFunc_extern Tryz.prog 273 _ (ReflectliteType.method ReflectliteType.elem) Tryz.func273 (by kernel_rfl) (by kernel_rfl) (by kernel_rfl) (by kernel_rfl)
 have h38 := @run_callFunc_extern Tryz.prog 274 _ (ReflectliteType.relation "Implements" ReflectliteType.implements_) Tryz.func274 (by kernel_rfl) (by kernel_rfl) (by kernel_rfl) (by kernel_rfl)
 have h10:=@run_callFunc_extern Tryz.prog 168 _ ReflectliteType.typeOf Tryz.func168 (by kernel_rfl) (by kernel_rfl) (by kernel_rfl) (by kernel_rfl)
 have h35 := @run_callFunc_extern Tryz.prog 271 _ (ReflectliteType.relation "AssignableTo" ReflectliteType.assignableTo) Tryz.func271 (by kernel_rfl) (by kernel_rfl) (by kernel_rfl) (by kernel_rfl)
 have h11 := @run_callFunc_extern Tryz.prog 169 _ (ReflectliteValue.method (ReflectliteValue.valueError "reflectlite.Value.Elem" 0) ReflectliteValue.elem) Tryz.func169 (by kernel_rfl) (by kernel_rfl) (by kernel_rfl) (by kernel_rfl)
 have h12:=@run_callFunc_extern Tryz.prog 170 _ ReflectliteValue.set Tryz.func170 (by kernel_rfl) (by kernel_rfl) (by kernel_rfl) (by kernel_rfl);have tO:=typeOfE;have mA:=zbG;have a25:=zjh;have v25:=valueOfE;have f6:=valueOfP;have f7:=typeP;have mK:=zkV;have mE:=zkW;have mI:=zc3;have k27:=kindP;have k25:=kindE;have e27:=elemP;have i25:=ziP;have n8:=isNilP ⟨w.heap.size,0,none⟩ t ((w.alloc (.cells #[.pointer (some t)] 152)).alloc (.cells #[.pointer (some ⟨7,152,none⟩),.pointer (some ⟨w.heap.size,0,none⟩),.int .u64 150] 191)) (by simp);have ae:0 < w.heap.size:=World.block_lt_of_cell? w ⟨0,0,none⟩ hg;have kn:((w.alloc (.cells #[.pointer (some t)] 152)).alloc (.cells #[.pointer (some ⟨7,152,none⟩),.pointer (some ⟨w.heap.size,0,none⟩),.int .u64 150] 191)).cell? ⟨0,0,none⟩=some (.iface 223 (.agg #[.pointer (some ⟨7,36,none⟩)])):=(by rw[World.cell?_alloc_lt _ _ ⟨0,0,none⟩ (by first | (simp;done) | (simp;omega)),World.cell?_alloc_lt _ _ ⟨0,0,none⟩ ae];exact hg)
 have pP:t.block < w.heap.size:=by
  rcases Nat.lt_or_ge t.block w.heap.size with h | h
  ·exact h
  ·simp[World.cell?,Array.getElem?_eq_none h] at pQ
 have el:=elemVP ⟨w.heap.size,0,none⟩ t (((w.alloc (.cells #[.pointer (some t)] 152)).alloc (.cells #[.pointer (some ⟨7,152,none⟩),.pointer (some ⟨w.heap.size,0,none⟩),.int .u64 150] 191)).alloc (.cells #[.pointer (some ⟨7,152,none⟩),.pointer (some ⟨w.heap.size,0,none⟩),.int .u64 150] 191)) (by rw[World.cell?_alloc_lt _ _ ⟨w.heap.size,0,none⟩ (by simp;omega)];simp)
 have st:=setE t ⟨w.heap.size+1+1+1,0,none⟩ n old ((((w.alloc (.cells #[.pointer (some t)] 152)).alloc (.cells #[.pointer (some ⟨7,152,none⟩),.pointer (some ⟨w.heap.size,0,none⟩),.int .u64 150] 191)).alloc (.cells #[.pointer (some ⟨7,152,none⟩),.pointer (some ⟨w.heap.size,0,none⟩),.int .u64 150] 191)).alloc (.cells #[.int .i64 n] 90))
  (by rw[World.cell?_alloc_at _ _ _ _ (by simp)];rfl)
  (by rw[World.cell?_alloc_lt _ _ t (by simp;omega),World.cell?_alloc_lt _ _ t (by simp;omega),World.cell?_alloc_lt _ _ t (by simp;omega),World.cell?_alloc_lt _ _ t pP];exact pQ)
  (by rw[World.frozen?_alloc_old _ _ t (by simp;omega),World.frozen?_alloc_old _ _ t (by simp;omega),World.frozen?_alloc_old _ _ t (by simp;omega),World.frozen?_alloc_old _ _ t (Nat.ne_of_lt pP)];exact hf0)
 clear rm
 go_enter Tryz.func99,Tryz.ntmps99
 go_wp2
 refine wp_loop_rounds 1 ?_;rw[rounds_succ]
 go_wp2
 go_ret;exact ⟨rfl,rfl⟩
def told_no (n:Int) (w:World) (hg:w.cell? ⟨0,0,none⟩=some handle):Calls Tryz.prog 54 #[.iface 90 (.int .i64 n)] w fun e w'=>e=.returned (.int .i64 n)∧Below w.heap.size w w':=by
 have ae:0 < w.heap.size:=World.block_lt_of_cell? w ⟨0,0,none⟩ hg;have hgA:(w.alloc (.cells #[.int .i64 0] 90)).cell? ⟨0,0,none⟩=some handle:=(by rw[World.cell?_alloc_lt _ _ ⟨0,0,none⟩ ae];exact hg);have htA:(w.alloc (.cells #[.int .i64 0] 90)).cell? ⟨w.heap.size,0,none⟩=some (.int .i64 0):=by simp
 have hfA:(w.alloc (.cells #[.int .i64 0] 90)).frozen? ⟨w.heap.size,0,none⟩=false:=by simp
 go_enter Tryz.func54,Tryz.ntmps54
 go_wp2_with (go_at_call 99;refine (as_hit n _ (.int .i64 0) _ hgA htA hfA).mono ?_;rintro e w' ⟨rfl,rfl⟩)
 go_ret;refine ⟨rfl, ?_⟩;exact (((((Below.refl _ w).alloc (Nat.le_refl _) _).alloc (by simp) _).alloc (by simp;omega) _).alloc (by simp;omega) _).alloc (by simp;omega) _
end Go.Proofs.Tryztold
end
section
namespace Go.Proofs.TryzStr
open Go Go.RowKit Ab
def g1 : Tryz.prog.globalNamed "internal/strconv.uint64pow10" = some 2 := by kernel_rfl
def hold (w : World) : Prop := Lib.TabIs Tryz.prog w "internal/strconv.uint64pow10" .u64 Lib.pow10Tab
def var_same {n:String} {g:Nat} (hg:Tryz.prog.globalNamed n=some g) {w w':World} (h:w'.heap[g]? = w.heap[g]?):w'.var? Tryz.prog n=w.var? Tryz.prog n:=by simp only[World.var?,hg,Option.bind_some,h]
def holdK (w w':World) (h:∀ b∈[2],b < w.heap.size∧w'.heap[b]? = w.heap[b]?) (hh:hold w):hold w':=by unfold hold Lib.TabIs at *;rw[var_same g1 (h 2 (by simp)).2];exact hh
def var_lt {n:String} {g:Nat} (hg:Tryz.prog.globalNamed n=some g) {w:World} {cs:Array Value} (h:w.var? Tryz.prog n=some cs):g < w.heap.size:=by
 rcases Nat.lt_or_ge g w.heap.size with h1 | h1
 ·exact h1
 ·simp[World.var?,hg,Array.getElem?_eq_none h1] at h
def more_lt {w:World} (h:hold w):∀ b∈[2],b < w.heap.size:=by intro b hb;obtain rfl:=List.mem_singleton.1 hb;exact var_lt g1 h
end Go.Proofs.TryzStr
end
section
namespace Go.Proofs.YtkaifdgeigdbhaaGreatDoorStr
open Go.ChangeShapes Go.WideShapes Go.RowKit Go.Proofs.YtkaifdgeigdbhaaGreatDoor
def laidL : List (String × DataW Unit) := [("math/bits.deBruijn32tab", Rows.laid_math_bits_deBruijn32tab), ("math/bits.deBruijn64tab", Rows.laid_math_bits_deBruijn64tab), ("internal/strconv.uint64pow10", Rows.laid_internal_strconv_uint64pow10), ("strconv.ErrRange", Rows.laid_strconv_ErrRange), ("strconv.ErrSyntax", Rows.laid_strconv_ErrSyntax)]
def own:ownKnob Tryz.prog.godebug=none:=by kernel_rfl
def zbi:laidOutB Tryz.prog=true:=by kernel_rfl
def ty1:(Tryz.prog.globals[2]?).map (·.type)=some 264:=by kernel_rfl
def hold_of_laid {W:World} (h:laidMet Tryz.prog laidL W):TryzStr.hold W:=by have h3:=h.tail.tail;exact Lib.tabIs_of_head (g:=2) (t:=264) (e:=251) (n:=20) (k:=.u64) (zs:=Lib.pow10Tab) TryzStr.g1 ty1 Tryz.underlying264 Tryz.underlying251 (by kernel_rfl) (by kernel_rfl) h3
def syntaxS:ByteArray:={ data:=#[105,110,118,97,108,105,100,32,115,121,110,116,97,120] }
def rangeS:ByteArray:={ data:=#[118,97,108,117,101,32,111,117,116,32,111,102,32,114,97,110,103,101] }
def low:Nat:=(World.holding Tryz.prog default ⟨#[],#[],[]⟩).heap.size
def mm:DataW Unit->Array Value
 | .agg ds=>(ds.map fun | .lit (.int k z)=>Value.int k z | _=>.bool false).toArray
 | _=>#[]
def put (cs:Array Value):Obj->Obj
 | .cells _ t frozen=>.cells cs t frozen
 | o=>o
def laidWorld (os:Os):World :=
 let w0:=World.holding Tryz.prog os ⟨#[.cells #[.string rangeS] 306,.cells #[.string syntaxS] 306],#[],[]⟩
 { w0 with heap:=((((((w0.heap.modify 0 (put #[.iface 223 (.agg #[.pointer (some ⟨7,36,none⟩)])])).modify 6 (put #[.iface 304 (.pointer (some ⟨low,0,none⟩))])).modify 5 (put #[.iface 304 (.pointer (some ⟨low+1,0,none⟩))])).modify 2 (put (mm Rows.laid_internal_strconv_uint64pow10))).modify 3 (put (mm Rows.laid_math_bits_deBruijn32tab))).modify 4 (put (mm Rows.laid_math_bits_deBruijn64tab))) }
def laid_met (os:Os) (args:Array Value):laidMet Tryz.prog laidL ((laidWorld os).forCall (fun _ _=>0) ⟨#[],args,[]⟩).memory :=
 laidMet_of_run' 8 (by kernel_rfl) (by kernel_rfl)
def zbM (os:Os) (args:Array Value):laidMetH Tryz.prog laidL ((laidWorld os).forCall (fun _ _=>0) ⟨#[],args,[]⟩).memory:=laid_met os args
end Go.Proofs.YtkaifdgeigdbhaaGreatDoorStr
namespace Go.Proofs.YtkaifdgeigdbhaaGreatDoorTold
open Go.ChangeShapes Go.WideShapes Go.RowKit Go.Proofs.YtkaifdgeigdbhaaGreatDoor
def laidL : List (String × DataW Unit) := [("math/bits.deBruijn32tab", Rows.laid_math_bits_deBruijn32tab), ("math/bits.deBruijn64tab", Rows.laid_math_bits_deBruijn64tab), ("internal/strconv.uint64pow10", Rows.laid_internal_strconv_uint64pow10), ("errors.errorType", Rows.laid_errors_errorType), ("strconv.ErrRange", Rows.laid_strconv_ErrRange), ("strconv.ErrSyntax", Rows.laid_strconv_ErrSyntax)]
def own:ownKnob Tryz.prog.godebug=none:=by kernel_rfl
def zbi:laidOutB Tryz.prog=true:=by kernel_rfl
def et : Tryz.prog.globalNamed "errors.errorType" = some 0 := by kernel_rfl
def rt : (Tryz.prog.cutTypes.find? (·.1 == "internal/reflectlite.rtype")).map (·.2) = some 223 := by kernel_rfl
def oneRow:((List.range 333).filter fun t=>Tryz.prog.rowNamed t [101,114,114,111,114])=[36]:=by kernel_rfl
def tsize:Tryz.prog.types.size=333:=by kernel_rfl
def parts {W : World} (h : laidMetH Tryz.prog laidL W) : laidMet Tryz.prog YtkaifdgeigdbhaaGreatDoorStr.laidL W ∧ handlesMet Tryz.prog [("errors.errorType", Rows.laid_errors_errorType)] W := h
def hold_of_laid {W:World} (h:laidMetH Tryz.prog laidL W):TryzStr.hold W:=YtkaifdgeigdbhaaGreatDoorStr.hold_of_laid (parts h).1
def ze9 {W:World} (h:laidMetH Tryz.prog laidL W):W.cell? ⟨0,0,none⟩=some Tryztold.handle:=by
 obtain ⟨name,u,ty,e1,e2,e3,e4,e5⟩:=(parts h).2 _ (List.mem_singleton.2 rfl);have en:name=[101,114,114,111,114]:=(Option.some.inj e1).symm;subst en;obtain rfl:=Option.some.inj (rt.symm.trans e2);have hm:ty∈(List.range 333).filter fun t=>Tryz.prog.rowNamed t [101,114,114,111,114]:=List.mem_filter.2 ⟨List.mem_range.2 (by rw[← tsize];exact e3),e4⟩;rw[oneRow] at hm;obtain rfl:=List.mem_singleton.1 hm;have hh:typeHandle Tryz.prog 36=.pointer (some ⟨7,36,none⟩):=by kernel_rfl
 rw[hh] at e5;have:=World.var?_cell et e5 0;simpa[Tryztold.handle] using this
def laidWorld (os:Os):World:=YtkaifdgeigdbhaaGreatDoorStr.laidWorld os
def zbM (os:Os) (args:Array Value):laidMetH Tryz.prog laidL ((laidWorld os).forCall (fun _ _=>0) ⟨#[],args,[]⟩).memory :=
 laidMetH_of_parts (YtkaifdgeigdbhaaGreatDoorStr.laid_met os args) (by kernel_rfl)
end Go.Proofs.YtkaifdgeigdbhaaGreatDoorTold
end
