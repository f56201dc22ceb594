import Derived.Test.YtkaifdgeigdbhaaGreatDoorProg
import Derived.Test.YtkaifdgeigdbhaaGreatDoorF1
import Derived.LaidEql
import Derived.Stop.Asserts
import Derived.RowKitTokens
import Derived.Lib.LaidTab
import Derived.Test.YtkaifdgeigdbhaaGreatDoorRows
import Derived.ChangeSame
import Derived.ChangeVars
import Derived.JoinedOf
import Derived.RowKit
import Derived.LaidLaws
import Derived.LaidHandle
import Derived.Stop.LaidErr
import Derived.Stop.Joined
import Derived.SizedLaws
set_option linter.all false
noncomputable section
section
namespace Go.Proofs.Tryztold
open Go.RowKit Go.Extern.Stop Go.Stop Go.Extern
end Go.Proofs.Tryztold
end
section
namespace Go.Proofs.TryzStr
open Go Go.RowKit Ab
def g1 : Tryz.prog.globalNamed "internal/strconv.uint64pow10" = some 2 := by kernel_rfl
def hold (w : World) : Prop := Lib.TabIs Tryz.prog w "internal/strconv.uint64pow10" .u64 Lib.pow10Tab
def var_same {n:String} {g:Nat} (hg:Tryz.prog.globalNamed n=some g) {w w':World} (h:w'.heap[g]? = w.heap[g]?):w'.var? Tryz.prog n=w.var? Tryz.prog n:=by simp only[World.var?,hg,Option.bind_some,h]
def holdK (w w':World) (h:∀ b∈[2],b < w.heap.size∧w'.heap[b]? = w.heap[b]?) (hh:hold w):hold w':=by unfold hold Lib.TabIs at *;rw[var_same g1 (h 2 (by simp)).2];exact hh
def var_lt {n:String} {g:Nat} (hg:Tryz.prog.globalNamed n=some g) {w:World} {cs:Array Value} (h:w.var? Tryz.prog n=some cs):g < w.heap.size:=by
 rcases Nat.lt_or_ge g w.heap.size with h1 | h1
 ·exact h1
 ·simp[World.var?,hg,Array.getElem?_eq_none h1] at h
def more_lt {w:World} (h:hold w):∀ b∈[2],b < w.heap.size:=by intro b hb;obtain rfl:=List.mem_singleton.1 hb;exact var_lt g1 h
end Go.Proofs.TryzStr
end
section
namespace Go.Proofs.YtkaifdgeigdbhaaGreatDoorStr
open Go.ChangeShapes Go.WideShapes Go.RowKit Go.Proofs.YtkaifdgeigdbhaaGreatDoor
def laidL : List (String × DataW Unit) := [("math/bits.deBruijn32tab", Rows.laid_math_bits_deBruijn32tab), ("math/bits.deBruijn64tab", Rows.laid_math_bits_deBruijn64tab), ("internal/strconv.uint64pow10", Rows.laid_internal_strconv_uint64pow10), ("strconv.ErrRange", Rows.laid_strconv_ErrRange), ("strconv.ErrSyntax", Rows.laid_strconv_ErrSyntax)]
def own:ownKnob Tryz.prog.godebug=none:=by kernel_rfl
def zhF:laidOutB Tryz.prog=true:=by kernel_rfl
def ty1:(Tryz.prog.globals[2]?).map (·.type)=some 264:=by kernel_rfl
def hold_of_laid {W:World} (h:laidMet Tryz.prog laidL W):TryzStr.hold W:=by have h3:=h.tail.tail;exact Lib.tabIs_of_head (g:=2) (t:=264) (e:=251) (n:=20) (k:=.u64) (zs:=Lib.pow10Tab) TryzStr.g1 ty1 Tryz.underlying264 Tryz.underlying251 (by kernel_rfl) (by kernel_rfl) h3
def syntaxS:ByteArray:={ data:=#[105,110,118,97,108,105,100,32,115,121,110,116,97,120] }
def rangeS:ByteArray:={ data:=#[118,97,108,117,101,32,111,117,116,32,111,102,32,114,97,110,103,101] }
def low:Nat:=(World.holding Tryz.prog default ⟨#[],#[],[]⟩).heap.size
def zeY:DataW Unit->Array Value
 | .agg ds=>(ds.map fun | .lit (.int k z)=>Value.int k z | _=>.bool false).toArray
 | _=>#[]
def put (cs:Array Value):Obj->Obj
 | .cells _ t frozen=>.cells cs t frozen
 | o=>o
def laidWorld (os:Os):World :=
 let w0:=World.holding Tryz.prog os ⟨#[.cells #[.string rangeS] 306,.cells #[.string syntaxS] 306],#[],[]⟩
 { w0 with heap:=((((((w0.heap.modify 0 (put #[.iface 223 (.agg #[.pointer (some ⟨7,36,none⟩)])])).modify 6 (put #[.iface 304 (.pointer (some ⟨low,0,none⟩))])).modify 5 (put #[.iface 304 (.pointer (some ⟨low+1,0,none⟩))])).modify 2 (put (zeY Rows.laid_internal_strconv_uint64pow10))).modify 3 (put (zeY Rows.laid_math_bits_deBruijn32tab))).modify 4 (put (zeY Rows.laid_math_bits_deBruijn64tab))) }
def laid_met (os:Os) (args:Array Value):laidMet Tryz.prog laidL ((laidWorld os).forCall (fun _ _=>0) ⟨#[],args,[]⟩).memory :=
 laidMet_of_run' 8 (by kernel_rfl) (by kernel_rfl)
def zaY (os:Os) (args:Array Value):laidMetH Tryz.prog laidL ((laidWorld os).forCall (fun _ _=>0) ⟨#[],args,[]⟩).memory:=laid_met os args
end Go.Proofs.YtkaifdgeigdbhaaGreatDoorStr
namespace Go.Proofs.YtkaifdgeigdbhaaGreatDoorTold
open Go.ChangeShapes Go.WideShapes Go.RowKit Go.Proofs.YtkaifdgeigdbhaaGreatDoor
def laidL : List (String × DataW Unit) := [("math/bits.deBruijn32tab", Rows.laid_math_bits_deBruijn32tab), ("math/bits.deBruijn64tab", Rows.laid_math_bits_deBruijn64tab), ("internal/strconv.uint64pow10", Rows.laid_internal_strconv_uint64pow10), ("errors.errorType", Rows.laid_errors_errorType), ("strconv.ErrRange", Rows.laid_strconv_ErrRange), ("strconv.ErrSyntax", Rows.laid_strconv_ErrSyntax)]
def own:ownKnob Tryz.prog.godebug=none:=by kernel_rfl
def zhF:laidOutB Tryz.prog=true:=by kernel_rfl
def et : Tryz.prog.globalNamed "errors.errorType" = some 0 := by kernel_rfl
def parts {W : World} (h : laidMetH Tryz.prog laidL W) : laidMet Tryz.prog YtkaifdgeigdbhaaGreatDoorStr.laidL W ∧ handlesMet Tryz.prog [("errors.errorType", Rows.laid_errors_errorType)] W := h
def hold_of_laid {W:World} (h:laidMetH Tryz.prog laidL W):TryzStr.hold W:=YtkaifdgeigdbhaaGreatDoorStr.hold_of_laid (parts h).1
def laidWorld (os:Os):World:=YtkaifdgeigdbhaaGreatDoorStr.laidWorld os
def zaY (os:Os) (args:Array Value):laidMetH Tryz.prog laidL ((laidWorld os).forCall (fun _ _=>0) ⟨#[],args,[]⟩).memory :=
 laidMetH_of_parts (YtkaifdgeigdbhaaGreatDoorStr.laid_met os args) (by kernel_rfl)
end Go.Proofs.YtkaifdgeigdbhaaGreatDoorTold
end
