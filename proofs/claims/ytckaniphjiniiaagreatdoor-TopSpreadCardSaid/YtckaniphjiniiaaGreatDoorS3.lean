import Derived.Test.YtckaniphjiniiaaGreatDoorC5
import Derived.Test.YtckaniphjiniiaaGreatDoorProg
import Derived.Lib.LaidTab
import Derived.Test.YtckaniphjiniiaaGreatDoorRows
import Derived.ChangeSame
import Derived.ChangeVars
import Derived.JoinedOf
import Derived.RowKit
import Derived.RowKitTokens
import Derived.LaidLaws
import Derived.LaidHandle
import Derived.Stop.LaidErr
import Derived.Stop.Joined
import Derived.SizedLaws
import Derived.Test.YtckaniphjiniiaaGreatDoorHN
set_option linter.all false
noncomputable section
section
namespace Ab
open Go
def jj (o:List Dim) (l:List Entry):Int:=if (allE o).2.2=0 then zfD o l else (allE o).2.2
def zbD {o:List Dim} {l:List Entry} (hl:Lst Entry.gd l):P349 o l=some (zn (jj o l)):=by
 simp only[P349,S349,P352_eq,zj,zB,P27_eq o l hl];unfold jj;by_cases h:(allE o).2.2=0
 ·rw[if_pos h,decide_eq_true h];rfl
 ·rw[if_neg h,decide_eq_false h];rfl
end Ab
end
section
end
section
namespace Go.Proofs.TryzStr
open Go Go.RowKit Ab
def g1 : Tryz.prog.globalNamed "internal/strconv.uint64pow10" = some 3 := by kernel_rfl
def hold (w : World) : Prop := Lib.TabIs Tryz.prog w "internal/strconv.uint64pow10" .u64 Lib.pow10Tab
def var_same {n:String} {g:Nat} (hg:Tryz.prog.globalNamed n=some g) {w w':World} (h:w'.heap[g]? = w.heap[g]?):w'.var? Tryz.prog n=w.var? Tryz.prog n:=by simp only[World.var?,hg,Option.bind_some,h]
def holdK (w w':World) (h:∀b∈[3],b<w.heap.size∧w'.heap[b]? = w.heap[b]?) (hh:hold w):hold w':=by unfold hold Lib.TabIs at *;rw[var_same g1 (h 3 (by simp)).2];exact hh
def var_lt {n:String} {g:Nat} (hg:Tryz.prog.globalNamed n=some g) {w:World} {cs:Array Value} (h:w.var? Tryz.prog n=some cs):g<w.heap.size:=by
 rcases Nat.lt_or_ge g w.heap.size with h1|h1
 ·exact h1
 ·simp[World.var?,hg,Array.getElem?_eq_none h1] at h
def more_lt {w:World} (h:hold w):∀b∈[3],b<w.heap.size:=by intro b hb;obtain rfl:=List.mem_singleton.1 hb;exact var_lt g1 h
end Go.Proofs.TryzStr
end
section
namespace Go.Proofs.YtckaniphjiniiaaGreatDoorStr
open Go.ChangeShapes Go.WideShapes Go.RowKit Go.Proofs.YtckaniphjiniiaaGreatDoor
def zmr : List (String × DataW Unit) := [("math/bits.deBruijn32tab", Rows.laid_math_bits_deBruijn32tab), ("math/bits.deBruijn64tab", Rows.laid_math_bits_deBruijn64tab), ("internal/strconv.uint64pow10", Rows.laid_internal_strconv_uint64pow10), ("strconv.ErrRange", Rows.laid_strconv_ErrRange), ("strconv.ErrSyntax", Rows.laid_strconv_ErrSyntax)]
def own:ownKnob Tryz.prog.godebug=none:=by kernel_rfl
def zcz:laidOutB Tryz.prog=true:=by kernel_rfl
def ty1:(Tryz.prog.globals[3]?).map (·.type)=some 207:=by kernel_rfl
def ziO {W:World} (h:laidMet Tryz.prog zmr W):TryzStr.hold W:=by have h3:=h.tail.tail;exact Lib.tabIs_of_head (g:=3) (t:=207) (e:=172) (n:=20) (k:=.u64) (zs:=Lib.pow10Tab) TryzStr.g1 ty1 Tryz.underlying207 Tryz.underlying172 (by kernel_rfl) (by kernel_rfl) h3
def syntaxS:ByteArray:={ data:=#[105,110,118,97,108,105,100,32,115,121,110,116,97,120] }
def rangeS:ByteArray:={ data:=#[118,97,108,117,101,32,111,117,116,32,111,102,32,114,97,110,103,101] }
def low:Nat:=(World.holding Tryz.prog default ⟨#[],#[],[]⟩).heap.size
def n5:DataW Unit->Array Value
 | .agg ds=>(ds.map fun | .lit (.int k z)=>Value.int k z|_=>.bool false).toArray
 | _=>#[]
def put (cs:Array Value):Obj->Obj
 | .cells _ t frozen=>.cells cs t frozen
 | o=>o
def zex (os:Os):World :=
 let w0:=World.holding Tryz.prog os ⟨#[.cells #[.string rangeS] 200,.cells #[.string syntaxS] 200],#[],[]⟩
 { w0 with heap:=(((((w0.heap.modify 2 (put #[.iface 198 (.pointer (some ⟨low,0,none⟩))])).modify 1 (put #[.iface 198 (.pointer (some ⟨low+1,0,none⟩))])).modify 3 (put (n5 Rows.laid_internal_strconv_uint64pow10))).modify 4 (put (n5 Rows.laid_math_bits_deBruijn32tab))).modify 5 (put (n5 Rows.laid_math_bits_deBruijn64tab))) }
def laid_met (os:Os) (args:Array Value):laidMet Tryz.prog zmr ((zex os).forCall (fun _ _=>0) ⟨#[],args,[]⟩).memory :=
 laidMet_of_run' 8 (by kernel_rfl) (by kernel_rfl)
def zg5 (os:Os) (args:Array Value):laidMetH Tryz.prog zmr ((zex os).forCall (fun _ _=>0) ⟨#[],args,[]⟩).memory:=laid_met os args
end Go.Proofs.YtckaniphjiniiaaGreatDoorStr
end
section
namespace Ab
open Go
end Ab
end
section
namespace Ab
open Go
structure CubeOk (o:List Dim):Prop where
 out:OutOk o
 rules:∀d∈o,(qQ d).2=0
def zfb {o:List Dim}:(allE o).2.2=0↔CubeOk o:=by
 unfold allE;by_cases h0:(je o).2.2=0
 ·rw[if_neg (fun h=>h h0)];cases hs:(List.range o.length).findSome? (zgC o) with
  | some r =>
   obtain⟨i,hi,hr⟩:=List.exists_of_findSome?_eq_some hs;refine⟨fun h=>absurd h (ruleF_ne hr),fun h => ?_⟩;unfold zgC at hr;split at hr
   ·rename_i d hd;rw[if_neg (fun c=>c (h.rules d (List.mem_of_getElem? hd)))] at hr;cases hr
   ·cases hr
  | none =>
   refine⟨fun _=>⟨zbf.1 h0,fun d hd => ?_⟩,fun _=>rfl⟩;obtain⟨i,hi,rfl⟩:=List.getElem_of_mem hd;have:=List.findSome?_eq_none_iff.1 hs i (List.mem_range.2 hi);unfold zgC at this;rw[List.getElem?_eq_getElem hi] at this;simp only at this;split at this
   ·cases this
   ·rename_i c;exact Classical.byContradiction c
 ·rw[if_pos h0];exact⟨fun h=>absurd h h0,fun h=>absurd (zbf.2 h.out) h0⟩
def zfY (o:List Dim):Prop:=∀d∈o,∀m∈d.members,m.formula=⟨#[]⟩
def zjP {d:Dim} (ok:DimOk d) (h:∀m∈d.members,m.formula=⟨#[]⟩):(qQ d).2=0:=by
 have h0:=lB.2 ok;have hl:=ok.len;have eg:∀i x,x∈zjT d i->∃k:Nat,x=k∧i<k∧k<d.members.length:=by
  intro i x hx;unfold zjT at hx;split at hx
  ·rename_i m hm;rw[if_pos (h m (List.mem_of_getElem? hm))] at hx;have:=sk ok.rooted (List.mem_filter.1 hx).1;exact⟨x.toNat,by omega,by omega,by omega⟩
  ·cases hx
 have aP:∀i,i<d.members.length->cL d i=none:=(by intro i hi;have hm:=List.getElem?_eq_getElem hi;unfold cL;rw[hm];simp only;rw[if_neg (fun c=>c.1 (h _ (List.getElem_mem hi))),if_neg];intro c;have:=zln.1 c;obtain⟨k,hk,_⟩:=eg i _ ((zgA _).2 _ |>.1 this);omega);have cD:=zhB aP;have hnd:∀a b,b∈nd (zcT d) a->a<b:=by
  intro a b hb;obtain⟨x,hx,rfl⟩:=List.mem_map.1 hb;by_cases ha:a<d.members.length
  ·rw[List.getD_eq_getElem?_getD,zlM ha] at hx;obtain⟨k,rfl,hk,_⟩:=eg a x ((zgA _).2 _ |>.1 hx);omega
  ·rw[List.getD_eq_getElem?_getD,List.getElem?_eq_none (by rw[zdR];omega)] at hx;cases hx
 have iK:∀a b,Reach (zcT d) a b->a<b:=by
  intro a b hr
  induction hr with
  | one h=>exact hnd _ _ h
  | more h _ ih=>exact Nat.lt_trans (hnd _ _ h) ih
 rw[show qQ d=zbP d from if_neg (fun c=>c h0)];unfold zbP;rw[List.findSome?_eq_none_iff.2 (fun i hi=>by rw[aP i (List.mem_range.1 hi)];rfl)];simp only;rw[List.findSome?_eq_none_iff.2 (fun i hi=>by
  unfold zgD;rw[if_neg (fun c=>Nat.lt_irrefl _ (iK i i ((selfN_iff cD i).1 c)))]
  rfl)]
def zmD {o:List Dim} (ok:OutOk o) (h:zfY o):CubeOk o:=⟨ok,fun d hd=>zjP (ok.dims d hd) (h d hd)⟩
end Ab
end
