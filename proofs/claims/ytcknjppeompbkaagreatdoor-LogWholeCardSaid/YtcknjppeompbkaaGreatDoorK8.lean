import Derived.Test.YtcknjppeompbkaaGreatDoorK24
import Derived.Shelf.Strings.Builder1
import Derived.Shelf.Strings.Builder2
import Derived.Shelf.Strings.OnBuilder
import Derived.Shelf.Strings.Search3
import Derived.Shelf.Strings.Count
import Derived.Shelf.Strings.Split
import Derived.Shelf.Strings.Shaped
import Derived.Test.YtcknjppeompbkaaGreatDoorRows
import Derived.ChangeSame
import Derived.ChangeVars
import Derived.JoinedOf
import Derived.RowKit
import Derived.LaidLaws
import Derived.LaidHandle
import Derived.Stop.LaidErr
import Derived.Stop.Joined
import Derived.SizedLaws
open List (all_eq_true mem_range)
set_option linter.all false
noncomputable section
section
namespace Ab
open Go
def sqw_out:(jD (zA 3)).2.2=0:=by decide+kernel
def sqw_form:(zA 3).all (fun d=>d.members.all fun m=>decide (m.formula=⟨#[]⟩))=true:=by decide+kernel
def sqw_small:((zA 3).all fun d=>decide (d.members.length<=1000))=true:=by decide+kernel
def zcf (o:List Dim) (l:List Entry) (b:ByteArray):List Dim×List Entry×ByteArray×Int×Int×Bool:=(o,l,b,0, -1,false)
section
variable {o:List Dim} {l:List Entry} {b:ByteArray}
def logW_1:(zcf o l b).1=o:=rfl
def logW_2:(zcf o l b).2.1=l:=rfl
def logW_3:(zcf o l b).2.2.1=b:=rfl
def logW_4:(zcf o l b).2.2.2.1=0:=rfl
def logW_5:(zcf o l b).2.2.2.2.1 = -1:=rfl
def logW_6:(zcf o l b).2.2.2.2.2=false:=rfl
def P408_eq:P408 (zcf o l b)=some (zcf o l b,false):=rfl
end
def P403_sq:P403 (zA 3)=some (zcf (zA 3) [] ⟨#[]⟩,.nil):=by
 have hc:CubeOk (zA 3):=zjc (zcu.1 sqw_out) fun d hd m hm=>(by have:=all_eq_true.1 (all_eq_true.1 sqw_form d hd) m hm;simpa using this);have h0:(allE (zA 3)).2.2=0:=allE_zero.2 hc;have h1:P352 (zA 3)=some .nil:=by rw[P352_eq,h0];rfl
 have h2:P409 (zA 3)=some (zA 3):=P409_eq ⟨by decide+kernel,fun d hd=>by
  have:=all_eq_true.1 sqw_small d hd;simpa using this⟩
 simp only[P403,S403,h1,zq,h2];rfl
def edW (bad:Int) (i:Nat):Edit:=⟨if (i:Int)=bad then [0,1] else [wi (1+wi (Int.tdiv (i:Int) 3)),wi (1+Int.tmod (i:Int) 3)],(i:Int),false⟩
def xsW (bad:Int) (n:Nat):List Edit:=(List.range n).map (edW bad)
def xsW_bad:∀ n,n < 10->∀ b,b < n->(zjq (zA 3) [] (xsW (b:Nat) n)).2.2=6:=by decide+kernel
def xsW_good:∀ n,n < 10->(zjq (zA 3) [] (xsW (-1) n)).2.2=0∧(zjq (zA 3) [] (xsW (-1) n)).1.length=n∧((zjq (zA 3) [] (xsW (-1) n)).1.all fun e=>decide (e.at_.length<=2))=true:=by decide+kernel
def edW_ok (bad:Int) {i:Nat} (h:i < 10):(edW bad i).at_.length=2∧(∀ n∈(edW bad i).at_,I64 n)∧I64 (edW bad i).n:=by
 have e1:∀ i,i < 10->(0<=wi (1+wi (Int.tdiv (i:Nat) 3))∧wi (1+wi (Int.tdiv (i:Nat) 3))<=100)∧0<=wi (1+Int.tmod (i:Nat) 3)∧wi (1+Int.tmod (i:Nat) 3)<=100:=by decide+kernel
 have e2:=e1 i h;refine ⟨?_,fun n hn => ?_,⟨by simp only[edW];omega,by simp only[edW];omega⟩⟩
 ·simp only[edW];split<;>rfl
 ·simp only[edW] at hn;unfold I64;split at hn<;>(simp only[List.mem_cons,List.not_mem_nil,or_false] at hn;rcases hn with rfl | rfl<;>omega)
def xsW_few (bad:Int) {n:Nat} (h:n < 10):FewW (xsW bad n)∧Lst Edit.gd (xsW bad n):=by
 have hl:(xsW bad n).length=n:=by simp[xsW]
 have he:∀ e∈xsW bad n,e.at_.length=2∧(∀ n∈e.at_,I64 n)∧I64 e.n:=fun e he=>(by obtain ⟨i,hi,rfl⟩:=List.mem_map.1 he;exact edW_ok bad (by have:=mem_range.1 hi;omega));exact ⟨⟨by omega,fun e h=>⟨by rw[(he e h).1];omega,(he e h).2⟩⟩,by rw[hl];omega,fun e h=>⟨⟨by rw[(he e h).1];omega,(he e h).2.1⟩,(he e h).2.2⟩⟩
def loop412 (bad:Int) {n:Nat} (h:n < 10):lpO (zds (n:Int) bad) (([]:List Edit),(0:Int))=some (.inl (xsW bad n,(n:Int))):=by
 have hs:=qS (B:=zds (n:Int) bad) (fun i=>(xsW bad i,(i:Int))) n (fun i hi=>by
  have e4:wi ((i:Int)+1)=((i+1:Nat):Int):=by rw[ww (by omega) (by omega)];omega
  have bU:(xsW bad i).length+[edW bad i].length<=wD:=by simp only[xsW,List.length_map,List.length_range,List.length_cons,List.length_nil];unfold wD;omega
  have iK:xsW bad (i+1)=xsW bad i++[edW bad i]:=by simp only[xsW,List.range_succ,List.map_append,List.map_cons,List.map_nil]
  rw[iK];simp only[zds];rw[zO,if_pos (by omega),zL (by omega),zL (by omega),zO];by_cases hb:(i:Int)=bad
  ·have e:edW bad i=⟨[0,1],(i:Int),false⟩:=by simp only[edW,if_pos hb]
   rw[e] at bU ⊢;rw[if_pos hb];simp only[qp,yR];rw[zL bU,eo,e4]
  ·have e:edW bad i=⟨[wi (1+wi (Int.tdiv (i:Int) 3)),wi (1+Int.tmod (i:Int) 3)],(i:Int),false⟩:=by simp only[edW,if_neg hb]
   rw[e] at bU ⊢;rw[if_neg hb];simp only[qp,yR];rw[zL bU,eo,e4])
 rw[show (([]:List Edit),(0:Int))=(xsW bad 0,((0:Nat):Int)) from rfl,hs,jt (y:=(xsW bad n,(n:Int))) (by simp only[zds];rw[zO,if_neg (by omega)];rfl)]
def nil_gd:Lst Entry.gd ([]:List Entry):=⟨by simp,by simp⟩
def p412 (n bad:Int):P412 n bad=some true:=by
 have h22:P22 (3:Int)=some (zA 3):=P22_eq 3 (by omega);simp only[P412,S412,h22,zq,P403_sq,show Err.isNil .nil=true from rfl,zw];by_cases hn:n < 0
 ·rw[decide_eq_true hn];rfl
 ·by_cases oS:9 < n
  ·rw[decide_eq_false hn,decide_eq_true oS];rfl
  ·rw[decide_eq_false hn,decide_eq_false oS];simp only[zi,qp,yR];obtain ⟨k,rfl⟩:∃ k:Nat,n=k:=⟨n.toNat,by omega⟩;have hk:k < 10:=by omega
   rw[wc,loop412 bad hk,yR];obtain ⟨hf,hg⟩:=xsW_few bad hk;have dy:=P112_eq (o:=zA 3) nil_gd hg;by_cases hb:0<=bad∧bad < k
   ·obtain ⟨b,rfl⟩:∃ b:Nat,bad=b:=⟨bad.toNat,by omega⟩;rw[xsW_bad k hk b (by omega)] at dy;have gH:P404 (zcf (zA 3) [] ⟨#[]⟩) (xsW (b:Nat) k)=some (zcf (zA 3) [] ⟨#[]⟩,zp 6):=(by simp only[P404,S404,zcf,dy,zq,zi];rfl);have gG:P406 (zcf (zA 3) [] ⟨#[]⟩)=some (zcf (zA 3) [] ⟨#[]⟩,[]):=(by simp only[P406,S406,zcf,P72_eq (l:=[]) (by simp) (by simp),zq]);simp only[show (zA 3,([]:List Entry),(⟨#[]⟩:ByteArray),(0:Int),(-1:Int),false)=zcf (zA 3) [] ⟨#[]⟩ from rfl,gH,zq,decide_eq_true hb.1,decide_eq_true hb.2,zw,qp,yR,P92_errOf,P405,S405,gG];rfl
   ·have e:xsW bad k=xsW (-1) k:=List.map_congr_left fun i hi=>(by have hi:=mem_range.1 hi;simp only[edW];rw[if_neg (by omega),if_neg (by omega)]);obtain ⟨g1,g2,g3⟩:=xsW_good k hk;rw[e] at dy hf ⊢;obtain ⟨r1,r2⟩:=recB_size hf;rw[g1] at dy;have gH:P404 (zcf (zA 3) [] ⟨#[]⟩) (xsW (-1) k)=some (zcf (zA 3) (zjq (zA 3) [] (xsW (-1) k)).1 (⟨#[]⟩++recB (xsW (-1) k)),.nil):=(by simp only[P404,S404,logW_1,logW_2,logW_3,logW_4,logW_5,logW_6,dy,zq,zi,show (zp 0).isNil=true from rfl,Bool.not_true,P407_eq hf,P408_eq];exact zL (show (⟨#[]⟩:ByteArray).size+(recB (xsW (-1) k)).size<=9223372036854775807 by have:(⟨#[]⟩:ByteArray).size=0:=rfl;omega) _);have gG:∀ b,P406 (zcf (zA 3) (zjq (zA 3) [] (xsW (-1) k)).1 b)=some (zcf (zA 3) (zjq (zA 3) [] (xsW (-1) k)).1 b,(zjq (zA 3) [] (xsW (-1) k)).1):=fun b=>by
     simp only[P406,S406,zcf];rw[P72_eq (by rw[g2];unfold qB;omega) fun e he=>by
      have:=all_eq_true.1 g3 e he;simp only[decide_eq_true_eq] at this;unfold qB;omega]
     rfl
    have aG:(2:Int)<=(((⟨#[]⟩++recB (xsW (-1) k):ByteArray).size:Nat):Int):=by rw[ByteArray.size_append];omega
    have bg:(br (decide ((0:Int)<=bad)) (some (Sum.inl (decide (bad < (k:Int))))) (some (Sum.inl false)):Option (Bool ⊕ Bool))=some (.inl false):=by
     by_cases h0:0<=bad
     ·rw[decide_eq_true h0,decide_eq_false (by omega)];rfl
     ·rw[decide_eq_false h0];rfl
    simp only[show (zA 3,([]:List Entry),(⟨#[]⟩:ByteArray),(0:Int),(-1:Int),false)=zcf (zA 3) [] ⟨#[]⟩ from rfl,gH,zq];rw[bg];simp only[yR,zi,show Err.isNil .nil=true from rfl,zw,P405,S405,zq,zcf,decide_eq_true aG,qp];have fU:=gG (⟨#[]⟩++recB (xsW (-1) k));simp only[zcf] at fU;simp only[fU,zq,qp,yR,g2,decide_true]
end Ab
end
section
namespace Go.Proofs
open Go.Shelf
def Tryz.lays156_ren:Go.Shelf.Ren:=⟨fun | 156=>29 | 165=>45 | 166=>13 | 169=>16 | 240=>26 | 241=>61 | 276=>43 | 277=>80 | n=>n,fun | 31=>75 | 9=>9 | 3=>3 | 4=>4 | 0=>0 | 20=>20 | 72=>54 | 76=>55 | 70=>51 | 37=>52 | 75=>27 | 127=>77 | 164=>90 | 5=>5 | 80=>61 | n=>n,fun | n=>n⟩
def Tryz.lays156:Go.Proofs.Lays.n156 Tryz.prog Tryz.lays156_ren:={
 mixed:=by kernel_rfl
 f156:=Tryz.func29.trans (congrArg some (by kernel_rfl))
 f165:=Tryz.func45.trans (congrArg some (by kernel_rfl))
 f166:=Tryz.func13.trans (congrArg some (by kernel_rfl))
 f169:=Tryz.func16.trans (congrArg some (by kernel_rfl))
 f240:=Tryz.func26.trans (congrArg some (by kernel_rfl))
 f241:=Tryz.func61.trans (congrArg some (by kernel_rfl))
 f276:=Tryz.func43.trans (congrArg some (by kernel_rfl))
 f277:=Tryz.func80.trans (congrArg some (by kernel_rfl))
 t0:=Tryz.underlying0
 a0:=Tryz.isAgg0
 z0:=Tryz.sizeOf0
 v0:=Tryz.zeroValue0
 t3:=Tryz.underlying3
 a3:=Tryz.isAgg3
 z3:=Tryz.sizeOf3
 v3:=Tryz.zeroValue3
 t4:=Tryz.underlying4
 a4:=Tryz.isAgg4
 z4:=Tryz.sizeOf4
 v4:=Tryz.zeroValue4
 t9:=Tryz.underlying9
 a9:=Tryz.isAgg9
 z9:=Tryz.sizeOf9
 v9:=Tryz.zeroValue9
 t20:=Tryz.underlying20
 a20:=Tryz.isAgg20
 z20:=Tryz.sizeOf20
 v20:=Tryz.zeroValue20
 t31:=Tryz.underlying75
 a31:=Tryz.isAgg75
 z31:=Tryz.sizeOf75
 v31:=Tryz.zeroValue75
 t37:=Tryz.underlying52
 a37:=Tryz.isAgg52
 z37:=Tryz.sizeOf52
 v37:=Tryz.zeroValue52
 t70:=Tryz.underlying51
 a70:=Tryz.isAgg51
 z70:=Tryz.sizeOf51
 v70:=Tryz.zeroValue51
 t72:=Tryz.underlying54
 a72:=Tryz.isAgg54
 z72:=Tryz.sizeOf54
 v72:=Tryz.zeroValue54
 t75:=Tryz.underlying27
 a75:=Tryz.isAgg27
 z75:=Tryz.sizeOf27
 v75:=Tryz.zeroValue27
 t76:=Tryz.underlying55
 a76:=Tryz.isAgg55
 z76:=Tryz.sizeOf55
 v76:=Tryz.zeroValue55
 t127:=Tryz.underlying77
 a127:=Tryz.isAgg77
 z127:=Tryz.sizeOf77
 v127:=Tryz.zeroValue77
 t164:=Tryz.underlying90
 a164:=Tryz.isAgg90
 z164:=Tryz.sizeOf90
 v164:=Tryz.zeroValue90 }
def Tryz.Builder_Extra_156:Builder.Extra Tryz.prog Tryz.lays156_ren:={
 sizeBuilder:=by kernel_rfl
 liesBuilder:=by kernel_rfl
 t5:=Tryz.underlying5
 a5:=Tryz.isAgg5
 z5:=Tryz.sizeOf5
 v5:=Tryz.zeroValue5
 infoByte:=by kernel_rfl
 cellsByte:=by kernel_rfl
 sizeByte:=by kernel_rfl
 neB5:=by decide }
open Go.RowKit in
def Tryz.strings_Join (bk o c:Nat) (xs:List ByteArray) (sep:ByteArray) (w:World) (gB:∀ (j:Nat) x,xs[j]? = some x->w.cell? ⟨bk,o+j,none⟩=some (.string x)) (fc:bk < w.heap.size) (hN:xs.length<=140737488355328) (ba:xs.length<=c) (hlen:(Lib.join (xs.map (·.data.toList)) sep.data.toList).length<=140737488355328) :
  Calls Tryz.prog 29 #[.slice (some ⟨bk,o,none⟩) xs.length c,.string sep] w fun e w'=>e=.returned (.string ⟨(Lib.join (xs.map (·.data.toList)) sep.data.toList).toArray⟩)∧Below w.heap.size w w':=Any.strings_Join Tryz.lays156 Tryz.Builder_Extra_156 bk o c xs sep w gB fc hN ba hlen
open Go.RowKit in
def Tryz.strings_Join_none (a:Option Addr) (c:Nat) (sep:ByteArray) (w:World) :
  Calls Tryz.prog 29 #[.slice a 0 c,.string sep] w fun e w'=>e=.returned (.string ⟨#[]⟩)∧w'=w:=Any.strings_Join_none Tryz.lays156 Tryz.Builder_Extra_156 a c sep w
end Go.Proofs
namespace Go.Proofs.TryzSep
open Go Go.RowKit Ab
def join_none (a:Option Addr) (c:Nat) (sep:ByteArray) (w:World):Calls Tryz.prog 29 #[.slice a 0 c,.string sep] w fun e w'=>e=.returned (.string ⟨#[]⟩)∧w'=w:=Tryz.strings_Join_none a c sep w
def join_at (bk o c:Nat) (xs:List ByteArray) (sep:ByteArray) (w:World) (hc:∀ (j:Nat) x,xs[j]? = some x->w.cell? ⟨bk,o+j,none⟩=some (.string x)) (hb:bk < w.heap.size) (h0:xs.length<=140737488355328) (h1:xs.length<=c) (h2:(ed xs sep).size<=140737488355328) :
  Calls Tryz.prog 29 #[.slice (some ⟨bk,o,none⟩) xs.length c,.string sep] w fun e w'=>e=.returned (.string (ed xs sep))∧KeepO (fun _=>False) w w' :=
 (Tryz.strings_Join bk o c xs sep w hc hb h0 h1 (by simpa[ed,ByteArray.size] using h2)).mono fun e w' ⟨he,hb⟩=>⟨he,⟨hb.os,hb.tape,hb.output,hb.size,fun k hk _=>hb.block k hk⟩⟩
end Go.Proofs.TryzSep
end
section
namespace Go.Proofs.YtcknjppeompbkaaGreatDoorStr
open Go.ChangeShapes Go.WideShapes Go.RowKit Go.Proofs.YtcknjppeompbkaaGreatDoor
def laidL : List (String × DataW Unit) := [("math/bits.deBruijn32tab", Rows.laid_math_bits_deBruijn32tab), ("math/bits.deBruijn64tab", Rows.laid_math_bits_deBruijn64tab), ("internal/strconv.uint64pow10", Rows.laid_internal_strconv_uint64pow10), ("strconv.ErrRange", Rows.laid_strconv_ErrRange), ("strconv.ErrSyntax", Rows.laid_strconv_ErrSyntax)]
def own:ownKnob Tryz.prog.godebug=none:=by kernel_rfl
def zg7:laidOutB Tryz.prog=true:=by kernel_rfl
def ty1:(Tryz.prog.globals[1]?).map (·.type)=some 145:=by kernel_rfl
def hold_of_laid {W:World} (h:laidMet Tryz.prog laidL W):TryzStr.hold W:=by have h3:=h.tail.tail;exact Lib.tabIs_of_head (g:=1) (t:=145) (e:=113) (n:=20) (k:=.u64) (zs:=Lib.pow10Tab) TryzStr.g1 ty1 Tryz.underlying145 Tryz.underlying113 (by kernel_rfl) (by kernel_rfl) h3
def syntaxS:ByteArray:={ data:=#[105,110,118,97,108,105,100,32,115,121,110,116,97,120] }
def rangeS:ByteArray:={ data:=#[118,97,108,117,101,32,111,117,116,32,111,102,32,114,97,110,103,101] }
def low:Nat:=(World.holding Tryz.prog default ⟨#[],#[],[]⟩).heap.size
def zeJ:DataW Unit->Array Value
 | .agg ds=>(ds.map fun | .lit (.int k z)=>Value.int k z | _=>.bool false).toArray
 | _=>#[]
def put (cs:Array Value):Obj->Obj
 | .cells _ t frozen=>.cells cs t frozen
 | o=>o
def laidWorld (os:Os):World :=
 let w0:=World.holding Tryz.prog os ⟨#[.cells #[.string rangeS] 222,.cells #[.string syntaxS] 222],#[],[]⟩
 { w0 with heap:=((((((w0.heap.modify 0 (put #[.iface 128 (.agg #[.pointer (some ⟨7,27,none⟩)])])).modify 6 (put #[.iface 220 (.pointer (some ⟨low,0,none⟩))])).modify 5 (put #[.iface 220 (.pointer (some ⟨low+1,0,none⟩))])).modify 1 (put (zeJ Rows.laid_internal_strconv_uint64pow10))).modify 3 (put (zeJ Rows.laid_math_bits_deBruijn32tab))).modify 4 (put (zeJ Rows.laid_math_bits_deBruijn64tab))) }
def laid_met (os:Os) (args:Array Value):laidMet Tryz.prog laidL ((laidWorld os).forCall (fun _ _=>0) ⟨#[],args,[]⟩).memory :=
 laidMet_of_run' 8 (by kernel_rfl) (by kernel_rfl)
def zaX (os:Os) (args:Array Value):laidMetH Tryz.prog laidL ((laidWorld os).forCall (fun _ _=>0) ⟨#[],args,[]⟩).memory:=laid_met os args
end Go.Proofs.YtcknjppeompbkaaGreatDoorStr
namespace Go.Proofs.YtcknjppeompbkaaGreatDoorTold
open Go.ChangeShapes Go.WideShapes Go.RowKit Go.Proofs.YtcknjppeompbkaaGreatDoor
def laidL : List (String × DataW Unit) := [("math/bits.deBruijn32tab", Rows.laid_math_bits_deBruijn32tab), ("math/bits.deBruijn64tab", Rows.laid_math_bits_deBruijn64tab), ("internal/strconv.uint64pow10", Rows.laid_internal_strconv_uint64pow10), ("errors.errorType", Rows.laid_errors_errorType), ("strconv.ErrRange", Rows.laid_strconv_ErrRange), ("strconv.ErrSyntax", Rows.laid_strconv_ErrSyntax)]
def own:ownKnob Tryz.prog.godebug=none:=by kernel_rfl
def zg7:laidOutB Tryz.prog=true:=by kernel_rfl
def et : Tryz.prog.globalNamed "errors.errorType" = some 0 := by kernel_rfl
def rt : (Tryz.prog.cutTypes.find? (·.1 == "internal/reflectlite.rtype")).map (·.2) = some 128 := by kernel_rfl
def oneRow:((List.range 249).filter fun t=>Tryz.prog.rowNamed t [101,114,114,111,114])=[27]:=by kernel_rfl
def tsize:Tryz.prog.types.size=249:=by kernel_rfl
def parts {W : World} (h : laidMetH Tryz.prog laidL W) : laidMet Tryz.prog YtcknjppeompbkaaGreatDoorStr.laidL W ∧ handlesMet Tryz.prog [("errors.errorType", Rows.laid_errors_errorType)] W := h
def hold_of_laid {W:World} (h:laidMetH Tryz.prog laidL W):TryzStr.hold W:=YtcknjppeompbkaaGreatDoorStr.hold_of_laid (parts h).1
def zdF {W:World} (h:laidMetH Tryz.prog laidL W):W.cell? ⟨0,0,none⟩=some Tryztold.handle:=by
 obtain ⟨name,u,ty,e1,e2,e3,e4,e5⟩:=(parts h).2 _ (List.mem_singleton.2 rfl);have en:name=[101,114,114,111,114]:=(Option.some.inj e1).symm;subst en;obtain rfl:=Option.some.inj (rt.symm.trans e2);have hm:ty∈(List.range 249).filter fun t=>Tryz.prog.rowNamed t [101,114,114,111,114]:=List.mem_filter.2 ⟨mem_range.2 (by rw[← tsize];exact e3),e4⟩;rw[oneRow] at hm;obtain rfl:=List.mem_singleton.1 hm;have hh:typeHandle Tryz.prog 27=.pointer (some ⟨7,27,none⟩):=by kernel_rfl
 rw[hh] at e5;have:=World.var?_cell et e5 0;simpa[Tryztold.handle] using this
def laidWorld (os:Os):World:=YtcknjppeompbkaaGreatDoorStr.laidWorld os
def zaX (os:Os) (args:Array Value):laidMetH Tryz.prog laidL ((laidWorld os).forCall (fun _ _=>0) ⟨#[],args,[]⟩).memory :=
 laidMetH_of_parts (YtcknjppeompbkaaGreatDoorStr.laid_met os args) (by kernel_rfl)
end Go.Proofs.YtcknjppeompbkaaGreatDoorTold
end
