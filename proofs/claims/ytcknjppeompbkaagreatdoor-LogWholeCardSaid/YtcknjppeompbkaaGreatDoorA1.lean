import Derived.RowKit3
import Derived.Laws.OwnMore
import Derived.Laws.StructEq
import Derived.Laws.MakeOwn
import Derived.Laws.Slices
import Derived.Laws.Build
set_option linter.all false
namespace Ab
def Aa:=@List.getElem?_eq_some_iff.{0}
def Ac:=@List.getElem?_eq_getElem.{0}
def Ad:=@List.mem_cons_of_mem.{0}
def Ae:=@List.mem_of_getElem?.{0}
def Af:=@List.all_eq_true.{0}
def Ag:=@Option.map_eq_some_iff.{0,0}
def Ah:=@List.mem_cons_self.{0}
def Ai:=@List.mem_singleton.{0}
def Aj:=@Array.getD_eq_getD_getElem?.{0}
def Ak:=@Bool.and_eq_true
def Al:=@List.map_congr_left.{0,0}
def Am:=@Bool.false_eq_true
def An:=@List.map_cons.{0,0}
def Ao:=@List.mem_append.{0}
def Ap:=@List.mem_map.{0,0}
def Aq:=@List.mem_cons.{0}
def Ar:=@List.length_map.{0,0}
def As:=@List.cons_append.{0}
def Au:=@Bool.and_eq_true_iff
def Aw:=@List.getElem?_map.{0,0}
def Ax:=@List.eq_nil_iff_forall_not_mem.{0}
def Ay:=@List.mem_iff_getElem?.{0}
def Az:=@Nat.mul_le_mul_right
def AA:=@List.nil_append.{0}
def AB:=@List.append_assoc.{0}
def AD:=@Nat.lt_of_lt_of_le
def AE:=@Option.map_some.{0,0}
def AF:=@List.getD_eq_getElem?_getD.{0}
def AG:=@Nat.beq_refl
def AH:=@Nat.le_trans
def AJ:=@Bool.not_eq_true'
def AK:=@List.length_cons.{0}
def AL:=@Nat.zero_add
def AM:=@List.getElem?_append_left.{0}
def AN:=@List.getElem?_cons_succ.{0}
def AO:=@Nat.le_refl
def AP:=@List.contains_eq_mem.{0}
def AQ:=@List.getElem?_take_of_lt.{0}
def AR:=@List.all_cons.{0}
def AU:=@List.map_map.{0,0,0}
def AW:=@List.exists_of_findSome?_eq_some.{0,0}
def AX:=@List.length_append.{0}
def AY:=@List.length_take.{0}
def AZ:=@Nat.add_mul
def A3:=@List.map_nil.{0,0}
def A4:=@Bool.true_and
def A5:=@Option.getD_some.{0}
def A6:=@List.getElem?_append_right.{0}
def A7:=@List.flatMap_eq_nil_iff.{0,0}
def A8:=@Array.getElem?_eq_getElem.{0}
def A9:=@List.size_toArray.{0}
def Ba:=@Array.length_toList.{0}
def Bb:=@Array.getElem?_eq_some_iff.{0}
def Bc:=@List.mem_range
def Bd:=@List.length_drop.{0}
def Be:=@List.getElem_mem.{0}
def Bf:=@Bool.not_true
def Bg:=@Nat.eq_of_beq_eq_true
def Bh:=@Array.getElem?_toList.{0}
def Bj:=@List.length_eq_zero_iff.{0}
def Bk:=@List.mem_of_mem_drop.{0}
def Bl:=@List.map_append.{0,0}
def Bm:=@List.isEmpty_nil.{0}
def Bn:=@List.eq_nil_of_length_eq_zero.{0}
def Bo:=@Nat.add_zero
def Bp:=@List.findSome?_eq_none_iff.{0,0}
def Bq:=@Array.getElem?_append_left.{0}
def Br:=@List.foldl_cons.{0,0}
def Bs:=@List.length_filter_le.{0}
def Bt:=@List.isEmpty_iff.{0}
def Bu:=@List.getElem?_drop.{0}
def Bv:=@Nat.add_assoc
def Bw:=@Int.toNat_natCast
def Bx:=@List.mem_flatMap.{0,0}
def Bz:=@Nat.blt_eq
def BA:=@List.map_replicate.{0,0}
def BB:=@List.length_singleton.{0}
def BC:=@List.getElem?_eq_none.{0}
def BD:=@List.drop_eq_getElem_cons.{0}
def BE:=@Option.map_none.{0,0}
def BF:=@List.mem_filter.{0}
def BG:=@Nat.zero_le
def BH:=@List.mem_of_mem_take.{0}
def BI:=@List.getElem?_set.{0}
def BJ:=@List.contains_nil.{0}
def BK:=@Bool.or_eq_false_iff
def BL:=@List.take_of_length_le.{0}
def BM:=@List.drop_eq_nil_of_le.{0}
def BN:=@List.append_nil.{0}
def BO:=@List.length_range
def BP:=@Nat.mul_le_mul
def BQ:=@List.map_id'.{0}
def BR:=@List.eq_of_mem_replicate.{0}
def BS:=@Bool.or_eq_true
def BT:=@List.getElem?_cons_zero.{0}
def BU:=@List.getElem?_set_self.{0}
def BV:=@Bool.not_false
def BW:=@Array.size_append.{0}
def BX:=@Nat.le_of_ble_eq_true
def BZ:=@Bool.not_eq_true
def B0:=@Array.eq_empty_of_size_eq_zero.{0}
def B2:=@Nat.pow_le_pow_right
def B3:=@List.getElem?_set_ne.{0}
def B4:=@List.length_nil.{0}
def B5:=@List.any_map.{0,0}
def B6:=@Nat.lt_of_le_of_lt
def B7:=@List.take_zero.{0}
def B8:=@List.pairwise_cons.{0}
def B9:=@Bool.and_false
def Ca:=@List.rel_of_pairwise_cons.{0}
def Cb:=@List.flatMap_cons.{0,0}
def Cc:=@List.map_take.{0,0}
def Cd:=@List.map_drop.{0,0}
def Ce:=@Bool.and_true
def Cf:=@Bool.and_self
def Cg:=@List.take_length.{0}
def Ch:=@List.getElem?_replicate.{0}
def Ci:=@Bool.or_self
def Cj:=@List.take_left'.{0}
def Ck:=@List.range_succ
def Cm:=@List.length_replicate.{0}
def Cn:=@Bool.and_eq_false_iff
def Co:=@Nat.mul_one
def Cp:=@List.take_take.{0}
def Cq:=@List.pairwise_append.{0}
def Cr:=@Bool.false_and
def Cs:=@Array.mem_toList_iff.{0}
def Ct:=@Nat.succ_eq_add_one
def Cu:=@List.getElem?_range
def Cw:=@List.findSome?_cons.{0,0}
def Cx:=@Int.toNat_of_nonneg
def Cy:=@Nat.lt_irrefl
def Cz:=@List.any_cons.{0}
def CA:=@Nat.add_sub_cancel
def CB:=@List.getElem?_take.{0}
def CC:=@List.filter_append.{0}
def CD:=@Nat.sub_self
def CE:=@List.take_add_one.{0}
def CF:=@Bool.true_or
open Go
section
inductive AV where
 | bot
 | v (x:Value)
 | sl (z:Nat) (es:List (List AV))
 | own (z:Nat) (es:List (List AV))
 | agg (cs:List AV)
 | tup (vs:List AV)
 | ep (cs:List AV) (off:Nat)
 | pv (s off:Nat)
 | pe (s z i off:Nat)
 | lsl (s z off len:Nat)
 | fn (f:Nat) (caps:List AV)
 | ifc (t:Nat) (x:AV)
 deriving Inhabited
mutual
def AV.refs:AV->List Nat
 | .bot | .v _ | .sl _ _ | .own _ _ | .ep _ _=>[]
 | .agg cs=>AV.refsL cs
 | .tup vs=>AV.refsL vs
 | .pv s _=>[s]
 | .pe s _ _ _=>[s]
 | .lsl s _ _ _=>[s]
 | .fn _ caps=>AV.refsL caps
 | .ifc _ x=>AV.refs x
def AV.refsL:List AV->List Nat
 | []=>[]
 | x :: r=>AV.refs x++AV.refsL r
end
def AV.plain1:AV->Bool
 | .bot | .v _ | .ifc _ (.v _) | .ifc _ .bot=>true
 | _=>false
def AV.plain2:AV->Bool
 | .bot | .v _ | .ifc _ (.v _) | .ifc _ .bot=>true
 | .agg cs=>cs.all AV.plain1
 | _=>false
def AV.plain:AV->Bool
 | .bot | .v _ | .ifc _ (.v _) | .ifc _ .bot=>true
 | .agg cs=>cs.all AV.plain1
 | .tup vs=>vs.all AV.plain2
 | _=>false
def AV.cell1:AV->Bool
 | .v (.agg _) | .v (.tuple _)=>false
 | .v _ | .sl _ _ | .ep _ _ | .pv _ _ | .pe _ _ _ _ | .lsl _ _ _ _ | .fn _ _ | .ifc _ _=>true
 | .bot | .own _ _ | .agg _ | .tup _=>false
def AV.cells:AV->Option (List AV)
 | .agg cs=>if cs.all AV.cell1 then some cs else none
 | x=>if x.cell1 then some [x] else none
inductive Blk where
 | var (cs:List AV)
 | arr (z:Nat) (es:List (List AV))
 deriving Inhabited
structure ASt where
 fr:Nat->AV
 hp:Nat->Option Blk
def upd {α:Type} (f:Nat->α) (k:Nat) (x:α):Nat->α:=fun j=>if j=k then x else f j
def zM {α:Type} (f:Nat->α) (k:Nat) (x:α):upd f k x k=x:=by simp[upd]
def jC {α:Type} (f:Nat->α) (k:Nat) (x:α) {j:Nat} (h:j≠k):upd f k x j=f j:=by simp[upd,h]
def ASt.put (st:ASt) (d:Nat) (x:AV):ASt:={ st with fr:=upd st.fr d x }
def ASt.setH (st:ASt) (s:Nat) (b:Option Blk):ASt:={ st with hp:=upd st.hp s b }
def ASt.putO (st:ASt) (d:Option Nat) (x:AV):ASt:=match d with | some d=>st.put d x | none=>st
inductive AOpd where
 | t (n:Nat)
 | c (x:Value)
 | f (id:Nat)
 deriving Inhabited
def ASt.ev (st:ASt):AOpd->AV
 | .t n=>st.fr n
 | .c x=>.v x
 | .f id=>.fn id []
inductive Sc where
 | bool | int | str
 deriving DecidableEq,Inhabited
inductive AOp where
 | mov (x:AOpd)
 | box (x:AOpd)
 | alloc (zero:List Value)
 | build (zero:List Value) (parts:List (Nat×Nat×AOpd))
 | bslice (frz:Bool) (z:Nat) (zero:List Value) (len:Nat) (parts:List (Nat×AOpd))
 | lit (z:Nat) (zero:List Value) (len:Nat) (parts:List (Nat×AOpd))
 | load (n:Option Nat) (x:AOpd)
 | store (z:Nat) (a x:AOpd)
 | chk (x:AOpd)
 | bin (k:Sc) (op:BinOp) (x y:AOpd)
 | eqa (neg:Bool) (shape:List (Nat×Sc)) (x y:AOpd)
 | eqn (sl neg:Bool) (x:AOpd)
 | un (op:UnOp) (x:AOpd)
 | cvi (k:IntKind) (x:AOpd)
 | cvs (x:AOpd)
 | ifc (t:Nat) (x:AOpd)
 | mkfn (f:Nat) (caps:List AOpd)
 | mksl (z:Nat) (zero:List Value) (len cap:AOpd)
 | slc (z:Nat) (x:AOpd) (lo hi:Option AOpd)
 | fa (off:Nat) (x:AOpd)
 | fld (off:Nat) (n:Option Nat) (x:AOpd)
 | ia (z:Nat) (x i:AOpd)
 | ix (x i:AOpd)
 | ext (x:AOpd) (i:Nat)
 | len (str:Bool) (x:AOpd)
 | app (z:Nat) (x y:AOpd)
 | call (frz:Bool) (muts:List Nat) (f:Nat) (args:List AOpd)
 | calld (frz:Bool) (x:AOpd) (args:List AOpd)
 | callo (k f:Nat) (args:List AOpd)
 | pick (c a b:AOpd)
 | max2 (x y:AOpd)
 deriving Inhabited
structure AOper where
 dst:Option Nat
 op:AOp
 grd:Option (Nat×Bool)
 aft:List Nat
 deriving Inhabited
inductive ACode where
 | skip
 | region (ops:List AOper) (draw:Bool)
 | seq (a b:ACode)
 | cond (c:AOpd) (a b:ACode)
 | block (id:Nat) (b:ACode)
 | loop (b:ACode)
 | exit (id:Nat)
 | ret
 deriving Inhabited
inductive AExit where
 | norm
 | exit (id:Nat)
 | ret
def strEq (a b:ByteArray):Bool:=decide (a=b)
def wi (n:Int):Int:=IntKind.i64.wrap n
def zav (s:Nat):Bool:=Nat.ble 1000 s && Nat.blt s 2000
def zbk (l:List Nat):Bool:=l.all fun s => !zav s
def qB:Nat:=6000000000000
def wD:Nat:=3000000000000
def zan (z:Nat):Nat:=match Nat.ble z 2 with | true=>qB | false=>wD
def zja (z:Nat):Nat:=match Nat.ble z 2 with | true=>32 | false=>72
def jY {n z b:Nat} (h:n<=zan z) (hb:b<=zja z):n<=6000000000000∧(n+n / 4+192) * b<=281474976710656∧b * n<=281474976710656:=by
 unfold zan at h;unfold zja at hb;revert h hb;cases Nat.ble z 2<;>intro h hb
 ·have h:n<=3000000000000:=h;have hb:b<=72:=hb;have h1:(n+n / 4+192) * b<=3750000000192 * 72:=BP (by omega) hb;have h2:b * n<=72 * 3000000000000:=BP hb h;omega
 ·have h:n<=6000000000000:=h;have hb:b<=32:=hb;have h1:(n+n / 4+192) * b<=7500000000192 * 32:=BP (by omega) hb;have h2:b * n<=32 * 6000000000000:=BP hb h;omega
def zfm (t:Sc) (op:BinOp) (x y:Value):Option Value :=
 match t,x,y with
 | .int,.int k a,.int k' b =>
  if k=k' then
   match op with
   | .add=>some (.int k (k.wrap (a+b)))
   | .sub=>some (.int k (k.wrap (a - b)))
   | .mul=>some (.int k (k.wrap (a * b)))
   | .quo=>if b=0 then none else some (.int k (k.wrap (a.tdiv b)))
   | .rem=>if b=0 then none else some (.int k (a.tmod b))
   | .eql=>some (.bool (decide (a=b)))
   | .neq=>some (.bool (decide (¬ a=b)))
   | .lss=>some (.bool (decide (a < b)))
   | .leq=>some (.bool (decide (a<=b)))
   | .gtr=>some (.bool (decide (b < a)))
   | .geq=>some (.bool (decide (b<=a)))
   | .shr=>if b=1 then some (.int k (a / 2)) else none
   | _=>none
  else none
 | .str,.string a,.string b =>
  match op with
  | .add=>if a.size+b.size<=9223372036854775807 then some (.string (a++b)) else none
  | .eql=>some (.bool (decide (a=b)))
  | .neq=>some (.bool (decide (¬ a=b)))
  | .lss=>some (.bool (Op.bytesLess a.toList b.toList))
  | .leq=>some (.bool (Op.bytesLess a.toList b.toList || strEq a b))
  | .gtr=>some (.bool (!(Op.bytesLess a.toList b.toList || strEq a b)))
  | .geq=>some (.bool (!Op.bytesLess a.toList b.toList))
  | _=>none
 | .bool,.bool a,.bool b =>
  match op with
  | .eql=>some (.bool (decide (a=b)))
  | .neq=>some (.bool (decide (¬ a=b)))
  | _=>none
 | _,_,_=>none
def unV (op:UnOp) (x:Value):Option Value :=
 match op,x with
 | .neg,.int k n=>some (.int k (k.wrap (0 - n)))
 | .not,.bool b=>some (.bool !b)
 | _,_=>none
def zjm (s:Sc) (x y:AV):Option Bool :=
 match s,x,y with
 | .int,.v (.int k a),.v (.int k' b)=>if k=k' then some (decide (a=b)) else none
 | .bool,.v (.bool a),.v (.bool b)=>some (decide (a=b))
 | .str,.v (.string a),.v (.string b)=>some (decide (a=b))
 | _,_,_=>none
def zhi (cs ds:List AV):List (Nat×Sc)->Option Bool
 | []=>some true
 | (off,s) :: r =>
  match cs[off]?,ds[off]? with
  | some x,some y =>
   match zjm s x y,zhi cs ds r with
   | some a,some b=>some (a && b)
   | _,_=>none
  | _,_=>none
def zbg (cs:List AV) (off:Nat):Option Nat->Option AV
 | none=>match cs[off]? with | some x=>if x.cell1 then some x else none | none=>none
 | some n=>if off+n<=cs.length then some (.agg ((cs.drop off).take n)) else none
def cellsAt (hp:Nat->Option Blk):AV->Option (List AV×Nat)
 | .ep cs off=>some (cs,off)
 | .pv s off=>match hp s with | some (.var cs)=>some (cs,off) | _=>none
 | .pe s z i off=>match hp s with | some (.arr z' es)=>if z=z' then (match es[i]? with | some cs=>some (cs,off) | none=>none) else none | _=>none
 | _=>none
def qP (cs:List AV) (off:Nat) (new:List AV):List AV:=cs.take off++new++cs.drop (off+new.length)
def qn (hp:Nat->Option Blk):AV->Option AV
 | .pe s z i off=>match hp s with | some (.arr z' es)=>if z=z' then (match es[i]? with | some cs=>some (.ep cs off) | none=>none) else none | _=>none
 | .lsl s z off len=>match hp s with | some (.arr z' es)=>if z=z'∧off+len<=es.length then some (.sl z ((es.drop off).take len)) else none | _=>none
 | .own _ _=>none
 | x=>if x.refs.isEmpty then some x else none
def zb {α β:Type} (f:α->Option β):List α->Option (List β)
 | []=>some []
 | x :: r=>match f x,zb f r with | some y,some ys=>some (y :: ys) | _,_=>none
def qm (hp:Nat->Option Blk):AV->Option AV
 | .pv s off=>match hp s with | some (.var cs)=>(match zb (qn hp) cs with | some an=>some (.ep an off) | none=>none) | _=>none
 | .agg cs=>match zb (qn hp) cs with | some an=>some (.agg an) | none=>none
 | x=>qn hp x
def wx (hp:Nat->Option Blk):AV->Option AV
 | .fn f caps=>match zb (qm hp) caps with | some an=>some (.fn f an) | none=>none
 | .tup vs=>match zb (qm hp) vs with | some gP=>some (.tup gP) | none=>none
 | .agg cs=>match zb (qm hp) cs with | some an=>some (.agg an) | none=>none
 | x=>qm hp x
def scrub (s:Nat) (x:AV):AV:=if x.refs.contains s then .bot else x
def ws (s:Nat):Blk->Blk
 | .var cs=>.var (cs.map (scrub s))
 | b=>b
def ASt.scrub (st:ASt) (s:Nat):ASt:={ fr:=fun k=>Ab.scrub s (st.fr k),hp:=fun k=>(st.hp k).map (ws s) }
def frz (s z0:Nat) (es:List (List AV)) (x:AV):AV :=
 match x with
 | .lsl s' z off len=>if s'=s then (if z=z0∧off+len<=es.length then .sl z ((es.drop off).take len) else .bot) else x
 | .pe s' z i off=>if s'=s then (if z=z0 then (match es[i]? with | some cs=>.ep cs off | none=>.bot) else .bot) else x
 | x=>if x.refs.contains s then .bot else x
def frzB (s z0:Nat) (es:List (List AV)):Blk->Blk
 | .var cs=>.var (cs.map (frz s z0 es))
 | b=>b
def ASt.freeze (st:ASt) (s:Nat):ASt :=
 match st.hp s with
 | some (.arr z es)=>{ fr:=fun k=>frz s z es (st.fr k),hp:=fun k=>if k=s then none else (st.hp k).map (frzB s z es) }
 | _=>st
def ASt.freezeL (st:ASt):List Nat->ASt
 | []=>st
 | s :: r=>(st.freeze s).freezeL r
def qT (st:ASt) (parts:List (Nat×AOpd)):List Nat:=AV.refsL (parts.map fun p=>st.ev p.2)
def zhg (zero:List AV):List (Nat×List AV)->Option (List AV)
 | []=>some zero
 | (off,cs) :: r=>if off+cs.length<=zero.length then zhg (qP zero off cs) r else none
def zcv:AV->Option Int
 | .v (.int .i64 n)=>some n
 | _=>none
def bounds (st:ASt) (n:Nat) (lo hi:Option AOpd):Option (Nat×Nat) :=
 match (match hi with | none=>some (n:Int) | some x=>zcv (st.ev x)),(match lo with | none=>some (0:Int) | some x=>zcv (st.ev x)) with
 | some h,some l=>if 0<=l∧l<=h∧h<=n then some (l.toNat,h.toNat) else none
 | _,_=>none
def jz (hp:Nat->Option Blk) (z0:Nat):AV->Option (List (List AV))
 | .v (.slice none 0 0)=>some []
 | .v (.slice (some _) 0 _)=>some []
 | .sl z es=>if z=z0 then some es else none
 | .lsl s z off len=>match hp s with | some (.arr z' es)=>if z=z0∧z'=z0∧off+len<=es.length then some ((es.drop off).take len) else none | _=>none
 | _=>none
def aop (o:AOp) (d:Nat) (st:ASt):Option (AV×ASt) :=
 match o with
 | .mov x=>some (st.ev x,st)
 | .box x=>match (st.ev x).cells,st.hp d with | some cs,none=>some (.pv d 0,st.setH d (some (.var cs))) | _,_=>none
 | .alloc zero=>match st.hp d with | none=>some (.pv d 0,st.setH d (some (.var (zero.map AV.v)))) | _=>none
 | .build zero parts =>
  match zb (fun (p:Nat×Nat×AOpd)=>match (st.ev p.2.2).cells with | some cs=>if cs.length=p.2.1 then some (p.1,cs) else none | none=>none) parts with
  | some ps=>match zhg (zero.map AV.v) ps with | some cs=>some (.agg cs,st) | none=>none
  | none=>none
 | .bslice frz z zero len parts =>
  match st.hp d,zb (fun (p:Nat×AOpd)=>match (st.ev p.2).cells with | some cs=>(match zb (qn st.hp) cs with | some cs=>if cs.length=z then some (p.1,cs) else none | none=>none) | none=>none) parts with
  | none,some ps=>if (frz=true∧zbk (qT st parts)=true)∨qT st parts=[] then some (.lsl d z 0 len,(st.freezeL (qT st parts)).setH d (some (.arr z (ps.foldl (fun es p=>es.set p.1 p.2) (List.replicate len (zero.map AV.v)))))) else none
  | _,_=>none
 | .lit z zero len parts =>
  match zb (fun (p:Nat×AOpd)=>match (st.ev p.2).cells with | some cs=>(match zb (qn fun _=>none) cs with | some cs=>if cs.length=z then some (p.1,cs) else none | none=>none) | none=>none) parts with
  | some ps=>some (.sl z (ps.foldl (fun es p=>es.set p.1 p.2) (List.replicate len (zero.map AV.v))),st)
  | none=>none
 | .load n x=>match cellsAt st.hp (st.ev x) with | some (cs,off)=>(match zbg cs off n with | some y=>some (y,st) | none=>none) | none=>none
 | .store z a x =>
  match (st.ev x).cells with
  | some new =>
   if new.length=z then
    match st.ev a with
    | .pv s off=>match st.hp s with | some (.var cs)=>if off+z<=cs.length then some (.bot,st.setH s (some (.var (qP cs off new)))) else none | _=>none
    | .pe s z0 i off =>
     match st.hp s with
     | some (.arr z' es)=>(match es[i]? with | some cs=>if z0=z'∧off+z<=cs.length∧AV.refsL new=[] then some (.bot,st.setH s (some (.arr z' (es.set i (qP cs off new))))) else none | none=>none)
     | _=>none
    | _=>none
   else none
  | none=>none
 | .chk x=>match st.ev x with
  | .pv s off=>some (.pv s off,st)
  | .pe s z i off=>some (.pe s z i off,st)
  | .ep cs off=>some (.ep cs off,st)
  | .fn f caps=>some (.fn f caps,st)
  | _=>none
 | .bin k op x y=>match st.ev x,st.ev y with | .v a,.v b=>(match zfm k op a b with | some r=>some (.v r,st) | none=>none) | _,_=>none
 | .eqa neg shape x y=>match st.ev x,st.ev y with
  | .agg cs,.agg ds=>(match zhi cs ds shape with | some r=>some (.v (.bool (if neg then !r else r)),st) | none=>none)
  | _,_=>none
 | .eqn sl neg x =>
  if sl=true then
   (match st.ev x with
   | .v (.slice none 0 0)=>some (.v (.bool (!neg)),st)
   | .v (.slice (some _) _ _)=>some (.v (.bool neg),st)
   | .sl _ (_ :: _)=>some (.v (.bool neg),st)
   | _=>none)
  else
   (match st.ev x with
   | .v .nilIface=>some (.v (.bool (!neg)),st)
   | .ifc _ _=>some (.v (.bool neg),st)
   | .v (.iface _ _)=>some (.v (.bool neg),st)
   | _=>none)
 | .un op x=>match st.ev x with | .v a=>(match unV op a with | some r=>some (.v r,st) | none=>none) | _=>none
 | .cvi k x=>match st.ev x with | .v (.int _ n)=>some (.v (.int k (k.wrap n)),st) | _=>none
 | .cvs x=>match st.ev x with | .v (.string s)=>some (.sl 1 (s.data.toList.map fun b=>[AV.v (.int .u8 b.toNat)]),st) | _=>none
 | .ifc t x=>some (.ifc t (st.ev x),st)
 | .mkfn f caps=>some (.fn f (caps.map st.ev),st)
 | .mksl z zero len cap=>match st.hp d,st.ev len,st.ev cap with
  | none,.v (.int .i64 n),.v (.int .i64 c)=>if 0<=n∧n<=c∧c<=zan z then some (.lsl d z 0 n.toNat,st.setH d (some (.arr z (List.replicate n.toNat (zero.map AV.v))))) else none
  | _,_,_=>none
 | .slc z x lo hi =>
  if z=0 then (match st.ev x with | .v (.string s)=>(match bounds st s.size lo hi with | some (l,h)=>some (.v (.string (s.extract l h)),st) | none=>none) | _=>none)
  else
   (match st.ev x with
   | .v (.slice none 0 0)=>(match bounds st 0 lo hi with | some _=>some (.v (.slice none 0 0),st) | none=>none)
   | .sl z' es=>if z=z' then (match bounds st es.length lo hi with | some (l,h)=>some (.sl z ((es.drop l).take (h - l)),st) | none=>none) else none
   | .lsl s z' off len=>if z=z' then (match bounds st len lo hi with | some (l,h)=>some (.lsl s z (off+l) (h - l),st) | none=>none) else none
   | _=>none)
 | .fa off x=>match st.ev x with
  | .pv s o=>some (.pv s (o+off),st)
  | .pe s z i o=>some (.pe s z i (o+off),st)
  | .ep cs o=>some (.ep cs (o+off),st)
  | _=>none
 | .fld off n x=>match st.ev x with | .agg cs=>(match zbg cs off n with | some y=>some (y,st) | none=>none) | _=>none
 | .ia z x i=>match st.ev x,st.ev i with
  | .sl z' es,.v (.int _ n)=>if z=z'∧0<=n then (match es[n.toNat]? with | some cs=>some (.ep cs 0,st) | none=>none) else none
  | .lsl s z' off len,.v (.int _ n)=>if z=z'∧0<=n∧n < len then some (.pe s z (off+n.toNat) 0,st) else none
  | _,_=>none
 | .ix x i=>match st.ev x,st.ev i with
  | .v (.string s),.v (.int _ n)=>if 0<=n then (match s.data[n.toNat]? with | some b=>some (.v (.int .u8 b.toNat),st) | none=>none) else none
  | _,_=>none
 | .ext x i=>match st.ev x with | .tup vs=>(match vs[i]? with | some y=>some (y,st) | none=>none) | _=>none
 | .len str x =>
  if str=true then (match st.ev x with | .v (.string s)=>some (.v (.int .i64 s.size),st) | _=>none)
  else
   (match st.ev x with
   | .v (.slice none 0 0)=>some (.v (.int .i64 0),st)
   | .sl _ es=>some (.v (.int .i64 es.length),st)
   | .lsl _ _ _ n=>some (.v (.int .i64 n),st)
   | _=>none)
 | .app z x y =>
  match jz st.hp z (st.ev y) with
  | some ys =>
   match st.ev x with
   | .v (.slice none 0 0)=>if ys.length<=zan z then (match st.hp d with | none=>some (.lsl d z 0 ys.length,st.setH d (some (.arr z ys))) | some _=>none) else none
   | .lsl s z' 0 n =>
    match st.hp s with
    | some (.arr eY es)=>if zav s=false∧z=z'∧z=eY∧n=es.length∧n+ys.length<=zan z then some (.lsl s z 0 (n+ys.length),(st.scrub s).setH s (some (.arr z (es++ys)))) else none
    | _=>none
   | _=>none
  | none=>none
 | .pick c a b=>match st.ev c with | .v (.bool t)=>some (if t then st.ev a else st.ev b,st) | _=>none
 | .max2 x y=>match st.ev x,st.ev y with | .v (.int k a),.v (.int _ b)=>some (.v (.int k (if b > a then b else a)),st) | _,_=>none
 | .call _ _ _ _ | .calld _ _ _ | .callo _ _ _=>none
end
section
abbrev bO:=List (Nat×List (List AV))
structure Rets where
 ret:Nat->List AV->AV->bO->Prop
 cv:ASt->ASt->Prop
 reto:Nat->List AV->List AV->AV->List AV->Prop
 retn:Nat->List AV->List AV->List AV->Prop
inductive ARes where
 | tmp (t:Nat)
 | cell (t:Nat) (n:Option Nat)
 deriving Inhabited
structure AFunc where
 np:Nat
 nt:Nat
 res:List ARes
 muts:List Nat:=[]
 own:Bool:=false
 body:ACode
 deriving Inhabited
def zj (muts:List Nat) (i:Nat):Bool:=Nat.blt i 1000 && (muts.contains i || muts.contains (1000+i))
def z6 (muts:List Nat) (i:Nat):Nat:=if muts.contains i then 1000+i else 2000+i
def jc (muts:List Nat):List Nat:=muts.filter fun i=>Nat.blt i 1000
def zaM:List Nat->Bool
 | []=>false
 | a :: r=>(a :: r).all fun i=>Nat.blt i 1000
def fh (hp:Nat->Option Blk):AV->Bool
 | .pv s _=>match hp s with | some (.var cs)=>cs.all fun c=>c.refs.isEmpty | _=>false
 | x=>x.refs.isEmpty
def fnOk (hp:Nat->Option Blk):AV->Bool
 | .fn _ caps=>caps.all (fh hp)
 | _=>false
def zaC (muts:List Nat):Nat->List AV->List Nat
 | _,[]=>[]
 | i,x :: r=>(if zj muts i then [] else x.refs)++zaC muts (i+1) r
def zaf (muts:List Nat) (args:List AV) (r:AV) (outs:bO):Bool := !zaM muts || (zaC muts 0 args).isEmpty || (r.plain && outs.all fun p=>p.2.all fun e=>e.all AV.plain1)
def zG (hp:Nat->Option Blk) (muts:List Nat):Nat->List AV->Option (List AV)
 | _,[]=>some []
 | i,x :: r =>
  match (if zj muts i then
    (match x with
     | .lsl s z 0 n=>(match hp s with | some (.arr z' es)=>if z=z'∧n=es.length then some (.own z es) else none | _=>none)
     | _=>none)
   else if muts.isEmpty then wx hp x else if x.refs.isEmpty then some x else if (zaM muts && fnOk hp x)=true then wx hp x else none),zG hp muts (i+1) r with
  | some y,some ys=>some (y :: ys)
  | _,_=>none
def zY (muts:List Nat):Nat->List AV->List Nat
 | _,[]=>[]
 | i,x :: r=>(if zj muts i then (match x with | .lsl s _ _ _=>[s] | _=>[]) else [])++zY muts (i+1) r
def zx (muts:List Nat):Nat->List AV->List Nat
 | _,[]=>[]
 | i,x :: r=>(if (zj muts i && !muts.contains i)=true then (match x with | .lsl s _ _ _=>[s] | _=>[]) else [])++zx muts (i+1) r
def zC:List Nat->Bool
 | []=>true
 | x :: r => !r.contains x && zC r
def ASt.drop (st:ASt) (s:Nat):ASt:=(st.scrub s).setH s none
def ASt.dropL (st:ASt):List Nat->ASt
 | []=>st
 | s :: r=>(st.drop s).dropL r
def yW (args:List AV) (st:ASt):bO->Option ASt
 | []=>some st
 | (i,es) :: r =>
  match args[i]? with
  | some (.lsl s _ _ _)=>(match st.hp s with | some (.arr z bf)=>if es.length=bf.length then yW args (st.setH s (some (.arr z es))) r else none | _=>none)
  | _=>none
def zbR (d:Nat):Nat->List AV->ASt->Option (List AV×ASt)
 | _,[],st=>some ([],st)
 | i,.own z es :: r,st =>
  match st.hp (d+10000 * (i+1)),zbR d (i+1) r (st.setH (d+10000 * (i+1)) (some (.arr z es))) with
  | none,some (ys,aa)=>some (.lsl (d+10000 * (i+1)) z 0 es.length :: ys,aa)
  | _,_=>none
 | i,x :: r,st=>match zbR d (i+1) r st with | some (ys,aa)=>some (x :: ys,aa) | none=>none
def imp (d:Nat) (r:AV) (st:ASt):Option (AV×ASt) :=
 match r with
 | .own z es=>match st.hp d with | none=>some (.lsl d z 0 es.length,st.setH d (some (.arr z es))) | some _=>none
 | .tup vs=>match zbR d 0 vs st with | some (ys,aa)=>some (.tup ys,aa) | none=>none
 | r=>some (r,st)
def zm:AV->Bool
 | .own _ _=>true
 | _=>false
def fV:AV->Bool
 | .own _ _=>false
 | .tup vs=>vs.all fun x => !zm x
 | _=>true
def impE (eat:List Nat) (d:Nat) (r:AV) (st:ASt):Option (AV×ASt) :=
 match eat with
 | []=>imp d r st
 | s :: _ =>
  match r with
  | .own z es=>(match st.hp s with | none=>some (.lsl s z 0 es.length,st.setH s (some (.arr z es))) | some _=>none)
  | .tup (.own z es :: vs)=>(match st.hp s with | none=>if vs.all (fun x => !zm x)=true then some (.tup (.lsl s z 0 es.length :: vs),st.setH s (some (.arr z es))) else none | some _=>none)
  | r=>if fV r=true then some (r,st) else none
def zaY (hp:Nat->Option Blk) (s:Nat):Bool:=match hp s with | some (.arr _ _)=>true | _=>false
def settle (frz:Bool) (refs:List Nat) (r:AV) (st:ASt):Option ASt :=
 if r.plain=true∨refs=[] then some st else if frz=true∧refs.all (zaY st.hp)=true∧zbk refs=true then some (st.freezeL refs) else none
def yP (M:Rets) (frz:Bool) (muts:List Nat) (f:Nat) (args:List AV) (d:Nat) (st:ASt) (v:AV) (aa:ASt):Prop :=
 ∃ ak r outs st1 ai,zG st.hp muts 0 args=some ak∧zC (zY muts 0 args)=true∧M.ret f ak r outs ∧
  settle frz (if muts.isEmpty then AV.refsL args else []) r st=some st1 ∧
  ((zbk (zx muts 0 args) && zaf muts args r outs)=true∧outs.map (·.1)=jc muts∧yW args (st1.dropL (zx muts 0 args)) outs=some ai)∧impE (zx muts 0 args) d r ai=some (v,aa)
def zfl (M:Rets) (f:Nat) (args:List AV) (st:ASt) (v:AV):Prop :=
 ∃ ak,zG st.hp [] 0 args=some ak∧M.ret f ak v []∧(v.plain=true∨AV.refsL args=[])∧fV v=true
def zS (st:ASt):AV->Option AV
 | .lsl s z 0 n=>match st.hp s with | some (.arr z' es)=>if z=z'∧n=es.length∧zav s=false then some (.own z es) else none | _=>none
 | x=>if x.refs.isEmpty then some x else none
def inS (s j:Nat):Nat:=s+1000000 * (j+1)
def jI (s:Nat):Nat->List AV->List AV
 | _,[]=>[]
 | j,x :: r=>(match x with | .own z es=>.lsl (inS s j) z 0 es.length | x=>x) :: jI s (j+1) r
def zbj (s:Nat):Nat->List AV->ASt->Option ASt
 | _,[],st=>some st
 | j,x :: r,st=>match x with
  | .own z es=>(match st.hp (inS s j) with | none=>zbj s (j+1) r (st.setH (inS s j) (some (.arr z es))) | some _=>none)
  | _=>zbj s (j+1) r st
def putObj (s:Nat) (cs:List AV) (st:ASt):Option ASt:=(zbj s 0 cs (st.setH s (some (.var [])))).map fun st=>st.setH s (some (.var (jI s 0 cs)))
def CallO (M:Rets) (f:Nat) (vals:List AV) (d:Nat) (st:ASt) (v:AV) (aa:ASt):Prop :=
 ∃ s eB bo cs r an ai,vals=.pv s 0 :: eB∧st.hp s=some (.var bo)∧zb (zS st) bo=some cs∧(zC (AV.refsL bo)=true∧zbk (AV.refsL bo)=true)∧(∀ x∈eB,x.refs=[]) ∧
  M.reto f cs eB r an∧putObj s an (st.dropL (AV.refsL bo))=some ai∧imp d r ai=some (v,aa)
def zjk (M:Rets) (f:Nat) (vals:List AV) (d:Nat) (st:ASt) (v:AV) (aa:ASt):Prop :=
 ∃ rs cs ai ys,st.hp d=none∧(∀ x∈vals,x.refs=[])∧M.retn f vals rs cs∧putObj d cs st=some ai∧zbR d 1 rs ai=some (ys,aa)∧v=.tup (.pv d 0 :: ys)
def qR (M:Rets) (q:Bool) (o:AOp) (d:Nat) (st:ASt) (v:AV) (aa:ASt):Prop :=
 match o with
 | .call frz muts f args=>if q=true∧muts=[] then aa=st∧zfl M f (args.map st.ev) st v else yP M frz muts f (args.map st.ev) d st v aa
 | .calld frz x args=>match st.ev x with | .fn f caps=>(if q=true then aa=st∧zfl M f (args.map st.ev++caps) st v else yP M frz [] f (args.map st.ev++caps) d st v aa) | _=>False
 | .callo k f args=>match k with | 0=>CallO M f (args.map st.ev) d st v aa | _=>yP M false [] f (args.map st.ev) d st v aa∨zjk M f (args.map st.ev) d st v aa
 | o=>aop o d st=some (v,aa)
def ud:AV:=.v (.tuple #[])
def bP (st:ASt):Option (Nat×Bool)->Option Bool
 | none=>some true
 | some (t,want)=>match st.fr t with | .v (.bool b)=>some (b == want) | .v (.tuple _)=>some false | _=>none
def OpR (M:Rets) (q:Bool) (o:AOper) (st aa:ASt):Prop :=
 (bP st o.grd=some true∧∃ v st1,qR M q o.op (o.dst.getD 0) st v st1∧aa=st1.putO o.dst v) ∨
 (bP st o.grd=some false∧aa=st.putO o.dst ud)
inductive OpsR (M:Rets) (q:Bool):List AOper->ASt->ASt->Prop
 | nil (st:ASt):OpsR M q [] st st
 | cons {o:AOper} {r:List AOper} {st st1 ai:ASt}:OpR M q o st st1->OpsR M q r st1 ai->OpsR M q (o :: r) st ai
 | cv {r:List AOper} {st st1 ai:ASt}:q=false->M.cv st st1->OpsR M q r st1 ai->OpsR M q r st ai
inductive Ex (M:Rets):ACode->ASt->AExit->ASt->Prop
 | skip (st:ASt):Ex M .skip st .norm st
 | region {ops:List AOper} {dr:Bool} {st aa:ASt}:OpsR M dr ops st aa->Ex M (.region ops dr) st .norm aa
 | seqN {a b:ACode} {st st1 ai:ASt} {e:AExit}:Ex M a st .norm st1->Ex M b st1 e ai->Ex M (.seq a b) st e ai
 | seqE {a b:ACode} {st st1:ASt} {e:AExit}:Ex M a st e st1->e≠.norm->Ex M (.seq a b) st e st1
 | cond {c:AOpd} {a b:ACode} {st aa:ASt} {e:AExit} {t:Bool}:st.ev c=.v (.bool t)->Ex M (if t then a else b) st e aa->Ex M (.cond c a b) st e aa
 | blockX {id:Nat} {b:ACode} {st aa:ASt}:Ex M b st (.exit id) aa->Ex M (.block id b) st .norm aa
 | blockO {id:Nat} {b:ACode} {st aa:ASt} {e:AExit}:Ex M b st e aa->e≠.exit id->Ex M (.block id b) st e aa
 | loopN {b:ACode} {st st1 ai:ASt} {e:AExit}:Ex M b st .norm st1->Ex M (.loop b) st1 e ai->Ex M (.loop b) st e ai
 | loopE {b:ACode} {st st1:ASt} {e:AExit}:Ex M b st e st1->e≠.norm->Ex M (.loop b) st e st1
 | exit (id:Nat) (st:ASt):Ex M (.exit id) st (.exit id) st
 | ret (st:ASt):Ex M .ret st .ret st
 | cv {c:ACode} {st st1 aa:ASt} {e:AExit}:M.cv st st1->Ex M c st1 e aa->Ex M c st e aa
 | cvR {c:ACode} {st st1 aa:ASt} {e:AExit}:Ex M c st e st1->M.cv st1 aa->Ex M c st e aa
def qe (muts:List Nat):Nat->List AV->Nat->AV
 | _,[]=>fun _=>.bot
 | i,x :: r=>upd (qe muts (i+1) r) i (match x with | .own z es=>.lsl (z6 muts i) z 0 es.length | x=>x)
def zK (muts:List Nat):Nat->List AV->Nat->Option Blk
 | _,[]=>fun _=>none
 | i,x :: r=>match x with | .own z es=>upd (zK muts (i+1) r) (z6 muts i) (some (.arr z es)) | _=>zK muts (i+1) r
def enter (muts:List Nat) (args:List AV):ASt:={ fr:=qe muts 0 args,hp:=zK muts 0 args }
def q8 (st:ASt):ARes->Option AV
 | .tmp t=>some (st.fr t)
 | .cell t n=>match cellsAt st.hp (st.fr t) with | some (cs,off)=>zbg cs off n | none=>none
def zH:List AV->AV
 | [x]=>x
 | l=>.tup l
def zhX (st:ASt) (muts:List Nat):Option bO :=
 zb (fun i=>match st.hp (1000+i) with | some (.arr _ es)=>some (i,es) | _=>none) (jc muts)
def qo (own:Bool) (muts:List Nat) (res:List ARes) (st:ASt):Option (AV×bO) :=
 match zb (q8 st) res with
 | some rs =>
  if own=true then
   (if zC (AV.refsL rs)=true∧muts=[] then (match zb (zS st) rs with | some ys=>some (zH ys,[]) | none=>none) else none)
  else if muts=[] then (match zb (qm st.hp) rs with | some ys=>some (zH ys,[]) | none=>none)
  else if zC (AV.refsL rs)=true then (match zb (zS st) rs,zhX st muts with | some ys,some outs=>some (zH ys,outs) | _,_=>none)
  else none
 | none=>none
def qi (muts:List Nat):Nat->List AV->Bool
 | _,[]=>true
 | i,x :: r=>(zm x == zj muts i) && qi muts (i+1) r
def BodyR (M:Rets) (fn:AFunc) (args:List AV) (r:AV) (outs:bO):Prop :=
 args.length=fn.np∧qi fn.muts 0 args=true∧∃ e aa,Ex M fn.body (enter fn.muts args) e aa∧(e=.norm∨e=.ret)∧qo fn.own fn.muts fn.res aa=some (r,outs)
def Ok (G:Nat->Option AFunc) (M:Rets):Prop:=∀ f fn args r outs,G f=some fn->BodyR M fn args r outs->M.ret f args r outs
def zcB {r:AV} (h:r.plain=true):fV r=true:=by
 cases r with
 | own z es=>simp[AV.plain] at h
 | tup vs =>simp only[AV.plain] at h;refine Af.2 fun x hx => ?_;have:=Af.1 h x hx;cases x<;>simp_all[AV.plain2,zm]
 | _=>rfl
def ow (d:Nat):∀ (i:Nat) (vs:List AV) (st:ASt),(vs.all fun x => !zm x)=true->zbR d i vs st=some (vs,st)
 | _,[],_,_=>rfl
 | i,x :: r,st,h=>by
  simp only[AR,Ak] at h;have ih:=ow d (i+1) r st h.2;have hx:=h.1;cases x<;>simp_all[zbR,zm]
def kK {r:AV} (h:fV r=true) (d:Nat) (st:ASt):imp d r st=some (r,st):=by
 cases r with
 | tup vs=>simp only[imp];rw[ow d 0 vs st h]
 | own z es=>simp[fV] at h
 | _=>rfl
def imp_plain {r:AV} (h:r.plain=true) (d:Nat) (st:ASt):imp d r st=some (r,st):=kK (zcB h) d st
def zfl.loud {M:Rets} {frz:Bool} {f:Nat} {args:List AV} {d:Nat} {st:ASt} {v:AV} (h:zfl M f args st v):yP M frz [] f args d st v st:=by
 obtain ⟨ak,h1,h2,h3,h4⟩:=h;have hm:∀ (i:Nat) (l:List AV),zY [] i l=[]:=by
  intro i l
  induction l generalizing i with
  | nil=>rfl
  | cons x r ih=>simp[zY,zj,ih (i+1)]
 have he:∀ (i:Nat) (l:List AV),zx [] i l=[]:=by
  intro i l
  induction l generalizing i with
  | nil=>rfl
  | cons x r ih=>simp[zx,zj,ih (i+1)]
 refine ⟨ak,v,[],st,st,h1,by rw[hm];rfl,h2, ?_,⟨by rw[he];rfl,rfl,by rw[he];rfl⟩,by rw[he];exact kK h4 d st⟩;simp only[settle,Bm,if_true];rw[if_pos h3]
def zd {l:List AV} {s:Nat}:s∈AV.refsL l↔∃ x∈l,s∈x.refs:=by
 induction l with
 | nil=>simp[AV.refsL]
 | cons a r ih=>simp[AV.refsL,ih]
def Blk.refs:Blk->List Nat
 | .var cs=>AV.refsL cs
 | .arr _ _=>[]
end
section
structure Seat where
 P:Program
 fns:List (FuncId×Nat)
 tys:List (TypeId×Nat)
 muts:List (Nat×List Nat)
 own:List Nat
 glob:List (Nat×Value):=[]
 more:List Nat:=[]
 hold:World->Prop:=fun _=>True
 holdK:∀ w w':World,(∀ b∈more,b < w.heap.size∧w'.heap[b]? = w.heap[b]?)->hold w->hold w':=by exact fun _ _ _ h=>h
 jg:Nat->Prop:=fun _=>False
 jn:World->Prop:=fun _=>True
 jnK:∀ w w':World,(∀ b,jg b->b < w.heap.size∧w'.heap[b]? = w.heap[b]?)->jn w->jn w':=by exact fun _ _ _ h=>h
def Seat.globB (S:Seat):List Nat:=S.glob.map (·.1)++S.more
def qh (k:Nat):List (Nat×Nat)->Option Nat
 | []=>none
 | (a,b) :: r=>if a=k then some b else qh k r
def zam (k:Nat):List (Nat×List Nat)->List Nat
 | []=>[]
 | (a,b) :: r=>if a=k then b else zam k r
def wH:Value->Bool
 | .bool _ | .int _ _ | .string _ | .nilIface | .nilFunc | .slice none 0 0 | .pointer none=>true
 | _=>false
def qr (S:Seat):Operand->Option AOpd
 | .tmp t=>some (.t t)
 | .const v=>if wH v then some (.c v) else none
 | .func f=>(qh f S.fns).map .f
 | .global _=>none
def zhB (S:Seat) (xs:List Operand):Option (List AOpd):=zb (qr S) xs
def zdd (S:Seat):Option Operand->Option (Option AOpd)
 | none=>some none
 | some x=>(qr S x).map some
def wz (P:Program) (t:TypeId):Option Nat:=(P.info? t).map (·.size)
def cAgg (P:Program) (t:TypeId):Option (Option Nat) :=
 match P.underlying t with
 | some (.struct _) | some (.array _ _)=>match wz P t with | some n=>if 0 < n then some (some n) else none | none=>none
 | some _=>some none
 | none=>none
def ff (P:Program) (t:TypeId):Option (List Value) :=
 match P.info? t with
 | some i=>match i.zero with | some z=>if z.cells.size=i.size∧0 < i.size∧z.cells.toList.all wH=true then some z.cells.toList else none | none=>none
 | none=>none
def cRefs (P:Program):Nat->TypeId->Bool
 | 0,_=>true
 | d+1,t =>
  match P.underlying t with
  | some .bool | some (.int _) | some .string | some (.interface _) | some (.float _)=>false
  | some (.struct fs)=>fs.toList.any fun f=>cRefs P d f.type
  | some (.tuple ts)=>ts.toList.any fun u=>cRefs P d u
  | _=>true
def zdc (P:Program):List Field->Option (List (Nat×Sc))
 | []=>some []
 | f :: r =>
  if f.name = "_" then none else
  match P.underlying f.type,zdc P r with
  | some (.int _),some l=>some ((f.offset,.int) :: l)
  | some .bool,some l=>some ((f.offset,.bool) :: l)
  | some .string,some l=>some ((f.offset,.str) :: l)
  | _,_=>none
def zfQ:Operand->Bool
 | .const .nilIface=>true
 | _=>false
def cBin (S:Seat) (op:BinOp) (t:TypeId) (x y:Operand):Option AOp :=
 match S.P.underlying t,qr S x,qr S y with
 | some (.int _),some x,some y=>(match op with | .add | .sub | .mul | .quo | .rem | .eql | .neq | .lss | .leq | .gtr | .geq | .shr=>some (.bin .int op x y) | _=>none)
 | some .string,some x,some y=>(match op with | .add | .eql | .neq | .lss | .leq | .gtr | .geq=>some (.bin .str op x y) | _=>none)
 | some .bool,some x,some y=>(match op with | .eql | .neq=>some (.bin .bool op x y) | _=>none)
 | some (.struct fs),some x,some y =>
  if S.P.eqGuardType S.P.depth t=false∧S.P.stoodInHeld t=false then
   match op,zdc S.P fs.toList with
   | .eql,some l=>some (.eqa false l x y)
   | .neq,some l=>some (.eqa true l x y)
   | _,_=>none
  else none
 | some (.interface _),some x',some y' =>
  (match op with
  | .eql=>if zfQ y then some (.eqn false false x') else if zfQ x then some (.eqn false false y') else none
  | .neq=>if zfQ y then some (.eqn false true x') else if zfQ x then some (.eqn false true y') else none
  | _=>none)
 | some (.slice _),some x',some _ =>
  (match op,y with
  | .eql,.const (.slice none 0 0)=>some (.eqn true false x')
  | .neq,.const (.slice none 0 0)=>some (.eqn true true x')
  | _,_=>none)
 | _,_,_=>none
def zhC (S:Seat) (s d:TypeId) (x:Operand):Option AOp :=
 match S.P.underlying s,S.P.underlying d,qr S x with
 | some (.int _),some (.int k),some x=>some (.cvi k x)
 | some .string,some (.slice e),some x=>(match S.P.underlying e,wz S.P e with | some (.int .u8),some 1=>some (.cvs x) | _,_=>none)
 | _,_,_=>none
def zdK (P:Program) (t:TypeId):Option (TypeId×Nat) :=
 match P.underlying t with
 | some (.slice e)=>match P.info? e with | some i=>if 0 < i.size∧i.size<=128∧i.bytes<=zja i.size then some (e,i.size) else none | none=>none
 | _=>none
def zdf (P:Program) (t:TypeId) (f:Nat):Option Field :=
 match P.underlying t with
 | some (.struct fs)=>fs[f]?
 | _=>none
def objK:List Nat->Nat
 | [k]=>match Nat.beq k 4000,Nat.beq k 5000 with | true,_=>1 | _,true=>2 | _,_=>0
 | _=>0
def zdL (S:Seat) (c:Call) (ty:TypeId):Option AOp :=
 match c.callee with
 | .value (.func f) =>
  match qh f S.fns,zhB S c.args.toList with
  | some id,some xs=>some (match objK (zam id S.muts) with | 1=>.callo 0 id xs | 2=>.callo 1 id xs | _=>.call (cRefs S.P 8 ty) (zam id S.muts) id xs)
  | _,_=>none
 | .value (.tmp t)=>match zhB S c.args.toList with | some xs=>some (.calld (cRefs S.P 8 ty) (.t t) xs) | none=>none
 | .builtin .len =>
  match c.args.toList,c.argTypes.toList with
  | [x],[t]=>(match S.P.underlying t with | some .string=>(qr S x).map (.len true) | some (.slice _)=>(qr S x).map (.len false) | _=>none)
  | _,_=>none
 | .builtin .append =>
  match c.args.toList,c.argTypes.toList with
  | [x,y],[t,u] =>
   (match zdK S.P t,ff S.P ((zdK S.P t).getD (0,0)).1,qr S x,qr S y with
   | some (_,z),some _,some x,some y=>if t=u then some (.app z x y) else none
   | _,_,_,_=>none)
  | _,_=>none
 | .builtin .max =>
  match c.args.toList with
  | [x,y]=>(match qr S x,qr S y with | some x,some y=>some (.max2 x y) | _,_=>none)
  | _=>none
 | _=>none
def cOp (S:Seat) (o:Op) (ty:TypeId):Option AOp :=
 match o with
 | .move x | .assign x=>(qr S x).map .mov
 | .box _ x=>(qr S x).map .box
 | .alloc e=>(ff S.P e).map .alloc
 | .build t ps =>
  match S.P.underlying t,ff S.P t,zb (fun (p:Nat×Operand)=>match zdf S.P t p.1,qr S p.2 with | some f,some x=>(match wz S.P f.type with | some n=>some (f.offset,n,x) | none=>none) | _,_=>none) ps.toList with
  | some (.struct fs),some zero,some l=>(match zb (fun (f:Field)=>wz S.P f.type) fs.toList with | some _=>some (.build zero l) | none=>none)
  | _,_,_=>none
 | .buildSlice t len ps =>
  match zdK S.P t,ff S.P ((zdK S.P t).getD (0,0)).1,zb (fun (p:Nat×Operand)=>if p.1 < len then (qr S p.2).map fun x=>(p.1,x) else none) ps.toList with
  | some (e,z),some zero,some l=>if len<=4096 then some (.bslice (cRefs S.P 8 e) z zero len l) else none
  | _,_,_=>none
 | .load t x=>match cAgg S.P t,qr S x with | some n,some x=>some (.load n x) | _,_=>none
 | .store t a x=>match wz S.P t,qr S a,qr S x with | some z,some a,some x=>some (.store z a x) | _,_,_=>none
 | .nilCheck x=>(qr S x).map .chk
 | .binOp op t x y _=>cBin S op t x y
 | .unOp op _ x=>match op with | .neg | .not=>(qr S x).map (.un op) | _=>none
 | .convert s d x=>zhC S s d x
 | .makeInterface t x=>match qh t S.tys,qr S x,S.P.underlying t with
  | some k,some x,some (.int _)=>some (.ifc k x)
  | some k,some x,some (.struct _)=>some (.ifc k x)
  | _,_,_=>none
 | .makeFunc (.func f) first caps=>if first.size=0 then (match qh f S.fns,zhB S caps.toList with | some id,some l=>some (.mkfn id l) | _,_=>none) else none
 | .makeSlice t l c=>match zdK S.P t,ff S.P ((zdK S.P t).getD (0,0)).1,qr S l,qr S c with
  | some (_,z),some zero,some l,some c=>some (.mksl z zero l c)
  | _,_,_,_=>none
 | .slice t x lo hi none=>match S.P.underlying t,qr S x,zdd S lo,zdd S hi with
  | some .string,some x,some lo,some hi=>some (.slc 0 x lo hi)
  | some (.slice _),some x,some lo,some hi=>(match zdK S.P t with | some (_,z)=>some (.slc z x lo hi) | none=>none)
  | _,_,_,_=>none
 | .fieldAddr t x f=>match zdf S.P t f,qr S x with
  | some f,some x=>(match wz S.P f.type with | some n=>if 0 < n then some (.fa f.offset x) else none | none=>none)
  | _,_=>none
 | .field t x f=>match zdf S.P t f,qr S x with
  | some f,some x=>(match cAgg S.P f.type with | some n=>some (.fld f.offset n x) | none=>none)
  | _,_=>none
 | .indexAddr t x i=>match zdK S.P t,qr S x,qr S i with | some (_,z),some x,some i=>some (.ia z x i) | _,_,_=>none
 | .index t x i=>match S.P.underlying t,qr S x,qr S i with | some .string,some x,some i=>some (.ix x i) | _,_,_=>none
 | .extract x i=>(qr S x).map (.ext · i)
 | .pick c a b=>match qr S c,qr S a,qr S b with | some c,some a,some b=>some (.pick c a b) | _,_,_=>none
 | .call c=>zdL S c ty
 | _=>none
def dstB (nt:Nat):Option Nat->Bool
 | none=>true
 | some d=>decide (d < nt) && decide (d < 1000)
def noFrz (S:Seat) (lt:Bool):AOp->AOp
 | .bslice _ z zero len ps=>if lt=true then .lit z zero len ps else .bslice false z zero len ps
 | .call frz [] f xs=>if S.own.contains f=true then .call frz [3000] f xs else .call frz [] f xs
 | o=>o
def partOf (ops:Array Oper):Option Nat->Bool
 | none=>false
 | some d=>ops.any fun b=>match b.op with | .build _ ps=>ps.any (fun p=>match p.2 with | .tmp t=>Nat.beq t d | _=>false) | _=>false
def fe (S:Seat) (nt:Nat) (ops:Array Oper) (draw:Bool) (o:Oper):Option AOper :=
 match cOp S o.op o.type,(match o.guard with | none=>some none | some (j,want)=>((ops[j]?).bind (·.dst)).map fun t=>some (t,want)) with
 | some op,some g =>if dstB nt o.dst=true then some { dst:=o.dst,op:=if draw then noFrz S (partOf ops o.dst) op else op,grd:=g,aft:=if draw then (o.after.toList.filter (Region.binds .any)).map (·.on) else [] } else none
 | _,_=>none
def isVoid:AOp->Bool
 | .store _ _ _=>true
 | _=>false
def dstOk (o:AOper):Bool:=match o.dst with | none=>true | some _ => !isVoid o.op
def AOp.opds:AOp->List AOpd
 | .mov x | .box x | .load _ x | .chk x | .eqn _ _ x | .un _ x | .cvi _ x | .cvs x | .ifc _ x | .fa _ x | .fld _ _ x | .ext x _ | .len _ x=>[x]
 | .alloc _=>[]
 | .build _ ps=>ps.map fun p=>p.2.2
 | .bslice _ _ _ _ ps | .lit _ _ _ ps=>ps.map fun p=>p.2
 | .store _ a x=>[a,x]
 | .bin _ _ x y | .eqa _ _ x y | .ia _ x y | .ix x y | .app _ x y | .max2 x y | .mksl _ _ x y=>[x,y]
 | .mkfn _ xs | .call _ _ _ xs | .callo _ _ xs=>xs
 | .slc _ x lo hi=>x :: (lo.toList++hi.toList)
 | .calld _ x xs=>x :: xs
 | .pick c a b=>[c,a,b]
def AOp.kind:AOp->Nat
 | .load _ _ | .calld _ _ _=>1
 | .call _ muts _ _=>(match muts with | []=>1 | [k]=>if Nat.beq k 3000=true then 2 else 4 | _=>4)
 | .alloc _=>2
 | .bslice false _ _ _ _=>2
 | .mksl _ _ _ _=>2
 | .store _ _ _=>3
 | .bslice true _ _ _ _ | .box _ | .app _ _ _ | .callo _ _ _=>4
 | _=>0
def AOper.seen (o:AOper):List Nat:=(o.op.opds.filterMap fun | .t n=>some n | _=>none)++(match o.grd with | some (t,_)=>[t] | none=>[])
def zdJ (d:Option Nat) (l:List Nat):Bool:=match d with | some d=>l.contains d | none=>false
def AOp.isMk:AOp->Bool
 | .mksl _ _ _ _=>true
 | _=>false
def zcs (k i:AOper):Bool :=
 ((k.op.kind == 0 && Nat.blt i.op.kind 4) || (Nat.blt k.op.kind 2 && Nat.blt i.op.kind 3) || (k.op.isMk && i.op.isMk)) && !zdJ k.dst i.seen && !zdJ i.dst k.seen && !zdJ k.dst i.dst.toList
def wU (l:List AOper):List Nat:=(l.foldl (fun acc o=>acc++[o.aft.foldl (fun s j=>s ||| (2 ^ j ||| acc.getD j 0)) 0]) [])
def AOp.isNew:AOp->Bool
 | .call _ muts _ _=>(match muts with | [k]=>Nat.beq k 3000 | _=>false)
 | _=>false
def zhn (l:List AOper):List Nat :=
 match (List.range l.length).find? (fun i=>match l[i]? with | some o=>o.op.isNew | none=>false) with
 | none =>
  let mk:=(List.range l.length).filter fun i=>match l[i]? with | some o=>o.op.isMk | none=>false
  let b:=wU l
  if Nat.blt 1 mk.length=true then
   (List.range l.length).filter (fun j => !mk.contains j && !mk.any fun n=>(b.getD j 0).testBit n)++mk++(List.range l.length).filter (fun j => !mk.contains j && mk.any fun n=>(b.getD j 0).testBit n)
  else List.range l.length
 | some n =>
  let b:=wU l
  (List.range l.length).filter (fun j => !Nat.beq j n && !(b.getD j 0).testBit n)++n :: (List.range l.length).filter fun j=>(b.getD j 0).testBit n
def dOp:AOper:=⟨none,.mov (.t 0),none,[]⟩
def ordered (l:List AOper):List AOper:=(zhn l).map fun i=>l.getD i dOp
def zif (l:List AOper) (b:List Nat) (k i:Nat):Bool :=
 !Nat.beq k i && (match l[k]?,l[i]? with | some p,some o => !p.aft.contains i && ((b.getD i 0).testBit k || zcs p o) | _,_=>false)
def zhW (f:Nat->Nat->Bool):List Nat->Bool
 | []=>true
 | a :: r=>r.all (f a) && zhW f r
def zeT (l:List AOper):Bool :=
 let b:=wU l
 ((List.range l.length).all fun i=>match l[i]? with | some o=>o.aft.all fun j=>Nat.blt j i | none=>false) &&
  ((zhn l).all fun i=>Nat.blt i l.length) && ((List.range l.length).all fun i=>(zhn l).contains i) && zhW (zif l b) (zhn l)
def ya (S:Seat) (nt:Nat):Code->Option ACode
 | .skip=>some .skip
 | .region _ ops draw=>match zb (fe S nt ops draw) ops.toList with | some l=>if l.all dstOk=true∧(draw=false∨(S.P.follows .mixedOrders=true∧zeT l=true)) then some (.region (if draw=true then ordered l else l) draw) else none | none=>none
 | .seq a b=>match ya S nt a,ya S nt b with | some a,some b=>some (.seq a b) | _,_=>none
 | .cond c a b=>match qr S c,ya S nt a,ya S nt b with | some c,some a,some b=>some (.cond c a b) | _,_,_=>none
 | .block id b=>(ya S nt b).map (.block id)
 | .loop b=>(ya S nt b).map .loop
 | .exit id=>some (.exit id)
 | .ret=>some .ret
 | _=>none
def cRes (P:Program):ResultVar->Option ARes
 | .tmp t=>some (.tmp t)
 | .cell t ty=>(cAgg P ty).map (.cell t)
def zaB (S:Seat) (id:Nat) (fn:Func):Option AFunc :=
 match (fn.body.map (ya S fn.ntmps)).join,zb (cRes S.P) fn.results.toList with
 | some body,some res=>if fn.params.size+fn.nfree<=fn.ntmps∧(zam id S.muts=[]∨fn.params.size+fn.nfree<=1000) then some { np:=fn.params.size+fn.nfree,nt:=fn.ntmps,res,muts:=zam id S.muts,own:=S.own.contains id,body } else none
 | _,_=>none
end
section
open Go Go.RowKit
def yq (tm:Array Value) (d k:Nat) (v u:Value) (h:d < tm.size):(tm.setIfInBounds d v).getD k u=if k=d then v else tm.getD k u:=by
 simp only[Aj,Array.getElem?_setIfInBounds];by_cases hk:d=k
 ·subst hk;simp[h]
 ·rw[if_neg hk,if_neg (fun e=>hk e.symm)]
inductive VR0 (S:Seat) (A:Nat->Prop) (w:World):AV->Value->Prop
 | bot (v:Value):VR0 S A w .bot v
 | v (x:Value):VR0 S A w (.v x) x
 | agg {cs:List AV} {vs:Array Value}:cs.length=vs.size->(∀ (i:Nat) (x:AV),cs[i]? = some x->VR0 S A w x (vs.getD i undef))->VR0 S A w (.agg cs) (.agg vs)
 | tup {cs:List AV} {vs:Array Value}:cs.length=vs.size->(∀ (i:Nat) (x:AV),cs[i]? = some x->VR0 S A w x (vs.getD i undef))->VR0 S A w (.tup cs) (.tuple vs)
 | sl {z:Nat} {es:List (List AV)} {b o cap:Nat} {u:Nat->Value}:A b->es.length<=cap->(∀ e∈es,e.length=z)->(∀ j,j < es.length * z->w.cell? ⟨b,o+j,none⟩=some (u j))->(∀ j,j < es.length * z->(u j).oneCell'=true) ->
   (∀ (i:Nat) (e:List AV) (c:Nat) (x:AV),es[i]? = some e->e[c]? = some x->VR0 S A w x (u (i * z+c)))->VR0 S A w (.sl z es) (.slice (some ⟨b,o,none⟩) es.length cap)
 | slnil (z:Nat):VR0 S A w (.sl z []) (.slice none 0 0)
 | slemp (z:Nat) (a:Addr) (cap:Nat):VR0 S A w (.sl z []) (.slice (some a) 0 cap)
 | ep {cs:List AV} {off b o:Nat} {u:Nat->Value}:A b->(∀ j,j < cs.length->w.cell? ⟨b,o+j,none⟩=some (u j))->(∀ (j:Nat) (x:AV),cs[j]? = some x->VR0 S A w x (u j)) ->
   VR0 S A w (.ep cs off) (.pointer (some ⟨b,o+off,none⟩))
 | fn {f g:Nat} {caps:List AV} {vs:Array Value}:qh g S.fns=some f->caps.length=vs.size->(∀ (i:Nat) (x:AV),caps[i]? = some x->VR0 S A w x (vs.getD i undef))->VR0 S A w (.fn f caps) (.func (.func g) #[] vs)
 | ifc {t T:Nat} {x:AV} {v:Value}:qh T S.tys=some t->VR0 S A w x v->VR0 S A w (.ifc t x) (.iface T v)
inductive VR (S:Seat) (A:Nat->Prop) (σ:Nat->Option Nat) (w:World):AV->Value->Prop
 | of0 {x:AV} {v:Value}:VR0 S A w x v->VR S A σ w x v
 | agg {cs:List AV} {vs:Array Value}:cs.length=vs.size->(∀ (i:Nat) (x:AV),cs[i]? = some x->VR S A σ w x (vs.getD i undef))->VR S A σ w (.agg cs) (.agg vs)
 | tup {cs:List AV} {vs:Array Value}:cs.length=vs.size->(∀ (i:Nat) (x:AV),cs[i]? = some x->VR S A σ w x (vs.getD i undef))->VR S A σ w (.tup cs) (.tuple vs)
 | fn {f g:Nat} {caps:List AV} {vs:Array Value}:qh g S.fns=some f->caps.length=vs.size->(∀ (i:Nat) (x:AV),caps[i]? = some x->VR S A σ w x (vs.getD i undef))->VR S A σ w (.fn f caps) (.func (.func g) #[] vs)
 | ifc {t T:Nat} {x:AV} {v:Value}:qh T S.tys=some t->VR S A σ w x v->VR S A σ w (.ifc t x) (.iface T v)
 | pv {s off b:Nat}:σ s=some b->VR S A σ w (.pv s off) (.pointer (some ⟨b,off,none⟩))
 | pe {s z i off b:Nat}:σ s=some b->VR S A σ w (.pe s z i off) (.pointer (some ⟨b,i * z+off,none⟩))
 | lsl {s z off len b o cap:Nat} {cs:Array Value} {el:TypeId}:σ s=some b->len<=cap->(cap≠0∨off=0->o=off * z)->w.heap[b]? = some (.cells cs el (0,0))->(off+cap) * z<=cs.size->cap<=maxLen ->
   VR S A σ w (.lsl s z off len) (.slice (some ⟨b,o,none⟩) len cap)
 | lslnil {s z:Nat}:σ s=none->VR S A σ w (.lsl s z 0 0) (.slice none 0 0)
def VR0.mono {S:Seat} {A A':Nat->Prop} {w w':World} (hA:∀ b,A b->A' b) (hw:∀ b,A b->w'.heap[b]? = w.heap[b]?) {x:AV} {v:Value} (h:VR0 S A w x v):VR0 S A' w' x v:=by
 induction h with
 | bot v=>exact .bot v
 | v x=>exact .v x
 | agg h1 _ ih=>exact .agg h1 ih
 | tup h1 _ ih=>exact .tup h1 ih
 | sl h1 h2 h3 h4 h5 _ ih=>exact .sl (hA _ h1) h2 h3 (fun j hj=>(World.cell?_of_block (a:=⟨_,_,none⟩) (hw _ h1)).trans (h4 j hj)) h5 ih
 | slnil z=>exact .slnil z
 | slemp z a cap=>exact .slemp z a cap
 | ep h1 h2 _ ih=>exact .ep (hA _ h1) (fun j hj=>(World.cell?_of_block (a:=⟨_,_,none⟩) (hw _ h1)).trans (h2 j hj)) ih
 | fn h0 h1 _ ih=>exact .fn h0 h1 ih
 | ifc h0 _ ih=>exact .ifc h0 ih
def dD (σ σ':Nat->Option Nat) (w w':World) (s:Nat):Prop :=
 σ' s=σ s∧∀ b cs el,σ s=some b->w.heap[b]? = some (.cells cs el (0,0))->∃ an,w'.heap[b]? = some (.cells an el (0,0))∧an.size=cs.size
def VR.mono {S:Seat} {A A':Nat->Prop} {σ σ':Nat->Option Nat} {w w':World} (hA:∀ b,A b->A' b) (hw:∀ b,A b->w'.heap[b]? = w.heap[b]?) {x:AV} {v:Value} (h:VR S A σ w x v)
  (hs:∀ s∈x.refs,dD σ σ' w w' s):VR S A' σ' w' x v:=by
 induction h with
 | of0 h=>exact .of0 (h.mono hA hw)
 | agg h1 _ ih=>exact .agg h1 fun i x hx=>ih i x hx fun s hm=>hs s (by rw[AV.refs,zd];exact ⟨x,Ae hx,hm⟩)
 | tup h1 _ ih=>exact .tup h1 fun i x hx=>ih i x hx fun s hm=>hs s (by rw[AV.refs,zd];exact ⟨x,Ae hx,hm⟩)
 | fn h0 h1 _ ih=>exact .fn h0 h1 fun i x hx=>ih i x hx fun s hm=>hs s (by rw[AV.refs,zd];exact ⟨x,Ae hx,hm⟩)
 | ifc h0 _ ih=>exact .ifc h0 (ih fun s hm=>hs s (by rw[AV.refs];exact hm))
 | pv h=>exact .pv ((hs _ (by rw[AV.refs];exact Ah)).1.trans h)
 | pe h=>exact .pe ((hs _ (by rw[AV.refs];exact Ah)).1.trans h)
 | lsl h1 h2 h3 h4 h5 h6 =>obtain ⟨k1,k2⟩:=hs _ (by rw[AV.refs];exact Ah);obtain ⟨an,h7,h8⟩:=k2 _ _ _ h1 h4;exact .lsl (k1.trans h1) h2 h3 h7 (by omega) h6
 | lslnil h=>exact .lslnil ((hs _ (by rw[AV.refs];exact Ah)).1.trans h)
def VR.to0 {S:Seat} {A:Nat->Prop} {σ:Nat->Option Nat} {w:World} {x:AV} {v:Value} (h:VR S A σ w x v) (hr:x.refs=[]):VR0 S A w x v:=by
 induction h with
 | of0 h=>exact h
 | agg h1 _ ih=>exact .agg h1 fun i x hx=>ih i x hx (by
   rw[AV.refs] at hr;exact Ax.2 fun s hs=>by have:=zd.2 ⟨x,Ae hx,hs⟩;rw[hr] at this;cases this)
 | tup h1 _ ih=>exact .tup h1 fun i x hx=>ih i x hx (by
   rw[AV.refs] at hr;exact Ax.2 fun s hs=>by have:=zd.2 ⟨x,Ae hx,hs⟩;rw[hr] at this;cases this)
 | fn h0 h1 _ ih=>exact .fn h0 h1 fun i x hx=>ih i x hx (by
   rw[AV.refs] at hr;exact Ax.2 fun s hs=>by have:=zd.2 ⟨x,Ae hx,hs⟩;rw[hr] at this;cases this)
 | ifc h0 _ ih=>exact .ifc h0 (ih (by rw[AV.refs] at hr;exact hr))
 | pv _=>simp[AV.refs] at hr
 | pe _=>simp[AV.refs] at hr
 | lsl=>simp[AV.refs] at hr
 | lslnil=>simp[AV.refs] at hr
def z7 (S:Seat) (A:Nat->Prop) (w:World) (b?:Option Nat) (z:Nat) (es:List (List AV)) (v:Value):Prop :=
 (∀ e∈es,e.length=z) ∧
 ((b? = none∧es=[]∧v=.slice none 0 0) ∨
  ∃ b cap vs el,b? = some b∧v=.slice (some ⟨b,0,none⟩) es.length cap∧es.length<=cap∧cap<=maxLen∧w.heap[b]? = some (.cells vs el (0,0))∧cap * z<=vs.size∧(∀ j,j < es.length * z->(vs.getD j undef).oneCell'=true) ∧
   ∀ (i:Nat) (e:List AV) (c:Nat) (x:AV),es[i]? = some e->e[c]? = some x->VR0 S A w x (vs.getD (i * z+c) undef))
def wv (S:Seat) (A:Nat->Prop) (σ:Nat->Option Nat) (w:World) (s:Nat):Blk->Prop
 | .var cs=>∃ b vs el,σ s=some b∧w.heap[b]? = some (.cells vs el (0,0))∧cs.length<=vs.size∧∀ (i:Nat) (x:AV),cs[i]? = some x->VR S A σ w x (vs.getD i undef)
 | .arr z es=>(∀ e∈es,e.length=z) ∧
   ((σ s=none∧es=[])∨∃ b vs el,σ s=some b∧w.heap[b]? = some (.cells vs el (0,0))∧es.length * z<=vs.size∧(∀ j,j < es.length * z->(vs.getD j undef).oneCell'=true) ∧
    ∀ (i:Nat) (e:List AV) (c:Nat) (x:AV),es[i]? = some e->e[c]? = some x->VR0 S A w x (vs.getD (i * z+c) undef))
structure KeepO (O:Nat->Prop) (w w':World):Prop where
 os:w'.os=w.os
 tape:w'.tape=w.tape
 output:w'.output=w.output
 size:w.heap.size<=w'.heap.size
 block:∀ k,k < w.heap.size->¬ O k->w'.heap[k]? = w.heap[k]?
def KeepO.refl (O:Nat->Prop) (w:World):KeepO O w w:=⟨rfl,rfl,rfl,AO _,fun _ _ _=>rfl⟩
def KeepO.trans {O:Nat->Prop} {a b c:World} (h:KeepO O a b) (k:KeepO O b c):KeepO O a c :=
 ⟨k.os.trans h.os,k.tape.trans h.tape,k.output.trans h.output,AH h.size k.size,fun i hi hn=>(k.block i (AD hi h.size) hn).trans (h.block i hi hn)⟩
structure Kept where
 b:Option Nat
 z:Nat
 n:Nat
 el:TypeId
 m:Nat
structure Hnd where
 o:Nat->Prop
 k:Nat->Option Kept
 kv:Nat->Option (Nat×TypeId×Nat)
instance : CoeFun Hnd (fun _ => Nat → Prop) := ⟨Hnd.o⟩
instance : Coe Hnd (Nat → Prop) := ⟨Hnd.o⟩
def KpOk (O:Hnd) (σ:Nat->Option Nat) (w:World) (hp:Nat->Option Blk):Prop :=
 (∀ s e,O.k s=some e->zav s=true∧σ s=e.b∧(∃ es,hp s=some (.arr e.z es)∧es.length=e.n)∧∀ b,e.b=some b->∃ cs,w.heap[b]? = some (.cells cs e.el (0,0))∧cs.size=e.m) ∧
 ∀ s b el m,O.kv s=some (b,el,m)->zav s=true∧σ s=some b∧(∃ cs,hp s=some (.var cs))∧∃ cs,w.heap[b]? = some (.cells cs el (0,0))∧cs.size=m
def KpOk.of {O:Hnd} {σ σ':Nat->Option Nat} {w w':World} {hp bZ:Nat->Option Blk} (h:KpOk O σ w hp)
  (hk:∀ s,zav s=true->hp s≠none->dD σ σ' w w' s∧(∀ z es,hp s=some (.arr z es)->∃ aX,bZ s=some (.arr z aX)∧aX.length=es.length)∧∀ cs,hp s=some (.var cs)->∃ an,bZ s=some (.var an)):KpOk O σ' w' bZ:=by
 refine ⟨fun s e he => ?_,fun s b el m he => ?_⟩
 rotate_left
 ·obtain ⟨h1,h2,⟨cs,h3⟩,us,h4,h5⟩:=h.2 s b el m he;obtain ⟨⟨k1,k2⟩,_,k3⟩:=hk s h1 (by rw[h3];simp);obtain ⟨lH,h8,h9⟩:=k2 b us el h2 h4;exact ⟨h1,k1.trans h2,k3 _ h3,lH,h8,by omega⟩
 obtain ⟨h1,h2,⟨es,h3,h4⟩,h5⟩:=h.1 s e he;obtain ⟨⟨k1,k2⟩,k3,_⟩:=hk s h1 (by rw[h3];simp);obtain ⟨aX,k4,k5⟩:=k3 _ _ h3;refine ⟨h1,k1.trans h2,⟨aX,k4,by omega⟩,fun b hb => ?_⟩;obtain ⟨cs,h6,h7⟩:=h5 b hb;obtain ⟨an,h8,h9⟩:=k2 b cs e.el (h2.trans hb) h6;exact ⟨an,h8,by omega⟩
def KpOk.same {O:Hnd} {σ σ':Nat->Option Nat} {w w':World} {hp bZ:Nat->Option Blk} (h:KpOk O σ w hp)
  (hs:∀ s,hp s≠none->dD σ σ' w w' s) (hh:∀ s z es,hp s=some (.arr z es)->zav s=true->bZ s=some (.arr z es)) (hv:∀ s cs,hp s=some (.var cs)->∃ an,bZ s=some (.var an)):KpOk O σ' w' bZ :=
 h.of fun s hf hn=>⟨hs s hn,fun z es he=>⟨es,hh s z es he hf,rfl⟩,hv s⟩
def Inv (S:Seat) (w:World):Prop:=(∀ p∈S.glob,w.cell? ⟨p.1,0,none⟩=some p.2)∧(∀ b∈S.more,b < w.heap.size)∧S.hold w
def Inv.lt {S:Seat} {w:World} (h:Inv S w):∀ b∈S.globB,b < w.heap.size:=by
 intro b hb;rcases Ao.1 hb with hb | hb
 ·obtain ⟨p,hp,rfl⟩:=Ap.1 hb;exact World.block_lt_of_cell? w ⟨p.1,0,none⟩ (h.1 p hp)
 ·exact h.2.1 b hb
def Inv.keep {S:Seat} {O:Nat->Prop} {w w':World} (h:Inv S w) (hO:∀ b∈S.globB,¬ O b) (hk:KeepO O w w'):Inv S w':=by have hb:∀ b∈S.globB,w'.heap[b]? = w.heap[b]?:=fun b hb=>hk.block b (h.lt b hb) (hO b hb);refine ⟨fun p hp => ?_,fun b ay=>AD (h.2.1 b ay) hk.size,S.holdK w w' (fun b ay=>⟨h.2.1 b ay,hb b (Ao.2 (.inr ay))⟩) h.2.2⟩;exact (World.cell?_of_block (a:=⟨p.1,0,none⟩) (hb p.1 (Ao.2 (.inl (Ap.2 ⟨p,hp,rfl⟩))))).trans (h.1 p hp)
structure SRel (S:Seat) (A0:Nat->Prop) (O:Hnd) (w0:World) (A:Nat->Prop) (σ:Nat->Option Nat) (w:World) (st:ASt) (tm:Array Value):Prop where
 fr:∀ k,VR S A σ w (st.fr k) (tm.getD k undef)
 hp:∀ s blk,st.hp s=some blk->wv S A σ w s blk
 dang:∀ k s,s∈(st.fr k).refs->st.hp s≠none
 dangV:∀ s cs,st.hp s=some (.var cs)->∀ s'∈AV.refsL cs,st.hp s'≠none
 dom:∀ s b,σ s=some b->st.hp s≠none∧b < w.heap.size∧¬ A b∧(w0.heap.size<=b∨O b)
 inj:∀ s s' b,σ s=some b->σ s'=some b->s=s'
 Alt:∀ b,A b->b < w.heap.size
 Asub:∀ b,A b->A0 b∨w0.heap.size<=b∨O b
 keep:KeepO O w0 w
 kp:KpOk O σ w st.hp
 Olt:(∀ b,O b->b < w0.heap.size)∧(∀ b∈S.globB,¬ O b)∧Inv S w0
structure Got (S:Seat) (A:Nat->Prop) (σ:Nat->Option Nat) (w:World) (st:ASt) (x:AV) (v:Value):Prop where
 rel:VR S A σ w x v
 dang:∀ s∈x.refs,st.hp s≠none
section
variable {S:Seat} {A0:Nat->Prop} {O:Hnd} {w0:World} {A:Nat->Prop} {σ:Nat->Option Nat} {w:World} {st:ASt} {tm:Array Value}
def SRel.inv (h:SRel S A0 O w0 A σ w st tm):Inv S w:=h.Olt.2.2.keep h.Olt.2.1 h.keep
def SRel.ev (h:SRel S A0 O w0 A σ w st tm) {df:List Deferred} {x:Operand} {a:AOpd} (hc:qr S x=some a):Got S A σ w st (st.ev a) (Act.eval ⟨tm,df⟩ x):=by
 cases x with
 | tmp t=>simp only[qr,Option.some.injEq] at hc;subst hc;exact ⟨h.fr t,h.dang t⟩
 | const v =>
  simp only[qr] at hc;split at hc
  ·cases hc;exact ⟨.of0 (.v v),by simp[ASt.ev,AV.refs]⟩
  ·cases hc
 | func f =>simp only[qr,Ag] at hc;obtain ⟨id,h1,rfl⟩:=hc;exact ⟨.of0 (.fn h1 (by simp) (by simp)),by simp[ASt.ev,AV.refs,AV.refsL]⟩
 | global g=>simp[qr] at hc
def SRel.put (h:SRel S A0 O w0 A σ w st tm) {d:Nat} (hd:d < tm.size) {x:AV} {v:Value} (hg:Got S A σ w st x v):SRel S A0 O w0 A σ w (st.put d x) (tm.setIfInBounds d v):=by
 refine ⟨fun k => ?_,h.hp,fun k s hs => ?_,h.dangV,h.dom,h.inj,h.Alt,h.Asub,h.keep,h.kp,h.Olt⟩
 ·rw[yq _ _ _ _ _ hd];simp only[ASt.put,upd];split
  ·exact hg.rel
  ·exact h.fr k
 ·simp only[ASt.put,upd] at hs ⊢;split at hs
  ·exact hg.dang s hs
  ·exact h.dang k s hs
end
structure JR (S:Seat) (A0 O:Nat->Prop) (w0:World):Prop where
 jn:S.jn w0
 lt:∀ b,S.jg b->b < w0.heap.size
 na:∀ b,S.jg b->¬ A0 b
 no:∀ b,S.jg b->¬ O b
 ng:∀ b∈S.globB,¬ S.jg b
def JR.mono {S:Seat} {A A' O O':Nat->Prop} {w:World} (h:JR S A O w) (h1:∀ b,A' b->A b) (h2:∀ b,O' b->O b):JR S A' O' w :=
 ⟨h.jn,h.lt,fun b hb ha=>h.na b hb (h1 b ha),fun b hb ha=>h.no b hb (h2 b ha),h.ng⟩
def JR.none {S:Seat} (h1:∀ b,¬ S.jg b) (h2:∀ w,S.jn w) (A O:Nat->Prop) (w:World):JR S A O w :=
 ⟨h2 w,fun b hb=>absurd hb (h1 b),fun b hb=>absurd hb (h1 b),fun b hb=>absurd hb (h1 b),fun b _=>h1 b⟩
structure RebR (S:Seat) (w w':World):Prop where
 os:w'.os=w.os
 tape:w'.tape=w.tape
 output:w'.output=w.output
 size:w'.heap.size=w.heap.size
 block:∀ b,¬ S.jg b->w'.heap[b]? = w.heap[b]?
def RebR.refl (S:Seat) (w:World):RebR S w w:=⟨rfl,rfl,rfl,rfl,fun _ _=>rfl⟩
def RebR.trans {S:Seat} {a b c:World} (h:RebR S a b) (k:RebR S b c):RebR S a c :=
 ⟨k.os.trans h.os,k.tape.trans h.tape,k.output.trans h.output,k.size.trans h.size,fun i hi=>(k.block i hi).trans (h.block i hi)⟩
def RebR.keep {S:Seat} {O:Nat->Prop} {a b c:World} (h:RebR S a b) (k:KeepO O b c):KeepO (fun i=>O i∨S.jg i) a c :=
 ⟨k.os.trans h.os,k.tape.trans h.tape,k.output.trans h.output,by rw[← h.size];exact k.size,fun i hi hn=>(k.block i (by rw[h.size];exact hi) fun e=>hn (.inl e)).trans (h.block i fun e=>hn (.inr e))⟩
open Classical in
noncomputable def w3 (S:Seat) (w w':World):World:={ w with heap:=w.heap.mapIdx fun i o=>if S.jg i then (w'.heap[i]?).getD o else o }
section
variable {S:Seat} {A0 O:Nat->Prop} {w0 w w':World}
def zF:(w3 S w w').heap.size=w.heap.size:=by simp[w3]
def jG {b:Nat} (h:¬ S.jg b):(w3 S w w').heap[b]? = w.heap[b]?:=by simp only[w3,Array.getElem?_mapIdx,if_neg h];cases w.heap[b]?<;>rfl
def zev {b:Nat} (h:S.jg b) (h1:b < w.heap.size) (h2:b < w'.heap.size):(w3 S w w').heap[b]? = w'.heap[b]?:=by simp only[w3,Array.getElem?_mapIdx,if_pos h,A8 h1,A8 h2,AE,A5]
def wE:RebR S w (w3 S w w'):=⟨rfl,rfl,rfl,zF,fun _ h=>jG h⟩
def KeepO.reb (h:KeepO (fun b=>O b∨S.jg b) w w'):KeepO O (w3 S w w') w' :=
 ⟨h.os,h.tape,h.output,by rw[zF];exact h.size,fun k hk hO=>by
  rw[zF] at hk;by_cases c:S.jg k
  ·rw[zev c hk (AD hk h.size)]
  ·rw[jG c];exact h.block k hk fun e=>e.elim hO c⟩
def KeepO.rebN (h:KeepO S.jg w w'):KeepO (fun _=>False) (w3 S w w') w' :=
 KeepO.reb ⟨h.os,h.tape,h.output,h.size,fun k hk hO=>h.block k hk fun e=>hO (.inr e)⟩
def JR.after (h:JR S A0 O w) (hk:KeepO (fun _=>False) w w'):S.jn w':=S.jnK w w' (fun b hb=>⟨h.lt b hb,hk.block b (h.lt b hb) fun e=>e⟩) h.jn
end
end
section
open Go Go.RowKit
section
variable {S:Seat} {A:Nat->Prop} {σ:Nat->Option Nat} {w:World}
def VR.v_inv {x y:Value} (h:VR S A σ w (.v x) y):y=x:=by
 cases h with
 | of0 h=>cases h;rfl
def VR.agg_inv {cs:List AV} {y:Value} (h:VR S A σ w (.agg cs) y):∃ vs,y=.agg vs∧cs.length=vs.size∧∀ (i:Nat) (x:AV),cs[i]? = some x->VR S A σ w x (vs.getD i undef):=by
 cases h with
 | of0 h=>cases h with | agg h1 h2=>exact ⟨_,rfl,h1,fun i x hx=>.of0 (h2 i x hx)⟩
 | agg h1 h2=>exact ⟨_,rfl,h1,h2⟩
def VR.tup_inv {cs:List AV} {y:Value} (h:VR S A σ w (.tup cs) y):∃ vs,y=.tuple vs∧cs.length=vs.size∧∀ (i:Nat) (x:AV),cs[i]? = some x->VR S A σ w x (vs.getD i undef):=by
 cases h with
 | of0 h=>cases h with | tup h1 h2=>exact ⟨_,rfl,h1,fun i x hx=>.of0 (h2 i x hx)⟩
 | tup h1 h2=>exact ⟨_,rfl,h1,h2⟩
def VR.fn_inv {f:Nat} {cs:List AV} {y:Value} (h:VR S A σ w (.fn f cs) y):∃ g vs,y=.func (.func g) #[] vs∧qh g S.fns=some f∧cs.length=vs.size∧∀ (i:Nat) (x:AV),cs[i]? = some x->VR S A σ w x (vs.getD i undef):=by
 cases h with
 | of0 h=>cases h with | fn h0 h1 h2=>exact ⟨_,_,rfl,h0,h1,fun i x hx=>.of0 (h2 i x hx)⟩
 | fn h0 h1 h2=>exact ⟨_,_,rfl,h0,h1,h2⟩
def VR.ifc_inv {t:Nat} {x:AV} {y:Value} (h:VR S A σ w (.ifc t x) y):∃ T v,y=.iface T v∧VR S A σ w x v:=by
 cases h with
 | of0 h=>cases h with | ifc h0 h1=>exact ⟨_,_,rfl,.of0 h1⟩
 | ifc h0 h1=>exact ⟨_,_,rfl,h1⟩
def VR.pv_inv {s off:Nat} {y:Value} (h:VR S A σ w (.pv s off) y):∃ b,y=.pointer (some ⟨b,off,none⟩)∧σ s=some b:=by
 cases h with
 | of0 h=>cases h
 | pv h=>exact ⟨_,rfl,h⟩
def VR.pe_inv {s z i off:Nat} {y:Value} (h:VR S A σ w (.pe s z i off) y):∃ b,y=.pointer (some ⟨b,i * z+off,none⟩)∧σ s=some b:=by
 cases h with
 | of0 h=>cases h
 | pe h=>exact ⟨_,rfl,h⟩
def VR.ep_inv {cs:List AV} {off:Nat} {y:Value} (h:VR S A σ w (.ep cs off) y) :
  ∃ b o,∃ u:Nat->Value,y=.pointer (some ⟨b,o+off,none⟩)∧A b∧(∀ j,j < cs.length->w.cell? ⟨b,o+j,none⟩=some (u j))∧(∀ (j:Nat) (x:AV),cs[j]? = some x->VR0 S A w x (u j)):=by
 cases h with
 | of0 h=>cases h with | ep h1 h2 h3=>exact ⟨_,_,_,rfl,h1,h2,h3⟩
def VR.sl_inv {z:Nat} {es:List (List AV)} {y:Value} (h:VR S A σ w (.sl z es) y) :
  (es=[]∧y=.slice none 0 0)∨(∃ b o cap,∃ u:Nat->Value,y=.slice (some ⟨b,o,none⟩) es.length cap∧A b∧es.length<=cap∧(∀ e∈es,e.length=z)∧(∀ j,j < es.length * z->w.cell? ⟨b,o+j,none⟩=some (u j))∧(∀ j,j < es.length * z->(u j).oneCell'=true) ∧
   (∀ (i:Nat) (e:List AV) (c:Nat) (x:AV),es[i]? = some e->e[c]? = some x->VR0 S A w x (u (i * z+c))))∨(es=[]∧∃ a cap,y=.slice (some a) 0 cap):=by
 cases h with
 | of0 h =>
  cases h with
  | sl h1 h2 h3 h4 h5 h6=>exact .inr (.inl ⟨_,_,_,_,rfl,h1,h2,h3,h4,h5,h6⟩)
  | slnil=>exact .inl ⟨rfl,rfl⟩
  | slemp z a cap=>exact .inr (.inr ⟨rfl,_,_,rfl⟩)
def VR.lsl_inv {s z off len:Nat} {y:Value} (h:VR S A σ w (.lsl s z off len) y) :
  (off=0∧len=0∧σ s=none∧y=.slice none 0 0)∨∃ b o cap cs el,y=.slice (some ⟨b,o,none⟩) len cap∧σ s=some b∧len<=cap∧(cap≠0∨off=0->o=off * z)∧w.heap[b]? = some (.cells cs el (0,0)) ∧
   (off+cap) * z<=cs.size∧cap<=maxLen:=by
 cases h with
 | of0 h=>cases h
 | lsl h1 h2 h3 h4 h5 h6=>exact .inr ⟨_,_,_,_,_,rfl,h1,h2,h3,h4,h5,h6⟩
 | lslnil h=>exact .inl ⟨rfl,rfl,h,rfl⟩
def VR.cell1 {x:AV} {y:Value} (h:VR S A σ w x y) (hc:x.cell1=true):y.oneCell'=true:=by
 cases h with
 | of0 h =>
  cases h with
  | v=>cases y<;>simp_all[AV.cell1,Value.oneCell']
  | _=>simp_all[AV.cell1,Value.oneCell']
 | _=>simp_all[AV.cell1,Value.oneCell']
def zeB {y:Value} (h:y.oneCell'=true):y.cells=#[y]:=by cases y<;>simp_all[Value.oneCell',Value.cells]
def VR.cells {x:AV} {y:Value} {cs:List AV} (h:VR S A σ w x y) (hc:x.cells=some cs) :
  cs.length=y.cells.size∧(∀ (i:Nat) (a:AV),cs[i]? = some a->VR S A σ w a (y.cells.getD i undef))∧(∀ v∈y.cells.toList,v.oneCell'=true)∧(∀ s,s∈AV.refsL cs↔s∈x.refs):=by
 by_cases hx:∃ ds,x=.agg ds
 ·obtain ⟨ds,rfl⟩:=hx;obtain ⟨vs,rfl,h1,h2⟩:=h.agg_inv;simp only[AV.cells] at hc;split at hc
  ·rename_i hall;have hc:=Option.some.inj hc;subst hc;refine ⟨h1,h2,fun v hv => ?_,fun s=>by rw[AV.refs]⟩;obtain ⟨i,hi⟩:=Ay.1 hv;have aQ:i < vs.size:=by simpa[Value.cells] using (Aa.1 hi).1
   have aj:ds[i]? = some (ds[i]'(by omega)):=Ac _;have hr:=(h2 i _ aj).cell1 (Af.1 hall _ (Be _));have e:vs.getD i undef=v:=(by rw[Aj];simp only[Value.cells,Bh] at hi;rw[hi];rfl)
   rwa [e] at hr
  ·cases hc
 ·have dV:x.cell1=true∧cs=[x]:=(by cases x<;>simp_all[AV.cells]);obtain ⟨h1,rfl⟩:=dV;have aY:=h.cell1 h1;rw[zeB aY];refine ⟨rfl,fun i a ha => ?_,by simpa using aY,fun s=>by simp[AV.refsL]⟩;cases i with
  | zero=>simp at ha;subst ha;simpa[Array.getD] using h
  | succ i=>simp at ha
end
def yS (S:Seat) (A0:Nat->Prop) (O:Hnd) (w0 w:World) (tm:Array Value) (df:List Deferred) (o:Oper) (v:AV) (aa:ASt):Prop :=
 ∃ n w' A' σ',(execOp (Act.eval ⟨tm,df⟩) o).run S.P w=.ok n w'∧SRel S A0 O w0 A' σ' w' aa tm∧((∃ rv,n=.value rv∧Got S A' σ' w' aa v rv)∨(n=.skip∧v=.bot))
section
variable {S:Seat} {A0:Nat->Prop} {O:Hnd} {w0:World} {A:Nat->Prop} {σ:Nat->Option Nat} {w:World} {st aa:ASt} {tm:Array Value} {df:List Deferred} {o:Oper} {v:AV} {d:Nat}
def yS.same {rv:Value} (h:SRel S A0 O w0 A σ w st tm) (hr:(execOp (Act.eval ⟨tm,df⟩) o).run S.P w=.ok (.value rv) w) (hg:Got S A σ w st v rv):yS S A0 O w0 w tm df o v st :=
 ⟨_,w,A,σ,hr,h,.inl ⟨rv,rfl,hg⟩⟩
def zdG (x:Value):Got S A σ w st (.v x) x:=⟨.of0 (.v x),by simp[AV.refs]⟩
def op_mov (h:SRel S A0 O w0 A σ w st tm) {x:Operand} {a:AOpd} (ho:o.op=.move x∨o.op=.assign x) (hc:qr S x=some a) (ha:aop (.mov a) d st=some (v,aa)):yS S A0 O w0 w tm df o v aa:=by simp only[aop,Option.some.injEq,Prod.mk.injEq] at ha;obtain ⟨rfl,rfl⟩:=ha;exact .same h (rv:=Act.eval ⟨tm,df⟩ x) (by rcases ho with ho | ho<;>simp[execOp,ho]) (h.ev hc)
def op_pick (h:SRel S A0 O w0 A σ w st tm) {c x y:Operand} {c' x' y':AOpd} (ho:o.op=.pick c x y) (h1:qr S c=some c') (h2:qr S x=some x') (h3:qr S y=some y')
  (ha:aop (.pick c' x' y') d st=some (v,aa)):yS S A0 O w0 w tm df o v aa:=by
 have g1:=h.ev (df:=df) h1;simp only[aop] at ha;split at ha
 ·rename_i t ht;simp only[Option.some.injEq,Prod.mk.injEq] at ha;obtain ⟨rfl,rfl⟩:=ha;rw[ht] at g1;have e:=g1.rel.v_inv;refine .same h (rv:=if t then Act.eval ⟨tm,df⟩ x else Act.eval ⟨tm,df⟩ y) (by simp[execOp,ho,e,asBool]) ?_;cases t
  ·exact h.ev h3
  ·exact h.ev h2
 ·cases ha
def op_chk (h:SRel S A0 O w0 A σ w st tm) {x:Operand} {x':AOpd} (ho:o.op=.nilCheck x) (h1:qr S x=some x') (ha:aop (.chk x') d st=some (v,aa)):yS S A0 O w0 w tm df o v aa:=by
 have g1:=h.ev (df:=df) h1;simp only[aop] at ha;split at ha
 ·rename_i s off he;simp only[Option.some.injEq,Prod.mk.injEq] at ha;obtain ⟨rfl,rfl⟩:=ha;rw[he] at g1;obtain ⟨b,e,_⟩:=g1.rel.pv_inv;exact .same h (by simp[execOp,ho,e]) (e ▸ g1)
 ·rename_i s z i off he;simp only[Option.some.injEq,Prod.mk.injEq] at ha;obtain ⟨rfl,rfl⟩:=ha;rw[he] at g1;obtain ⟨b,e,_⟩:=g1.rel.pe_inv;exact .same h (by simp[execOp,ho,e]) (e ▸ g1)
 ·rename_i cs off he;simp only[Option.some.injEq,Prod.mk.injEq] at ha;obtain ⟨rfl,rfl⟩:=ha;rw[he] at g1;obtain ⟨b,o',u,e,_⟩:=g1.rel.ep_inv;exact .same h (by simp[execOp,ho,e]) (e ▸ g1)
 ·rename_i f caps he;simp only[Option.some.injEq,Prod.mk.injEq] at ha;obtain ⟨rfl,rfl⟩:=ha;rw[he] at g1;obtain ⟨g,vs,e,_⟩:=g1.rel.fn_inv;exact .same h (by simp[execOp,ho,e]) (e ▸ g1)
 ·cases ha
def op_ext (h:SRel S A0 O w0 A σ w st tm) {x:Operand} {x':AOpd} {i:Nat} (ho:o.op=.extract x i) (h1:qr S x=some x') (ha:aop (.ext x' i) d st=some (v,aa)):yS S A0 O w0 w tm df o v aa:=by
 have g1:=h.ev (df:=df) h1;simp only[aop] at ha;split at ha
 ·rename_i vs he;split at ha
  ·rename_i y hy;simp only[Option.some.injEq,Prod.mk.injEq] at ha;obtain ⟨rfl,rfl⟩:=ha;rw[he] at g1;obtain ⟨us,e,hl,hv⟩:=g1.rel.tup_inv;have hi:i < us.size:=by have:=(Aa.1 hy).1;omega
   refine .same h (rv:=us.getD i undef) ?_ ⟨hv i _ hy,fun s hs=>g1.dang s (by rw[AV.refs,zd];exact ⟨_,Ae hy,hs⟩)⟩;simp[execOp,ho,e,Instr.extract,Array.getD,hi]
  ·cases ha
 ·cases ha
def op_ifc (h:SRel S A0 O w0 A σ w st tm) {t:TypeId} {x:Operand} {x':AOpd} {k:Nat} (ho:o.op=.makeInterface t x) (h1:qr S x=some x') (hk:qh t S.tys=some k)
  (hu:(∃ i,S.P.underlying t=some (.int i))∨∃ fs,S.P.underlying t=some (.struct fs)) (ha:aop (.ifc k x') d st=some (v,aa)):yS S A0 O w0 w tm df o v aa:=by
 have g1:=h.ev (df:=df) h1;simp only[aop,Option.some.injEq,Prod.mk.injEq] at ha;obtain ⟨rfl,rfl⟩:=ha;refine .same h (rv:=.iface t (Act.eval ⟨tm,df⟩ x)) ?_ ⟨.ifc hk g1.rel,fun s hs=>g1.dang s (by rw[AV.refs] at hs;exact hs)⟩;rcases hu with ⟨i,hu⟩ | ⟨fs,hu⟩<;>simp[execOp,ho,Instr.makeInterface,run_underlying hu]
def op_un (h:SRel S A0 O w0 A σ w st tm) {op:UnOp} {t:TypeId} {x:Operand} {x':AOpd} (ho:o.op=.unOp op t x) (h1:qr S x=some x') (ha:aop (.un op x') d st=some (v,aa)):yS S A0 O w0 w tm df o v aa:=by
 have g1:=h.ev (df:=df) h1;simp only[aop] at ha;split at ha
 ·rename_i y he;rw[he] at g1;have e:=g1.rel.v_inv;split at ha
  ·rename_i r hr;simp only[Option.some.injEq,Prod.mk.injEq] at ha;obtain ⟨rfl,rfl⟩:=ha;refine .same h (rv:=r) ?_ (zdG r);unfold unV at hr;split at hr
   ·cases hr;simp[execOp,ho,e,Op.unary,Op.intArith]
   ·cases hr;simp[execOp,ho,e,Op.unary]
   ·cases hr
  ·cases ha
 ·cases ha
def op_cvi (h:SRel S A0 O w0 A σ w st tm) {s t:TypeId} {k k0:IntKind} {x:Operand} {x':AOpd} (ho:o.op=.convert s t x) (hs:S.P.underlying s=some (.int k0)) (ht:S.P.underlying t=some (.int k)) (h1:qr S x=some x')
  (ha:aop (.cvi k x') d st=some (v,aa)):yS S A0 O w0 w tm df o v aa:=by
 have g1:=h.ev (df:=df) h1;simp only[aop] at ha;split at ha
 ·rename_i k1 n he;rw[he] at g1;have e:=g1.rel.v_inv;simp only[Option.some.injEq,Prod.mk.injEq] at ha;obtain ⟨rfl,rfl⟩:=ha;exact .same h (rv:=.int k (k.wrap n)) (by simp[execOp,ho,e,convert,run_underlying hs,run_underlying ht,Conv.intToInt]) (zdG _)
 ·cases ha
def op_max (h:SRel S A0 O w0 A σ w st tm) {x y:Operand} {x' y':AOpd} {ts:Array TypeId} (ho:o.op=.call { callee:=.builtin .max,args:=#[x,y],argTypes:=ts }) (h1:qr S x=some x') (h2:qr S y=some y')
  (ha:aop (.max2 x' y') d st=some (v,aa)):yS S A0 O w0 w tm df o v aa:=by
 have g1:=h.ev (df:=df) h1;have g2:=h.ev (df:=df) h2;simp only[aop] at ha;split at ha
 ·rename_i k a k' b du dt;rw[du] at g1;rw[dt] at g2;have e1:=g1.rel.v_inv;have e2:=g2.rel.v_inv;simp only[Option.some.injEq,Prod.mk.injEq] at ha;obtain ⟨rfl,rfl⟩:=ha;exact .same h (rv:=.int k (if b > a then b else a)) (by simp[execOp,ho,e1,e2,resolve,invoke,builtin,Builtin.max_,Builtin.max2]) (zdG _)
 ·cases ha
def op_lenS (h:SRel S A0 O w0 A σ w st tm) {t:TypeId} {x:Operand} {x':AOpd} (ho:o.op=.call { callee:=.builtin .len,args:=#[x],argTypes:=#[t] }) (hu:S.P.underlying t=some .string) (h1:qr S x=some x')
  (ha:aop (.len true x') d st=some (v,aa)):yS S A0 O w0 w tm df o v aa:=by
 have g1:=h.ev (df:=df) h1;simp only[aop,if_true] at ha;split at ha
 ·rename_i s he;rw[he] at g1;have e:=g1.rel.v_inv;simp only[Option.some.injEq,Prod.mk.injEq] at ha;obtain ⟨rfl,rfl⟩:=ha;exact .same h (rv:=.int .i64 s.size) (by simp[execOp,ho,e,resolve,invoke,builtin,Builtin.len_,run_underlying hu,goInt]) (zdG _)
 ·cases ha
def op_len (h:SRel S A0 O w0 A σ w st tm) {t e:TypeId} {x:Operand} {x':AOpd} (ho:o.op=.call { callee:=.builtin .len,args:=#[x],argTypes:=#[t] }) (hu:S.P.underlying t=some (.slice e)) (h1:qr S x=some x')
  (ha:aop (.len false x') d st=some (v,aa)):yS S A0 O w0 w tm df o v aa:=by
 have g1:=h.ev (df:=df) h1;simp only[aop,Am,if_false] at ha;have slice:∀ b n c,Act.eval ⟨tm,df⟩ x=.slice b n c->(execOp (Act.eval ⟨tm,df⟩) o).run S.P w=.ok (.value (.int .i64 n)) w:=(by intro b n c e;simp[execOp,ho,e,resolve,invoke,builtin,Builtin.len_,run_underlying hu,goInt]);split at ha
 ·rename_i he;rw[he] at g1;have e:=g1.rel.v_inv;simp only[Option.some.injEq,Prod.mk.injEq] at ha;obtain ⟨rfl,rfl⟩:=ha;exact .same h (slice _ _ _ e) (zdG _)
 ·rename_i z es he;rw[he] at g1;simp only[Option.some.injEq,Prod.mk.injEq] at ha;obtain ⟨rfl,rfl⟩:=ha;rcases g1.rel.sl_inv with ⟨rfl,e⟩ | ⟨b,o',cap,u,e,_⟩ | ⟨rfl,a,cap,e⟩
  ·exact .same h (slice _ _ _ e) (zdG _)
  ·exact .same h (slice _ _ _ e) (zdG _)
  ·exact .same h (slice _ _ _ e) (zdG _)
 ·rename_i s z off n he;rw[he] at g1;simp only[Option.some.injEq,Prod.mk.injEq] at ha;obtain ⟨rfl,rfl⟩:=ha;rcases g1.rel.lsl_inv with ⟨_,rfl,_,e⟩ | ⟨b,o',cap,cs,el,e,_⟩
  ·exact .same h (slice _ _ _ e) (zdG _)
  ·exact .same h (slice _ _ _ e) (zdG _)
 ·cases ha
end
end
section
open Go Go.RowKit
def zir (a b:ByteArray):(a.toList == b.toList)=decide (a=b):=by
 rw[ByteArray.toList_eq,ByteArray.toList_eq];by_cases h:a=b
 ·subst h;simp
 ·have h2:¬ a.data=b.data:=(by intro e;apply h;cases a;cases b;simp_all);simp[h,h2]
def q9 {S:Seat} {A:Nat->Prop} {w:World} {x:AV} {v:Value} (h:VR0 S A w x v):∀ s,s∈x.refs->False:=by
 induction h with
 | agg _ _ ih=>intro s hs;rw[AV.refs,zd] at hs;obtain ⟨x,hx,hs⟩:=hs;obtain ⟨i,hi⟩:=Ay.1 hx;exact ih i x hi s hs
 | tup _ _ ih=>intro s hs;rw[AV.refs,zd] at hs;obtain ⟨x,hx,hs⟩:=hs;obtain ⟨i,hi⟩:=Ay.1 hx;exact ih i x hi s hs
 | fn _ _ _ ih=>intro s hs;rw[AV.refs,zd] at hs;obtain ⟨x,hx,hs⟩:=hs;obtain ⟨i,hi⟩:=Ay.1 hx;exact ih i x hi s hs
 | ifc _ _ ih=>intro s hs;rw[AV.refs] at hs;exact ih s hs
 | _=>intro s hs;simp[AV.refs] at hs
section
variable {S:Seat} {A0:Nat->Prop} {O:Hnd} {w0:World} {A:Nat->Prop} {σ:Nat->Option Nat} {w:World} {st aa:ASt} {tm:Array Value} {df:List Deferred} {o:Oper} {v:AV} {d:Nat}
def ziQ {P:Program} {op:BinOp} {t:TypeId} {x y:Operand} {a b:Value} {r:Value} (h:zfm .int op a b=some r) (w:World) :
  (do eqGuard op t x y a b;binOp op t a b:Sem Value).run P w=.ok r w:=by
 cases a with
 | int k n =>
  cases b with
  | int k' m =>
   simp only[zfm] at h;split at h
   ·rename_i hk;subst hk;cases op<;>simp only[Option.some.injEq,reduceCtorEq] at h
    case eql=>subst h;simp only[eqGuard_at_int,binOp,Op.intCmp];by_cases he:n=m<;>simp[he]
    case neq=>subst h;simp only[eqGuard_at_int,binOp,Op.intCmp];by_cases he:n=m<;>simp[he]
    case quo=>split at h<;>simp_all[eqGuard_at_int,binOp,Op.intDiv]
    case rem=>split at h<;>simp_all[eqGuard_at_int,binOp,Op.intDiv]
    case shr =>
     split at h
     ·rename_i hb;subst hb;cases h;have:=shift_shr k k n 1 (by decide) (by cases k<;>decide);simp[eqGuard_at_int,binOp,this]
     ·cases h
    all_goals (subst h;simp[eqGuard_at_int,binOp,Op.intArith,Op.intCmp])
   ·cases h
  | _=>simp[zfm] at h
 | _=>simp[zfm] at h
def ziP {P:Program} {op:BinOp} {t:TypeId} {x y:Operand} {a b:Value} {r:Value} (h:zfm .str op a b=some r) (w:World) :
  (do eqGuard op t x y a b;binOp op t a b:Sem Value).run P w=.ok r w:=by
 cases a with
 | string n =>
  cases b with
  | string m =>
   simp only[zfm] at h;cases op<;>simp only[Option.some.injEq,reduceCtorEq] at h
   case add =>
    split at h
    ·cases h;have hn:¬ ((n.size+m.size:Nat):Int) > 9223372036854775807:=by omega
     simp only[eqGuard_at_string,binOp,Op.stringOp,IntKind.max_i64];rw[if_neg hn];rfl
    ·cases h
   all_goals (subst h;simp[eqGuard_at_string,binOp,Op.stringOp,zir,strEq])
  | _=>simp[zfm] at h
 | _=>simp[zfm] at h
def zgW {P:Program} {op:BinOp} {t:TypeId} (ht:P.underlying t=some .bool) {x y:Operand} {a b:Value} {r:Value} (h:zfm .bool op a b=some r) (w:World) :
  (do eqGuard op t x y a b;binOp op t a b:Sem Value).run P w=.ok r w:=by
 cases a with
 | bool n =>
  cases b with
  | bool m =>
   have he:(Op.equal t (.bool n) (.bool m)).run P w=.ok (n == m) w:=run_equalIn_bool w 9999 t n m ht;simp only[zfm] at h;cases op<;>simp only[Option.some.injEq,reduceCtorEq] at h
   case eql =>
    subst h;have e:binOp .eql t (.bool n) (.bool m)=(do pure (.bool (← Op.equal t (.bool n) (.bool m)))):=rfl
    simp only[eqGuard_at_bool,e,Sem.run_bind,Sem.run_pure,Result.andThen_ok,he];cases n<;>cases m<;>rfl
   case neq =>
    subst h;have e:binOp .neq t (.bool n) (.bool m)=(do pure (.bool (!(← Op.equal t (.bool n) (.bool m))))):=rfl
    simp only[eqGuard_at_bool,e,Sem.run_bind,Sem.run_pure,Result.andThen_ok,he];cases n<;>cases m<;>rfl
  | _=>simp[zfm] at h
 | _=>simp[zfm] at h
def op_bin (h:SRel S A0 O w0 A σ w st tm) {k:Sc} {op:BinOp} {t u:TypeId} {x y:Operand} {x' y':AOpd} (ho:o.op=.binOp op t x y u) (hk:k=.bool->S.P.underlying t=some .bool)
  (h1:qr S x=some x') (h2:qr S y=some y') (ha:aop (.bin k op x' y') d st=some (v,aa)):yS S A0 O w0 w tm df o v aa:=by
 have g1:=h.ev (df:=df) h1;have g2:=h.ev (df:=df) h2;simp only[aop] at ha;split at ha
 ·rename_i a b du dt;rw[du] at g1;rw[dt] at g2;have e1:=g1.rel.v_inv;have e2:=g2.rel.v_inv;split at ha
  ·rename_i r hr;simp only[Option.some.injEq,Prod.mk.injEq] at ha;obtain ⟨rfl,rfl⟩:=ha;refine .same h (rv:=r) ?_ (zdG r);have key:(do eqGuard op t x y a b;binOp op t a b:Sem Value).run S.P w=.ok r w:=by
    cases k with
    | int=>exact ziQ hr w
    | str=>exact ziP hr w
    | bool=>exact zgW (hk rfl) hr w
   simp only[execOp,ho,e1,e2];rw[Sem.run_bind,key];rfl
  ·cases ha
 ·cases ha
def op_fa (h:SRel S A0 O w0 A σ w st tm) {t:TypeId} {x:Operand} {x':AOpd} {f n:Nat} {fs:Array Field} {fl:Field} (ho:o.op=.fieldAddr t x f) (hu:S.P.underlying t=some (.struct fs)) (hf:fs[f]? = some fl)
  (hs:wz S.P fl.type=some n) (hn:0 < n) (h1:qr S x=some x') (ha:aop (.fa fl.offset x') d st=some (v,aa)):yS S A0 O w0 w tm df o v aa:=by
 have g1:=h.ev (df:=df) h1;obtain ⟨i,hi,rfl⟩:∃ i,S.P.info? fl.type=some i∧i.size=n:=by simpa[wz] using hs
 have key:∀ b off,Act.eval ⟨tm,df⟩ x=.pointer (some ⟨b,off,none⟩)->(execOp (Act.eval ⟨tm,df⟩) o).run S.P w=.ok (.value (.pointer (some ⟨b,off+fl.offset,none⟩))) w:=by
  intro b off e;have hn':¬ i.size=0:=by omega
  simp[execOp,ho,e,Instr.fieldAt,run_underlying hu,hf,Instr.sureAddr,fieldPlace,Go.sizeOf,typeInfo,hi,hn',Addr.add_lit]
 simp only[aop] at ha;split at ha
 ·rename_i s off he;rw[he] at g1;obtain ⟨b,e,hs⟩:=g1.rel.pv_inv;simp only[Option.some.injEq,Prod.mk.injEq] at ha;obtain ⟨rfl,rfl⟩:=ha;exact .same h (key _ _ e) ⟨.pv hs,fun s' ae=>g1.dang s' (by simpa[AV.refs] using ae)⟩
 ·rename_i s z j off he;rw[he] at g1;obtain ⟨b,e,hs⟩:=g1.rel.pe_inv;simp only[Option.some.injEq,Prod.mk.injEq] at ha;obtain ⟨rfl,rfl⟩:=ha;exact .same h (key _ _ e) ⟨by rw[Bv];exact .pe hs,fun s' ae=>g1.dang s' (by simpa[AV.refs] using ae)⟩
 ·rename_i cs off he;rw[he] at g1;obtain ⟨b,o',u,e,h2,h3,h4⟩:=g1.rel.ep_inv;simp only[Option.some.injEq,Prod.mk.injEq] at ha;obtain ⟨rfl,rfl⟩:=ha;exact .same h (key _ _ e) ⟨by rw[Bv];exact .of0 (.ep h2 h3 h4),fun s' ae=>by simp[AV.refs] at ae⟩
 ·cases ha
def zf4 (vs:Array Value) (a n i:Nat) (hi:i < n) (hn:a+n<=vs.size):(vs.extract a (a+n)).getD i undef=vs.getD (a+i) undef:=by simp only[Aj,Array.getElem?_extract];rw[if_pos (by omega)]
def zet {cs:List AV} {off n:Nat} {s:Nat} (h:s∈AV.refsL ((cs.drop off).take n)):s∈AV.refsL cs:=by rw[zd] at h ⊢;obtain ⟨x,hx,hs⟩:=h;exact ⟨x,Bk (BH hx),hs⟩
def zdh {P:Program} {t:TypeId} (h:cAgg P t=some none) (w:World):(isAgg t).run P w=.ok false w:=by
 unfold cAgg at h;split at h
 ·split at h
  ·split at h<;>simp at h
  ·cases h
 ·split at h
  ·split at h<;>simp at h
  ·cases h
 ·rename_i dd h1 h2 h3;unfold isAgg;rw[Sem.run_bind,run_underlying h3];cases dd<;>simp_all
 ·cases h
def zdg {P:Program} {t:TypeId} {n:Nat} (h:cAgg P t=some (some n)) (w:World):(isAgg t).run P w=.ok true w∧∃ i,P.info? t=some i∧i.size=n∧0 < n:=by
 unfold cAgg at h;have fin:∀ m,wz P t=some m->∃ i,P.info? t=some i∧i.size=m:=by intro m hm;simpa[wz] using hm
 split at h
 ·rename_i hu;split at h
  ·rename_i m hm;split at h
   ·cases h;obtain ⟨i,h1,h2⟩:=fin _ hm;exact ⟨by unfold isAgg;rw[Sem.run_bind,run_underlying hu];rfl,i,h1,h2,by assumption⟩
   ·cases h
  ·cases h
 ·rename_i hu;split at h
  ·rename_i m hm;split at h
   ·cases h;obtain ⟨i,h1,h2⟩:=fin _ hm;exact ⟨by unfold isAgg;rw[Sem.run_bind,run_underlying hu];rfl,i,h1,h2,by assumption⟩
   ·cases h
  ·cases h
 ·cases h
 ·cases h
def op_fld (h:SRel S A0 O w0 A σ w st tm) {t:TypeId} {x:Operand} {x':AOpd} {f:Nat} {n:Option Nat} {fs:Array Field} {fl:Field} (ho:o.op=.field t x f) (hu:S.P.underlying t=some (.struct fs)) (hf:fs[f]? = some fl)
  (hs:cAgg S.P fl.type=some n) (h1:qr S x=some x') (ha:aop (.fld fl.offset n x') d st=some (v,aa)):yS S A0 O w0 w tm df o v aa:=by
 have g1:=h.ev (df:=df) h1;simp only[aop] at ha;split at ha
 ·rename_i cs he;rw[he] at g1;obtain ⟨vs,e,hl,hv⟩:=g1.rel.agg_inv;have hd:∀ s∈AV.refsL cs,st.hp s≠none:=fun s hs=>g1.dang s (by rw[AV.refs];exact hs);split at ha
  ·rename_i y hy;simp only[Option.some.injEq,Prod.mk.injEq] at ha;obtain ⟨rfl,rfl⟩:=ha;cases n with
   | none =>
    simp only[zbg] at hy;split at hy
    ·rename_i a hx;split at hy
     ·cases hy;have hi:fl.offset < vs.size:=by have:=(Aa.1 hx).1;omega
      refine .same h (rv:=vs.getD fl.offset undef) ?_ ⟨hv _ _ hx,fun s hs=>hd s (zd.2 ⟨_,Ae hx,hs⟩)⟩;simp[execOp,ho,e,Instr.field,run_underlying hu,hf,asAgg,part,zdh hs,Array.getD,hi]
     ·cases hy
    ·cases hy
   | some n =>
    obtain ⟨k1,i,k2,rfl,k3⟩:=zdg hs w;simp only[zbg] at hy;split at hy
    ·rename_i hle;cases hy;refine .same h (rv:=.agg (vs.extract fl.offset (fl.offset+i.size))) ?_ ⟨.agg (by simp;omega) fun j a hj => ?_,fun s hs=>hd s (zet (by rw[AV.refs] at hs;exact hs))⟩
     ·simp[execOp,ho,e,Instr.field,run_underlying hu,hf,asAgg,part,k1,Go.sizeOf,typeInfo,k2]
     ·have bF:j < i.size:=by have:=(Aa.1 hj).1;simp at this;omega
      rw[zf4 _ _ _ _ bF (by omega)];rw[AQ bF,Bu] at hj;exact hv _ _ hj
    ·cases hy
  ·cases ha
 ·cases ha
def SRel.cellsAt (h:SRel S A0 O w0 A σ w st tm) {x:AV} {rv:Value} (g:Got S A σ w st x rv) {cs:List AV} {off:Nat} (hc:Ab.cellsAt st.hp x=some (cs,off)) :
  ∃ b o0,∃ u:Nat->Value,rv=.pointer (some ⟨b,o0+off,none⟩)∧(∀ j,j < cs.length->w.cell? ⟨b,o0+j,none⟩=some (u j))∧(∀ (j:Nat) (a:AV),cs[j]? = some a->Got S A σ w st a (u j)):=by
 unfold Ab.cellsAt at hc;split at hc
 ·rename_i an iF;simp only[Option.some.injEq,Prod.mk.injEq] at hc;obtain ⟨rfl,rfl⟩:=hc;obtain ⟨b,o',u,e,h2,h3,h4⟩:=g.rel.ep_inv;refine ⟨b,o',u,e,h3,fun j a hj=>⟨.of0 (h4 j a hj),fun s hs => ?_⟩⟩;exfalso;exact q9 (h4 j a hj) s hs
 ·rename_i s iF;split at hc
  ·rename_i an hb;simp only[Option.some.injEq,Prod.mk.injEq] at hc;obtain ⟨rfl,rfl⟩:=hc;obtain ⟨b,e,hs⟩:=g.rel.pv_inv;obtain ⟨b',vs,el,k1,k2,k3,k4⟩:=h.hp _ _ hb;obtain rfl:b'=b:=Option.some.inj (k1.symm.trans hs);refine ⟨b',0,fun j=>vs.getD j undef,by simpa using e,fun j hj => ?_,fun j a hj=>⟨k4 j a hj,fun s' ae=>h.dangV _ _ hb s' (zd.2 ⟨a,Ae hj,ae⟩)⟩⟩;have bF:j < vs.size:=by omega
   simp[World.cell?,k2,bF,Array.getD]
  ·cases hc
 ·rename_i s z i iF;split at hc
  ·rename_i z' es hb;split at hc
   ·rename_i hz;subst hz;split at hc
    ·rename_i an cP;simp only[Option.some.injEq,Prod.mk.injEq] at hc;obtain ⟨rfl,rfl⟩:=hc;obtain ⟨b,e,hs⟩:=g.rel.pe_inv;obtain ⟨k0,⟨k1,rfl⟩ | ⟨b',vs,el,k1,k2,k3,_,k4⟩⟩:=h.hp _ _ hb
     ·simp at cP
     ·obtain rfl:b'=b:=Option.some.inj (k1.symm.trans hs);have hz:an.length=z:=k0 _ (Ae cP);have hi:i < es.length:=(Aa.1 cP).1;refine ⟨b',i * z,fun j=>vs.getD (i * z+j) undef,e,fun j hj => ?_,fun j a hj=>⟨.of0 (k4 i _ j a cP hj),fun s' ae=>(q9 (k4 i _ j a cP hj) s' ae).elim⟩⟩;have bF:i * z+j < vs.size:=(by have:(i+1) * z<=es.length * z:=Az _ hi;rw[AZ] at this;omega);simp[World.cell?,k2,bF,Array.getD]
    ·cases hc
   ·cases hc
  ·cases hc
 ·cases hc
end
end
section
open Go Go.RowKit
section
variable {S:Seat} {A0:Nat->Prop} {O:Hnd} {w0:World} {A:Nat->Prop} {σ:Nat->Option Nat} {w:World} {st aa:ASt} {tm:Array Value} {df:List Deferred} {o:Oper} {v:AV} {d:Nat}
def op_load (h:SRel S A0 O w0 A σ w st tm) {t:TypeId} {x:Operand} {x':AOpd} {n:Option Nat} (ho:o.op=.load t x) (hs:cAgg S.P t=some n) (h1:qr S x=some x')
  (ha:aop (.load n x') d st=some (v,aa)):yS S A0 O w0 w tm df o v aa:=by
 have g1:=h.ev (df:=df) h1;simp only[aop] at ha;split at ha
 ·rename_i cs off he;obtain ⟨b,o0,u,e,h2,h3⟩:=h.cellsAt g1 he;split at ha
  ·rename_i y hy;simp only[Option.some.injEq,Prod.mk.injEq] at ha;obtain ⟨rfl,rfl⟩:=ha;cases n with
   | none =>
    simp only[zbg] at hy;split at hy
    ·rename_i a hx;split at hy
     ·cases hy;have hi:off < cs.length:=(Aa.1 hx).1;refine .same h (rv:=u off) ?_ (h3 _ _ hx);simp[execOp,ho,e,Instr.loadAt,Instr.sureAddr,loadVar,zdh hs,h2 off hi]
     ·cases hy
    ·cases hy
   | some n =>
    obtain ⟨k1,i,k2,rfl,k3⟩:=zdg hs w;simp only[zbg] at hy;split at hy
    ·rename_i hle;cases hy;have hl:=run_loadCells (P:=S.P) w ⟨b,o0+off,none⟩ i.size (fun j=>u (off+j)) (fun j hj=>by rw[Addr.add_lit,Bv];exact h2 (off+j) (by omega));refine .same h (rv:=.agg ((List.range i.size).map fun j=>u (off+j)).toArray) ?_ ⟨.agg (by simp;omega) fun j a hj => ?_,fun s hs => ?_⟩
     ·simp[execOp,ho,e,Instr.loadAt,Instr.sureAddr,loadVar,k1,Go.sizeOf,typeInfo,k2,hl]
     ·have bF:j < i.size:=by have:=(Aa.1 hj).1;simp at this;omega
      rw[AQ bF,Bu] at hj;have:=(h3 _ _ hj).rel;simpa[Array.getD,bF] using this
     ·rw[AV.refs] at hs;have ae:=zet hs;rw[zd] at ae;obtain ⟨a,ha,iM⟩:=ae;obtain ⟨j,hj⟩:=Ay.1 ha;exact (h3 j a hj).dang s iM
    ·cases hy
  ·cases ha
 ·cases ha
def op_ia (h:SRel S A0 O w0 A σ w st tm) {t e:TypeId} {x i:Operand} {x' i':AOpd} {inf:TypeInfo} (ho:o.op=.indexAddr t x i) (hu:S.P.underlying t=some (.slice e)) (hi:S.P.info? e=some inf)
  (h1:qr S x=some x') (h2:qr S i=some i') (ha:aop (.ia inf.size x' i') d st=some (v,aa)):yS S A0 O w0 w tm df o v aa:=by
 have g1:=h.ev (df:=df) h1;have g2:=h.ev (df:=df) h2
 have key:∀ b off len cap k (n:Int),Act.eval ⟨tm,df⟩ x=.slice (some ⟨b,off,none⟩) len cap->Act.eval ⟨tm,df⟩ i=.int k n->0<=n->n < len ->
   (execOp (Act.eval ⟨tm,df⟩) o).run S.P w=.ok (.value (.pointer (some ⟨b,off+n.toNat * inf.size,none⟩))) w:=by
  intro b off len cap k n e1 e2 h3 h4;simp[execOp,ho,e1,e2,Instr.indexAt,asIntOf,run_underlying hu,h3,h4,Go.sizeOf,typeInfo,hi,Addr.add_lit]
 simp only[aop] at ha;split at ha
 ·rename_i z' es k n du dt;rw[du] at g1;rw[dt] at g2;have e2:=g2.rel.v_inv;split at ha
  ·rename_i hz;obtain ⟨rfl,hn⟩:=hz;split at ha
   ·rename_i cs aj;simp only[Option.some.injEq,Prod.mk.injEq] at ha;obtain ⟨rfl,rfl⟩:=ha;have aq:n.toNat < es.length:=(Aa.1 aj).1;rcases g1.rel.sl_inv with ⟨rfl,_⟩ | ⟨b,o',cap,u,e1,k1,k2,k3,k4,_,k5⟩ | ⟨rfl,_⟩
    ·simp at aj
    ·refine .same h (key _ _ _ _ _ _ e1 e2 hn (by omega)) ⟨.of0 ?_,fun s hs=>by simp[AV.refs] at hs⟩;have aM:cs.length=inf.size:=k3 _ (Ae aj);have hb:(n.toNat+1) * inf.size<=es.length * inf.size:=Az _ aq;rw[AZ] at hb
     have:=VR0.ep (S:=S) (A:=A) (w:=w) (cs:=cs) (off:=0) (b:=b) (o:=o'+n.toNat * inf.size) (u:=fun j=>u (n.toNat * inf.size+j)) k1
      (fun j hj=>by rw[Bv];exact k4 _ (by omega)) (fun j a hj=>k5 _ _ _ _ aj hj)
     simpa using this
    ·simp at aj
   ·cases ha
  ·cases ha
 ·rename_i s z' off len k n du dt;rw[du] at g1;rw[dt] at g2;have e2:=g2.rel.v_inv;split at ha
  ·rename_i hz;obtain ⟨rfl,hn,hl⟩:=hz;simp only[Option.some.injEq,Prod.mk.injEq] at ha;obtain ⟨rfl,rfl⟩:=ha;rcases g1.rel.lsl_inv with ⟨_,rfl,_,_⟩ | ⟨b,o',cap,cs,el,e1,k1,k2,k3,_⟩
   ·omega
   ·refine .same h (key _ _ _ _ _ _ e1 e2 hn hl) ⟨?_,fun s' hs=>g1.dang s' (by simpa[AV.refs] using hs)⟩;rw[k3 (.inl (by omega))];have:=VR.pe (S:=S) (A:=A) (w:=w) (s:=s) (z:=inf.size) (i:=off+n.toNat) (off:=0) k1;simpa[AZ] using this
  ·cases ha
 ·cases ha
def op_ix (h:SRel S A0 O w0 A σ w st tm) {t:TypeId} {x i:Operand} {x' i':AOpd} (ho:o.op=.index t x i) (hu:S.P.underlying t=some .string)
  (h1:qr S x=some x') (h2:qr S i=some i') (ha:aop (.ix x' i') d st=some (v,aa)):yS S A0 O w0 w tm df o v aa:=by
 have g1:=h.ev (df:=df) h1;have g2:=h.ev (df:=df) h2;simp only[aop] at ha;split at ha
 ·rename_i s k n du dt;rw[du] at g1;rw[dt] at g2;have e1:=g1.rel.v_inv;have e2:=g2.rel.v_inv;split at ha
  ·rename_i hn;split at ha
   ·rename_i b hb;simp only[Option.some.injEq,Prod.mk.injEq] at ha;obtain ⟨rfl,rfl⟩:=ha;have aq:n.toNat < s.data.size:=(Bb.1 hb).1;have hbv:s.data[n.toNat]=b:=(Bb.1 hb).2;refine .same h (rv:=.int .u8 b.toNat) ?_ (zdG _);have hr:=run_index_string (P:=S.P) w t s k n hu;have mr:n < (s.size:Int):=by have:s.size=s.data.size:=rfl;omega
    rw[dif_pos ⟨hn,mr⟩] at hr;simp only[execOp,ho,e1,e2,Sem.run_bind,hr,Result.andThen_ok,Sem.run_pure];subst hbv;rfl
   ·cases ha
  ·cases ha
 ·cases ha
def ziW {x:AV} {n:Int} (h:zcv x=some n):x=.v (.int .i64 n):=by
 unfold zcv at h;split at h
 ·cases h;rfl
 ·cases h
def zbe (h:SRel S A0 O w0 A σ w st tm) {lo hi:Option Operand} {eu aQ:Option AOpd} (h1:zdd S lo=some eu) (h2:zdd S hi=some aQ) {len cap l r:Nat} (isS:Bool) (hb:bounds st len eu aQ=some (l,r)) (hc:len<=cap) :
  (Instr.sliceBounds isS len cap (lo.map (Act.eval ⟨tm,df⟩)) (hi.map (Act.eval ⟨tm,df⟩)) none).run S.P w=.ok (l,r,cap) w∧l<=r∧r<=len:=by
 have inv:∀ {x:Option Operand} {x':Option AOpd},zdd S x=some x'->(x=none∧x'=none)∨∃ a a',x=some a∧x'=some a'∧qr S a=some a':=by
  intro x x' hx;cases x with
  | none=>simp only[zdd,Option.some.injEq] at hx;exact .inl ⟨rfl,hx.symm⟩
  | some a=>simp only[zdd,Ag] at hx;obtain ⟨a',h3,rfl⟩:=hx;exact .inr ⟨a,a',rfl,rfl,h3⟩
 have val:∀ {a:Operand} {a':AOpd} {n:Int},qr S a=some a'->zcv (st.ev a')=some n->Act.eval ⟨tm,df⟩ a=.int .i64 n:=(by intro a a' n ha hn;have g:=h.ev (df:=df) ha;rw[ziW hn] at g;exact g.rel.v_inv);unfold bounds at hb;rcases inv h1 with ⟨rfl,rfl⟩ | ⟨a,a',rfl,rfl,k1⟩<;>rcases inv h2 with ⟨rfl,rfl⟩ | ⟨c,c',rfl,rfl,k2⟩<;>simp only at hb
 ·split at hb
  ·simp only[Option.some.injEq,Prod.mk.injEq] at hb;obtain ⟨rfl,rfl⟩:=hb;exact ⟨by simp[Instr.sliceBounds],by omega,by omega⟩
  ·cases hb
 ·split at hb
  ·rename_i hn hm e1 e2;split at hb
   ·simp only[Option.some.injEq,Prod.mk.injEq] at hb;obtain ⟨rfl,rfl⟩:=hb;rename_i eW;have nS:=Option.some.inj e2;have:=val k2 e1;refine ⟨?_,by omega,by omega⟩;simp[Instr.sliceBounds,this,run_sliceBound_if];rw[if_pos (by omega)];simp;omega
   ·cases hb
  ·cases hb
 ·split at hb
  ·rename_i hn hm e1 e2;split at hb
   ·simp only[Option.some.injEq,Prod.mk.injEq] at hb;obtain ⟨rfl,rfl⟩:=hb;rename_i eW;have pt:=Option.some.inj e1;have:=val k1 e2;refine ⟨?_,by omega,by omega⟩;simp[Instr.sliceBounds,this,run_sliceBound_if];rw[if_pos (by omega)];simp;omega
   ·cases hb
  ·cases hb
 ·split at hb
  ·rename_i hn hm e1 e2;split at hb
   ·simp only[Option.some.injEq,Prod.mk.injEq] at hb;obtain ⟨rfl,rfl⟩:=hb;rename_i eW;have v1:=val k1 e2;have v2:=val k2 e1;refine ⟨?_,by omega,by omega⟩;simp[Instr.sliceBounds,v1,v2,run_sliceBound_if];rw[if_pos (by omega)];simp;omega
   ·cases hb
  ·cases hb
def op_slcS (h:SRel S A0 O w0 A σ w st tm) {t:TypeId} {x:Operand} {x':AOpd} {lo hi:Option Operand} {eu aQ:Option AOpd} (ho:o.op=.slice t x lo hi none) (hu:S.P.underlying t=some .string)
  (h1:qr S x=some x') (h2:zdd S lo=some eu) (h3:zdd S hi=some aQ) (ha:aop (.slc 0 x' eu aQ) d st=some (v,aa)):yS S A0 O w0 w tm df o v aa:=by
 have g1:=h.ev (df:=df) h1;simp only[aop,if_true] at ha;split at ha
 ·rename_i s he;rw[he] at g1;have e:=g1.rel.v_inv;split at ha
  ·rename_i l r hb;simp only[Option.some.injEq,Prod.mk.injEq] at ha;obtain ⟨rfl,rfl⟩:=ha;obtain ⟨k1,k2,k3⟩:=zbe (df:=df) h h2 h3 false hb (AO _);refine .same h (rv:=.string (s.extract l r)) ?_ (zdG _);simp[execOp,ho,e,Instr.sliceAt,Instr.slice,run_underlying hu,k1]
  ·cases ha
 ·cases ha
def op_slc (h:SRel S A0 O w0 A σ w st tm) {t e:TypeId} {inf:TypeInfo} {x:Operand} {x':AOpd} {lo hi:Option Operand} {eu:Option AOpd} (ho:o.op=.slice t x lo hi none) (hu:S.P.underlying t=some (.slice e)) (aQ:S.P.info? e=some inf) (hz:0 < inf.size)
  (h1:qr S x=some x') (h2:zdd S lo=some eu) {hj:Option AOpd} (h3:zdd S hi=some hj) (ha:aop (.slc inf.size x' eu hj) d st=some (v,aa)):yS S A0 O w0 w tm df o v aa:=by
 have g1:=h.ev (df:=df) h1
 have key:∀ a len cap l r,Act.eval ⟨tm,df⟩ x=.slice a len cap->bounds st len eu hj=some (l,r)->len<=cap ->
   (execOp (Act.eval ⟨tm,df⟩) o).run S.P w=.ok (.value (.slice (if cap=l then a else a.map (·.add (l * inf.size))) (r - l) (cap - l))) w:=by
  intro a len cap l r e1 hb hc;obtain ⟨k1,k2,k3⟩:=zbe (df:=df) h h2 h3 true hb hc;simp[execOp,ho,e1,Instr.sliceAt,Instr.slice,run_underlying hu,k1,Go.sizeOf,typeInfo,aQ]
 have ni:∀ len l r,bounds st len eu hj=some (l,r)->l<=r∧r<=len:=fun len l r hb=>(zbe (df:=df) h h2 h3 true hb (AO _)).2;simp only[aop,if_neg (show ¬ inf.size=0 by omega)] at ha;split at ha
 ·rename_i he;rw[he] at g1;have e1:=g1.rel.v_inv;split at ha
  ·rename_i p hb;obtain ⟨l,r⟩:=p;simp only[Option.some.injEq,Prod.mk.injEq] at ha;obtain ⟨rfl,rfl⟩:=ha;have cX:=ni _ _ _ hb;have hk:=key _ _ _ _ _ e1 hb (AO _);obtain rfl:l=0:=by omega
   obtain rfl:r=0:=by omega
   exact .same h (rv:=.slice none 0 0) (by simpa using hk) (zdG _)
  ·cases ha
 ·rename_i z' es he;split at ha
  ·rename_i lO;subst lO;rw[he] at g1;split at ha
   ·rename_i l r hb;simp only[Option.some.injEq,Prod.mk.injEq] at ha;obtain ⟨rfl,rfl⟩:=ha;have cX:=ni _ _ _ hb;have hlen:((es.drop l).take (r - l)).length=r - l:=by simp;omega
    rcases g1.rel.sl_inv with ⟨rfl,e1⟩ | ⟨b,o',cap,u,e1,k1,k2,k3,k4,k6,k5⟩ | ⟨rfl,a,cap,e1⟩
    ·have hk:=key _ _ _ _ _ e1 (by simpa using hb) (AO _);simp at cX;obtain rfl:l=0:=by omega
     obtain rfl:r=0:=by omega
     exact .same h (rv:=.slice none 0 0) (by simpa using hk) ⟨.of0 (by simpa using VR0.slnil _),by simp[AV.refs]⟩
    ·have hk:=key _ _ _ _ _ e1 hb k2;refine .same h hk ⟨.of0 ?_,by simp[AV.refs]⟩;by_cases aM:cap=l
     ·have hr:r=l:=by omega
      subst hr;subst aM;simp only[if_true,CD,B7];exact VR0.sl (es:=[]) (o:=o') (u:=u) k1 (BG _) (by simp) (by simp) (by simp) (by simp)
     ·rw[if_neg aM];simp only[AE,Addr.add_lit]
      have:=VR0.sl (S:=S) (A:=A) (w:=w) (z:=inf.size) (es:=(es.drop l).take (r - l)) (b:=b) (o:=o'+l * inf.size) (cap:=cap - l) (u:=fun j=>u (l * inf.size+j)) k1 (by omega)
       (fun e he=>k3 e (Bk (BH he)))
       (fun j hj=>by
        rw[hlen] at hj;rw[Bv];refine k4 _ ?_;have h5:(r - l) * inf.size+l * inf.size=r * inf.size:=by rw[← AZ];congr 1;omega
        have h6:r * inf.size<=es.length * inf.size:=Az _ cX.2
        omega)
       (fun j hj=>by
        rw[hlen] at hj;refine k6 _ ?_;have h5:(r - l) * inf.size+l * inf.size=r * inf.size:=by rw[← AZ];congr 1;omega
        have h6:r * inf.size<=es.length * inf.size:=Az _ cX.2
        omega)
       (fun i e c a hi hc=>by
        have aq:i < r - l:=by have:=(Aa.1 hi).1;omega
        rw[AQ aq,Bu] at hi;have:=k5 _ _ _ _ hi hc
        rwa [AZ,Bv] at this)
      rwa [hlen] at this
    ·have hk:=key _ _ _ _ _ e1 (by simpa using hb) (BG _);simp at cX;obtain rfl:l=0:=by omega
     obtain rfl:r=0:=by omega
     refine .same h hk ⟨.of0 ?_,by simp[AV.refs]⟩;simp only[List.drop_nil,List.take_nil,Nat.sub_zero,CD]
     split<;>exact VR0.slemp _ _ _
   ·cases ha
  ·cases ha
 ·rename_i s z' off len he;split at ha
  ·rename_i lO;subst lO;rw[he] at g1;split at ha
   ·rename_i l r hb;simp only[Option.some.injEq,Prod.mk.injEq] at ha;obtain ⟨rfl,rfl⟩:=ha;have cX:=ni _ _ _ hb;have hd:∀ s'∈(AV.lsl s inf.size (off+l) (r - l)).refs,st.hp s'≠none:=fun s' hs=>g1.dang s' (by simpa[AV.refs] using hs);rcases g1.rel.lsl_inv with ⟨rfl,rfl,k0,e1⟩ | ⟨b,o',cap,cs,el,e1,k1,k2,k3,k4,k5,k6⟩
    ·have hk:=key _ _ _ _ _ e1 hb (AO _);obtain rfl:l=0:=by omega
     obtain rfl:r=0:=by omega
     exact .same h (rv:=.slice none 0 0) (by simpa using hk) ⟨.lslnil k0,hd⟩
    ·have hk:=key _ _ _ _ _ e1 hb k2;refine .same h hk ⟨?_,hd⟩;by_cases aM:cap=l
     ·have hr:r=l:=by omega
      subst hr;subst aM;simp only[if_true,CD];refine .lsl k1 (AO _) (fun hx => ?_) k4 (by simpa using k5) (BG _);rcases hx with hx | hx
      ·omega
      ·have h0:off=0:=by omega
       have h1:cap=0:=by omega
       rw[k3 (.inr h0),h0,h1]
     ·rw[if_neg aM];simp only[AE,Addr.add_lit];refine .lsl k1 (by omega) (fun _ => ?_) k4 ?_ (by omega)
      ·rw[k3 (.inl (by omega)),AZ]
      ·rw[show off+l+(cap - l)=off+cap by omega];exact k5
   ·cases ha
  ·cases ha
 ·cases ha
end
end
end Ab
