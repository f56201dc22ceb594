import Derived.RowKit3
import Derived.Laws.OwnMore
import Derived.Laws.StructEq
import Derived.Laws.MakeOwn
import Derived.Laws.Slices
import Derived.Laws.Build
set_option linter.all false
namespace Ab
def Aa:=@List.getElem?_eq_getElem.{0}
def Ac:=@List.getElem?_eq_some_iff.{0}
def Ad:=@List.mem_of_getElem?.{0}
def Ae:=@List.mem_cons_of_mem.{0}
def Af:=@List.all_eq_true.{0}
def Ag:=@Option.map_eq_some_iff.{0,0}
def Ah:=@List.mem_singleton.{0}
def Ai:=@List.mem_cons_self.{0}
def Aj:=@List.mem_append.{0}
def Ak:=@List.map_congr_left.{0,0}
def Al:=@List.mem_map.{0,0}
def Am:=@Bool.and_eq_true
def An:=@Array.getD_eq_getD_getElem?.{0}
def Ao:=@Bool.false_eq_true
def Ap:=@List.length_map.{0,0}
def Aq:=@List.map_cons.{0,0}
def Ar:=@List.mem_cons.{0}
def As:=@List.length_cons.{0}
def Au:=@List.getElem?_map.{0,0}
def Aw:=@List.getElem?_append_left.{0}
def Ax:=@List.length_append.{0}
def Ay:=@List.eq_nil_iff_forall_not_mem.{0}
def Az:=@List.getElem_mem.{0}
def AA:=@List.nil_append.{0}
def AB:=@Nat.mul_le_mul_right
def AD:=@Bool.and_eq_true_iff
def AE:=@List.cons_append.{0}
def AF:=@Nat.le_refl
def AG:=@List.append_assoc.{0}
def AH:=@Int.toNat_natCast
def AJ:=@List.mem_iff_getElem?.{0}
def AK:=@List.length_eq_zero_iff.{0}
def AL:=@List.getD_eq_getElem?_getD.{0}
def AM:=@List.getElem?_append_right.{0}
def AN:=@Option.map_some.{0,0}
def AO:=@Nat.le_trans
def AP:=@Nat.beq_refl
def AQ:=@Nat.lt_of_lt_of_le
def AR:=@Bool.not_eq_true'
def AU:=@Bool.not_true
def AW:=@Nat.zero_add
def AX:=@List.getElem?_cons_succ.{0}
def AY:=@Nat.add_assoc
def AZ:=@List.getElem?_take_of_lt.{0}
def A3:=@List.map_map.{0,0,0}
def A4:=@List.length_take.{0}
def A5:=@List.exists_of_findSome?_eq_some.{0,0}
def A6:=@Nat.add_mul
def A7:=@List.contains_eq_mem.{0}
def A8:=@List.all_cons.{0}
def A9:=@List.mem_range
def Ba:=@Option.getD_some.{0}
def Bb:=@List.length_drop.{0}
def Bc:=@List.map_append.{0,0}
def Be:=@Array.getElem?_eq_getElem.{0}
def Bf:=@List.take_of_length_le.{0}
def Bg:=@List.mem_of_mem_take.{0}
def Bh:=@List.mem_of_mem_drop.{0}
def Bi:=@Array.length_toList.{0}
def Bj:=@List.size_toArray.{0}
def Bk:=@List.map_nil.{0,0}
def Bl:=@List.pairwise_cons.{0}
def Bm:=@List.getElem?_drop.{0}
def Bn:=@Bool.true_and
def Bo:=@List.getElem?_eq_none.{0}
def Bp:=@Array.getElem?_toList.{0}
def Bq:=@List.append_nil.{0}
def Br:=@List.flatMap_eq_nil_iff.{0,0}
def Bs:=@Array.getElem?_eq_some_iff.{0}
def Bt:=@List.flatMap_cons.{0,0}
def Bu:=@List.eq_nil_of_length_eq_zero.{0}
def Bv:=@List.getElem?_zip_eq_some.{0,0}
def Bw:=@List.foldl_cons.{0,0}
def Bx:=@List.getElem_of_mem.{0}
def Bz:=@List.pairwise_append.{0}
def BA:=@List.findSome?_eq_none_iff.{0,0}
def BB:=@List.length_nil.{0}
def BC:=@Nat.add_zero
def BD:=@List.isEmpty_nil.{0}
def BE:=@Nat.zero_le
def BF:=@List.take_add_one.{0}
def BG:=@List.length_filter_le.{0}
def BH:=@List.mem_filter.{0}
def BI:=@List.drop_eq_getElem_cons.{0}
def BJ:=@List.take_length.{0}
def BK:=@List.mem_flatMap.{0,0}
def BL:=@List.take_zero.{0}
def BM:=@List.nodup_cons.{0}
def BN:=@Nat.mul_le_mul
def BO:=@Nat.lt_or_eq_of_le
def BP:=@List.map_replicate.{0,0}
def BQ:=@Bool.not_false
def BR:=@List.length_singleton.{0}
def BS:=@List.findIdx?_eq_some_iff_getElem.{0}
def BT:=@Option.map_none.{0,0}
def BU:=@Bool.or_eq_true
def BV:=@List.length_range
def BW:=@Nat.blt_eq
def BX:=@List.findSome?_cons.{0,0}
def BZ:=@List.isEmpty_iff.{0}
def B0:=@List.any_eq_true.{0}
def B2:=@Int.eq_ofNat_of_zero_le
def B3:=@List.drop_eq_nil_of_le.{0}
def B4:=@List.sum_cons.{0}
def B5:=@Nat.eq_of_beq_eq_true
def B6:=@List.getElem?_set.{0}
def B7:=@List.getElem?_set_ne.{0}
def B8:=@Bool.or_eq_false_iff
def B9:=@Array.getElem?_append_left.{0}
def Ca:=@Nat.mul_comm
def Cb:=@List.map_id'.{0}
def Cc:=@Bool.not_eq_true
def Cd:=@List.eq_of_mem_replicate.{0}
def Ce:=@List.length_zip.{0,0}
def Cf:=@Int.emod_nonneg
def Cg:=@List.getElem?_cons_zero.{0}
def Ch:=@List.take_succ_eq_append_getElem.{0}
def Ci:=@List.getElem?_set_self.{0}
def Cj:=@List.contains_nil.{0}
def Ck:=@Array.size_append.{0}
def Cl:=@Nat.le_of_ble_eq_true
def Cm:=@List.take_append_drop.{0}
def Cn:=@List.length_replicate.{0}
def Co:=@Nat.mod_lt
def Cp:=@Nat.mod_eq_of_lt
def Cq:=@Array.eq_empty_of_size_eq_zero.{0}
def Cr:=@List.any_cons.{0}
def Cs:=@Nat.pow_le_pow_right
def Ct:=@Nat.mul_one
def Cu:=@List.range_succ
def Cw:=@List.length_set.{0}
def Cx:=@Int.natCast_add
def Cy:=@Int.ediv_nonneg
def Cz:=@Int.toNat_of_nonneg
def CA:=@Nat.add_comm
def CB:=@List.any_map.{0,0}
def CC:=@Nat.lt_of_le_of_lt
def CD:=@Nat.add_sub_cancel
def CE:=@List.getElem?_take.{0}
def CF:=@List.filter_append.{0}
def CG:=@Int.tmod_eq_emod_of_nonneg
def CH:=@Int.emod_lt_of_pos
def CI:=@List.rel_of_pairwise_cons.{0}
def CJ:=@List.pairwise_iff_getElem.{0}
def CL:=@List.mem_or_eq_of_mem_set.{0}
def CM:=@List.findIdx?_eq_none_iff.{0}
def CN:=@List.ext_getElem?.{0}
def CO:=@Int.one_mul
def CP:=@Nat.add_right_cancel_iff
def CQ:=@List.map_take.{0,0}
def CR:=@List.map_drop.{0,0}
def CS:=@List.length_erase_of_mem.{0}
def CT:=@Bool.and_true
def CU:=@Bool.and_self
def CV:=@Nat.sub_self
def CW:=@List.length_pos_of_mem.{0}
def CX:=@Int.le_trans
def CY:=@List.take_left'.{0}
def CZ:=@Int.natCast_one
def C0:=@Int.mul_ediv_add_emod
def C1:=@Nat.div_lt_of_lt_mul
def C2:=@List.take_take.{0}
def C3:=@List.range_eq_range'
def C4:=@List.mem_erase_of_ne.{0}
def C5:=@List.mapM_cons.{0,0,0}
def C6:=@List.foldl_nil.{0,0}
def C7:=@Int.add_mul
def C8:=@Bool.false_and
def C9:=@Bool.and_false
def Da:=@Array.mem_toList_iff.{0}
def Db:=@Nat.succ_eq_add_one
def Dc:=@List.length_pos_iff.{0}
def Dd:=@List.flatMap_append.{0,0}
def De:=@Nat.lt_irrefl
def Df:=@Nat.sub_zero
def Dg:=@Nat.min_self
def Dh:=@List.pairwise_map.{0,0}
def Di:=@List.nodup_append.{0}
def Dj:=@List.getElem_drop.{0}
def Dk:=@List.foldl_append.{0,0}
def Dl:=@List.any_eq_false.{0}
def Dm:=@Bool.true_or
def Dn:=@Bool.or_self
open Go
section
inductive AV where
 | bot
 | v (x:Value)
 | sl (z:Nat) (es:List (List AV))
 | own (z:Nat) (es:List (List AV))
 | agg (cs:List AV)
 | tup (vs:List AV)
 | ep (cs:List AV) (off:Nat)
 | pv (s off:Nat)
 | pe (s z i off:Nat)
 | lsl (s z off len:Nat)
 | fn (f:Nat) (caps:List AV)
 | ifc (t:Nat) (x:AV)
 deriving Inhabited
mutual
def AV.refs:AV->List Nat
 | .bot | .v _ | .sl _ _ | .own _ _ | .ep _ _=>[]
 | .agg cs=>AV.refsL cs
 | .tup vs=>AV.refsL vs
 | .pv s _=>[s]
 | .pe s _ _ _=>[s]
 | .lsl s _ _ _=>[s]
 | .fn _ caps=>AV.refsL caps
 | .ifc _ x=>AV.refs x
def AV.refsL:List AV->List Nat
 | []=>[]
 | x :: r=>AV.refs x++AV.refsL r
end
def AV.plain1:AV->Bool
 | .bot | .v _ | .ifc _ (.v _) | .ifc _ .bot=>true
 | _=>false
def AV.plain2:AV->Bool
 | .bot | .v _ | .ifc _ (.v _) | .ifc _ .bot=>true
 | .agg cs=>cs.all AV.plain1
 | _=>false
def AV.plain:AV->Bool
 | .bot | .v _ | .ifc _ (.v _) | .ifc _ .bot=>true
 | .agg cs=>cs.all AV.plain1
 | .tup vs=>vs.all AV.plain2
 | _=>false
def AV.cell1:AV->Bool
 | .v (.agg _) | .v (.tuple _)=>false
 | .v _ | .sl _ _ | .ep _ _ | .pv _ _ | .pe _ _ _ _ | .lsl _ _ _ _ | .fn _ _ | .ifc _ _=>true
 | .bot | .own _ _ | .agg _ | .tup _=>false
def AV.cells:AV->Option (List AV)
 | .agg cs=>if cs.all AV.cell1 then some cs else none
 | x=>if x.cell1 then some [x] else none
inductive Blk where
 | var (cs:List AV)
 | arr (z:Nat) (es:List (List AV))
 deriving Inhabited
structure ASt where
 fr:Nat->AV
 hp:Nat->Option Blk
def upd {α:Type} (f:Nat->α) (k:Nat) (x:α):Nat->α:=fun j=>if j=k then x else f j
def qt {α:Type} (f:Nat->α) (k:Nat) (x:α):upd f k x k=x:=by simp[upd]
def zcj {α:Type} (f:Nat->α) (k:Nat) (x:α) {j:Nat} (h:j≠k):upd f k x j=f j:=by simp[upd,h]
def ASt.put (st:ASt) (d:Nat) (x:AV):ASt:={ st with fr:=upd st.fr d x }
def ASt.setH (st:ASt) (s:Nat) (b:Option Blk):ASt:={ st with hp:=upd st.hp s b }
def ASt.putO (st:ASt) (d:Option Nat) (x:AV):ASt:=match d with | some d=>st.put d x | none=>st
inductive AOpd where
 | t (n:Nat)
 | c (x:Value)
 | f (id:Nat)
 deriving Inhabited
def ASt.ev (st:ASt):AOpd->AV
 | .t n=>st.fr n
 | .c x=>.v x
 | .f id=>.fn id []
inductive Sc where
 | bool | int | str
 deriving DecidableEq,Inhabited
inductive AOp where
 | mov (x:AOpd)
 | box (x:AOpd)
 | alloc (zero:List Value)
 | build (zero:List Value) (parts:List (Nat×Nat×AOpd))
 | bslice (frz:Bool) (z:Nat) (zero:List Value) (len:Nat) (parts:List (Nat×AOpd))
 | lit (z:Nat) (zero:List Value) (len:Nat) (parts:List (Nat×AOpd))
 | load (n:Option Nat) (x:AOpd)
 | store (z:Nat) (a x:AOpd)
 | chk (x:AOpd)
 | bin (k:Sc) (op:BinOp) (x y:AOpd)
 | eqa (neg:Bool) (shape:List (Nat×Sc)) (x y:AOpd)
 | eqn (sl neg:Bool) (x:AOpd)
 | un (op:UnOp) (x:AOpd)
 | cvi (k:IntKind) (x:AOpd)
 | cvs (x:AOpd)
 | ifc (t:Nat) (x:AOpd)
 | mkfn (f:Nat) (caps:List AOpd)
 | mksl (z:Nat) (zero:List Value) (len cap:AOpd)
 | slc (z:Nat) (x:AOpd) (lo hi:Option AOpd)
 | fa (off:Nat) (x:AOpd)
 | fld (off:Nat) (n:Option Nat) (x:AOpd)
 | ia (z:Nat) (x i:AOpd)
 | ix (x i:AOpd)
 | ext (x:AOpd) (i:Nat)
 | len (str:Bool) (x:AOpd)
 | app (z:Nat) (x y:AOpd)
 | call (frz:Bool) (muts:List Nat) (f:Nat) (args:List AOpd)
 | calld (frz:Bool) (x:AOpd) (args:List AOpd)
 | pick (c a b:AOpd)
 | max2 (x y:AOpd)
 deriving Inhabited
structure AOper where
 dst:Option Nat
 op:AOp
 grd:Option (Nat×Bool)
 aft:List Nat
 deriving Inhabited
inductive ACode where
 | skip
 | region (ops:List AOper) (draw:Bool)
 | seq (a b:ACode)
 | cond (c:AOpd) (a b:ACode)
 | block (id:Nat) (b:ACode)
 | loop (b:ACode)
 | exit (id:Nat)
 | ret
 deriving Inhabited
inductive AExit where
 | norm
 | exit (id:Nat)
 | ret
def strEq (a b:ByteArray):Bool:=decide (a=b)
def wi (n:Int):Int:=IntKind.i64.wrap n
def zbI (s:Nat):Bool:=Nat.ble 1000 s && Nat.blt s 2000
def zeH (l:List Nat):Bool:=l.all fun s => !zbI s
def zP:Nat:=6000000000000
def zgP:Nat:=3000000000000
def zbO (z:Nat):Nat:=match Nat.ble z 2 with | true=>zP | false=>zgP
def zkh (z:Nat):Nat:=match Nat.ble z 2 with | true=>32 | false=>72
def j7 {n z b:Nat} (h:n<=zbO z) (hb:b<=zkh z):n<=6000000000000∧(n+n / 4+192) * b<=281474976710656∧b * n<=281474976710656:=by
 unfold zbO at h;unfold zkh at hb;revert h hb;cases Nat.ble z 2<;>intro h hb
 ·have h:n<=3000000000000:=h;have hb:b<=72:=hb;have h1:(n+n / 4+192) * b<=3750000000192 * 72:=BN (by omega) hb;have h2:b * n<=72 * 3000000000000:=BN hb h;omega
 ·have h:n<=6000000000000:=h;have hb:b<=32:=hb;have h1:(n+n / 4+192) * b<=7500000000192 * 32:=BN (by omega) hb;have h2:b * n<=32 * 6000000000000:=BN hb h;omega
def zgz (t:Sc) (op:BinOp) (x y:Value):Option Value :=
 match t,x,y with
 | .int,.int k a,.int k' b =>
  if k=k' then
   match op with
   | .add=>some (.int k (k.wrap (a+b)))
   | .sub=>some (.int k (k.wrap (a - b)))
   | .mul=>some (.int k (k.wrap (a * b)))
   | .quo=>if b=0 then none else some (.int k (k.wrap (a.tdiv b)))
   | .rem=>if b=0 then none else some (.int k (a.tmod b))
   | .eql=>some (.bool (decide (a=b)))
   | .neq=>some (.bool (decide (¬ a=b)))
   | .lss=>some (.bool (decide (a < b)))
   | .leq=>some (.bool (decide (a<=b)))
   | .gtr=>some (.bool (decide (b < a)))
   | .geq=>some (.bool (decide (b<=a)))
   | .shr=>if b=1 then some (.int k (a / 2)) else none
   | _=>none
  else none
 | .str,.string a,.string b =>
  match op with
  | .add=>if a.size+b.size<=9223372036854775807 then some (.string (a++b)) else none
  | .eql=>some (.bool (decide (a=b)))
  | .neq=>some (.bool (decide (¬ a=b)))
  | .lss=>some (.bool (Op.bytesLess a.toList b.toList))
  | .leq=>some (.bool (Op.bytesLess a.toList b.toList || strEq a b))
  | .gtr=>some (.bool (!(Op.bytesLess a.toList b.toList || strEq a b)))
  | .geq=>some (.bool (!Op.bytesLess a.toList b.toList))
  | _=>none
 | .bool,.bool a,.bool b =>
  match op with
  | .eql=>some (.bool (decide (a=b)))
  | .neq=>some (.bool (decide (¬ a=b)))
  | _=>none
 | _,_,_=>none
def unV (op:UnOp) (x:Value):Option Value :=
 match op,x with
 | .neg,.int k n=>some (.int k (k.wrap (0 - n)))
 | .not,.bool b=>some (.bool !b)
 | _,_=>none
def zks (s:Sc) (x y:AV):Option Bool :=
 match s,x,y with
 | .int,.v (.int k a),.v (.int k' b)=>if k=k' then some (decide (a=b)) else none
 | .bool,.v (.bool a),.v (.bool b)=>some (decide (a=b))
 | .str,.v (.string a),.v (.string b)=>some (decide (a=b))
 | _,_,_=>none
def ziq (cs ds:List AV):List (Nat×Sc)->Option Bool
 | []=>some true
 | (off,s) :: r =>
  match cs[off]?,ds[off]? with
  | some x,some y =>
   match zks s x y,ziq cs ds r with
   | some a,some b=>some (a && b)
   | _,_=>none
  | _,_=>none
def zbS (cs:List AV) (off:Nat):Option Nat->Option AV
 | none=>match cs[off]? with | some x=>if x.cell1 then some x else none | none=>none
 | some n=>if off+n<=cs.length then some (.agg ((cs.drop off).take n)) else none
def cellsAt (hp:Nat->Option Blk):AV->Option (List AV×Nat)
 | .ep cs off=>some (cs,off)
 | .pv s off=>match hp s with | some (.var cs)=>some (cs,off) | _=>none
 | .pe s z i off=>match hp s with | some (.arr z' es)=>if z=z' then (match es[i]? with | some cs=>some (cs,off) | none=>none) else none | _=>none
 | _=>none
def qO (cs:List AV) (off:Nat) (new:List AV):List AV:=cs.take off++new++cs.drop (off+new.length)
def qj (hp:Nat->Option Blk):AV->Option AV
 | .pe s z i off=>match hp s with | some (.arr z' es)=>if z=z' then (match es[i]? with | some cs=>some (.ep cs off) | none=>none) else none | _=>none
 | .lsl s z off len=>match hp s with | some (.arr z' es)=>if z=z'∧off+len<=es.length then some (.sl z ((es.drop off).take len)) else none | _=>none
 | .own _ _=>none
 | x=>if x.refs.isEmpty then some x else none
def zd {α β:Type} (f:α->Option β):List α->Option (List β)
 | []=>some []
 | x :: r=>match f x,zd f r with | some y,some ys=>some (y :: ys) | _,_=>none
def qi (hp:Nat->Option Blk):AV->Option AV
 | .pv s off=>match hp s with | some (.var cs)=>(match zd (qj hp) cs with | some aE=>some (.ep aE off) | none=>none) | _=>none
 | .agg cs=>match zd (qj hp) cs with | some aE=>some (.agg aE) | none=>none
 | x=>qj hp x
def w8 (hp:Nat->Option Blk):AV->Option AV
 | .fn f caps=>match zd (qi hp) caps with | some aE=>some (.fn f aE) | none=>none
 | .tup vs=>match zd (qi hp) vs with | some iU=>some (.tup iU) | none=>none
 | .agg cs=>match zd (qi hp) cs with | some aE=>some (.agg aE) | none=>none
 | x=>qi hp x
def scrub (s:Nat) (x:AV):AV:=if x.refs.contains s then .bot else x
def zaK (s:Nat):Blk->Blk
 | .var cs=>.var (cs.map (scrub s))
 | b=>b
def ASt.scrub (st:ASt) (s:Nat):ASt:={ fr:=fun k=>Ab.scrub s (st.fr k),hp:=fun k=>(st.hp k).map (zaK s) }
def frz (s z0:Nat) (es:List (List AV)) (x:AV):AV :=
 match x with
 | .lsl s' z off len=>if s'=s then (if z=z0∧off+len<=es.length then .sl z ((es.drop off).take len) else .bot) else x
 | .pe s' z i off=>if s'=s then (if z=z0 then (match es[i]? with | some cs=>.ep cs off | none=>.bot) else .bot) else x
 | x=>if x.refs.contains s then .bot else x
def frzB (s z0:Nat) (es:List (List AV)):Blk->Blk
 | .var cs=>.var (cs.map (frz s z0 es))
 | b=>b
def ASt.freeze (st:ASt) (s:Nat):ASt :=
 match st.hp s with
 | some (.arr z es)=>{ fr:=fun k=>frz s z es (st.fr k),hp:=fun k=>if k=s then none else (st.hp k).map (frzB s z es) }
 | _=>st
def ASt.freezeL (st:ASt):List Nat->ASt
 | []=>st
 | s :: r=>(st.freeze s).freezeL r
def qS (st:ASt) (parts:List (Nat×AOpd)):List Nat:=AV.refsL (parts.map fun p=>st.ev p.2)
def zio (zero:List AV):List (Nat×List AV)->Option (List AV)
 | []=>some zero
 | (off,cs) :: r=>if off+cs.length<=zero.length then zio (qO zero off cs) r else none
def zdw:AV->Option Int
 | .v (.int .i64 n)=>some n
 | _=>none
def bounds (st:ASt) (n:Nat) (lo hi:Option AOpd):Option (Nat×Nat) :=
 match (match hi with | none=>some (n:Int) | some x=>zdw (st.ev x)),(match lo with | none=>some (0:Int) | some x=>zdw (st.ev x)) with
 | some h,some l=>if 0<=l∧l<=h∧h<=n then some (l.toNat,h.toNat) else none
 | _,_=>none
def yT (hp:Nat->Option Blk) (z0:Nat):AV->Option (List (List AV))
 | .v (.slice none 0 0)=>some []
 | .v (.slice (some _) 0 _)=>some []
 | .sl z es=>if z=z0 then some es else none
 | .lsl s z off len=>match hp s with | some (.arr z' es)=>if z=z0∧z'=z0∧off+len<=es.length then some ((es.drop off).take len) else none | _=>none
 | _=>none
def aop (o:AOp) (d:Nat) (st:ASt):Option (AV×ASt) :=
 match o with
 | .mov x=>some (st.ev x,st)
 | .box x=>match (st.ev x).cells,st.hp d with | some cs,none=>some (.pv d 0,st.setH d (some (.var cs))) | _,_=>none
 | .alloc zero=>match st.hp d with | none=>some (.pv d 0,st.setH d (some (.var (zero.map AV.v)))) | _=>none
 | .build zero parts =>
  match zd (fun (p:Nat×Nat×AOpd)=>match (st.ev p.2.2).cells with | some cs=>if cs.length=p.2.1 then some (p.1,cs) else none | none=>none) parts with
  | some ps=>match zio (zero.map AV.v) ps with | some cs=>some (.agg cs,st) | none=>none
  | none=>none
 | .bslice frz z zero len parts =>
  match st.hp d,zd (fun (p:Nat×AOpd)=>match (st.ev p.2).cells with | some cs=>(match zd (qj st.hp) cs with | some cs=>if cs.length=z then some (p.1,cs) else none | none=>none) | none=>none) parts with
  | none,some ps=>if (frz=true∧zeH (qS st parts)=true)∨qS st parts=[] then some (.lsl d z 0 len,(st.freezeL (qS st parts)).setH d (some (.arr z (ps.foldl (fun es p=>es.set p.1 p.2) (List.replicate len (zero.map AV.v)))))) else none
  | _,_=>none
 | .lit z zero len parts =>
  match zd (fun (p:Nat×AOpd)=>match (st.ev p.2).cells with | some cs=>(match zd (qj fun _=>none) cs with | some cs=>if cs.length=z then some (p.1,cs) else none | none=>none) | none=>none) parts with
  | some ps=>some (.sl z (ps.foldl (fun es p=>es.set p.1 p.2) (List.replicate len (zero.map AV.v))),st)
  | none=>none
 | .load n x=>match cellsAt st.hp (st.ev x) with | some (cs,off)=>(match zbS cs off n with | some y=>some (y,st) | none=>none) | none=>none
 | .store z a x =>
  match (st.ev x).cells with
  | some new =>
   if new.length=z then
    match st.ev a with
    | .pv s off=>match st.hp s with | some (.var cs)=>if off+z<=cs.length then some (.bot,st.setH s (some (.var (qO cs off new)))) else none | _=>none
    | .pe s z0 i off =>
     match st.hp s with
     | some (.arr z' es)=>(match es[i]? with | some cs=>if z0=z'∧off+z<=cs.length∧AV.refsL new=[] then some (.bot,st.setH s (some (.arr z' (es.set i (qO cs off new))))) else none | none=>none)
     | _=>none
    | _=>none
   else none
  | none=>none
 | .chk x=>match st.ev x with
  | .pv s off=>some (.pv s off,st)
  | .pe s z i off=>some (.pe s z i off,st)
  | .ep cs off=>some (.ep cs off,st)
  | .fn f caps=>some (.fn f caps,st)
  | _=>none
 | .bin k op x y=>match st.ev x,st.ev y with | .v a,.v b=>(match zgz k op a b with | some r=>some (.v r,st) | none=>none) | _,_=>none
 | .eqa neg shape x y=>match st.ev x,st.ev y with
  | .agg cs,.agg ds=>(match ziq cs ds shape with | some r=>some (.v (.bool (if neg then !r else r)),st) | none=>none)
  | _,_=>none
 | .eqn sl neg x =>
  if sl=true then
   (match st.ev x with
   | .v (.slice none 0 0)=>some (.v (.bool (!neg)),st)
   | .v (.slice (some _) _ _)=>some (.v (.bool neg),st)
   | .sl _ (_ :: _)=>some (.v (.bool neg),st)
   | _=>none)
  else
   (match st.ev x with
   | .v .nilIface=>some (.v (.bool (!neg)),st)
   | .ifc _ _=>some (.v (.bool neg),st)
   | .v (.iface _ _)=>some (.v (.bool neg),st)
   | _=>none)
 | .un op x=>match st.ev x with | .v a=>(match unV op a with | some r=>some (.v r,st) | none=>none) | _=>none
 | .cvi k x=>match st.ev x with | .v (.int _ n)=>some (.v (.int k (k.wrap n)),st) | _=>none
 | .cvs x=>match st.ev x with | .v (.string s)=>some (.sl 1 (s.data.toList.map fun b=>[AV.v (.int .u8 b.toNat)]),st) | _=>none
 | .ifc t x=>some (.ifc t (st.ev x),st)
 | .mkfn f caps=>some (.fn f (caps.map st.ev),st)
 | .mksl z zero len cap=>match st.hp d,st.ev len,st.ev cap with
  | none,.v (.int .i64 n),.v (.int .i64 c)=>if 0<=n∧n<=c∧c<=zbO z then some (.lsl d z 0 n.toNat,st.setH d (some (.arr z (List.replicate n.toNat (zero.map AV.v))))) else none
  | _,_,_=>none
 | .slc z x lo hi =>
  if z=0 then (match st.ev x with | .v (.string s)=>(match bounds st s.size lo hi with | some (l,h)=>some (.v (.string (s.extract l h)),st) | none=>none) | _=>none)
  else
   (match st.ev x with
   | .v (.slice none 0 0)=>(match bounds st 0 lo hi with | some _=>some (.v (.slice none 0 0),st) | none=>none)
   | .sl z' es=>if z=z' then (match bounds st es.length lo hi with | some (l,h)=>some (.sl z ((es.drop l).take (h - l)),st) | none=>none) else none
   | .lsl s z' off len=>if z=z' then (match bounds st len lo hi with | some (l,h)=>some (.lsl s z (off+l) (h - l),st) | none=>none) else none
   | _=>none)
 | .fa off x=>match st.ev x with
  | .pv s o=>some (.pv s (o+off),st)
  | .pe s z i o=>some (.pe s z i (o+off),st)
  | .ep cs o=>some (.ep cs (o+off),st)
  | _=>none
 | .fld off n x=>match st.ev x with | .agg cs=>(match zbS cs off n with | some y=>some (y,st) | none=>none) | _=>none
 | .ia z x i=>match st.ev x,st.ev i with
  | .sl z' es,.v (.int _ n)=>if z=z'∧0<=n then (match es[n.toNat]? with | some cs=>some (.ep cs 0,st) | none=>none) else none
  | .lsl s z' off len,.v (.int _ n)=>if z=z'∧0<=n∧n < len then some (.pe s z (off+n.toNat) 0,st) else none
  | _,_=>none
 | .ix x i=>match st.ev x,st.ev i with
  | .v (.string s),.v (.int _ n)=>if 0<=n then (match s.data[n.toNat]? with | some b=>some (.v (.int .u8 b.toNat),st) | none=>none) else none
  | _,_=>none
 | .ext x i=>match st.ev x with | .tup vs=>(match vs[i]? with | some y=>some (y,st) | none=>none) | _=>none
 | .len str x =>
  if str=true then (match st.ev x with | .v (.string s)=>some (.v (.int .i64 s.size),st) | _=>none)
  else
   (match st.ev x with
   | .v (.slice none 0 0)=>some (.v (.int .i64 0),st)
   | .sl _ es=>some (.v (.int .i64 es.length),st)
   | .lsl _ _ _ n=>some (.v (.int .i64 n),st)
   | _=>none)
 | .app z x y =>
  match yT st.hp z (st.ev y) with
  | some ys =>
   match st.ev x with
   | .v (.slice none 0 0)=>if ys.length<=zbO z then (match st.hp d with | none=>some (.lsl d z 0 ys.length,st.setH d (some (.arr z ys))) | some _=>none) else none
   | .lsl s z' 0 n =>
    match st.hp s with
    | some (.arr eS es)=>if zbI s=false∧z=z'∧z=eS∧n=es.length∧n+ys.length<=zbO z then some (.lsl s z 0 (n+ys.length),(st.scrub s).setH s (some (.arr z (es++ys)))) else none
    | _=>none
   | _=>none
  | none=>none
 | .pick c a b=>match st.ev c with | .v (.bool t)=>some (if t then st.ev a else st.ev b,st) | _=>none
 | .max2 x y=>match st.ev x,st.ev y with | .v (.int k a),.v (.int _ b)=>some (.v (.int k (if b > a then b else a)),st) | _,_=>none
 | .call _ _ _ _ | .calld _ _ _=>none
end
section
abbrev zcS:=List (Nat×List (List AV))
structure Rets where
 ret:Nat->List AV->AV->zcS->Prop
 cv:ASt->ASt->Prop
inductive ARes where
 | tmp (t:Nat)
 | cell (t:Nat) (n:Option Nat)
 deriving Inhabited
structure AFunc where
 np:Nat
 nt:Nat
 res:List ARes
 muts:List Nat:=[]
 own:Bool:=false
 body:ACode
 deriving Inhabited
def handed (muts:List Nat) (i:Nat):Bool:=Nat.blt i 1000 && (muts.contains i || muts.contains (1000+i))
def zX (muts:List Nat) (i:Nat):Nat:=if muts.contains i then 1000+i else 2000+i
def jl (muts:List Nat):List Nat:=muts.filter fun i=>Nat.blt i 1000
def zbh:List Nat->Bool
 | []=>false
 | a :: r=>(a :: r).all fun i=>Nat.blt i 1000
def fi (hp:Nat->Option Blk):AV->Bool
 | .pv s _=>match hp s with | some (.var cs)=>cs.all fun c=>c.refs.isEmpty | _=>false
 | x=>x.refs.isEmpty
def fnOk (hp:Nat->Option Blk):AV->Bool
 | .fn _ caps=>caps.all (fi hp)
 | _=>false
def gm (muts:List Nat):Nat->List AV->List Nat
 | _,[]=>[]
 | i,x :: r=>(if handed muts i then [] else x.refs)++gm muts (i+1) r
def zaD (muts:List Nat) (args:List AV) (r:AV) (outs:zcS):Bool := !zbh muts || (gm muts 0 args).isEmpty || (r.plain && outs.all fun p=>p.2.all fun e=>e.all AV.plain1)
def zK (hp:Nat->Option Blk) (muts:List Nat):Nat->List AV->Option (List AV)
 | _,[]=>some []
 | i,x :: r =>
  match (if handed muts i then
    (match x with
     | .lsl s z 0 n=>(match hp s with | some (.arr z' es)=>if z=z'∧n=es.length then some (.own z es) else none | _=>none)
     | _=>none)
   else if muts.isEmpty then w8 hp x else if x.refs.isEmpty then some x else if (zbh muts && fnOk hp x)=true then w8 hp x else none),zK hp muts (i+1) r with
  | some y,some ys=>some (y :: ys)
  | _,_=>none
def zU (muts:List Nat):Nat->List AV->List Nat
 | _,[]=>[]
 | i,x :: r=>(if handed muts i then (match x with | .lsl s _ _ _=>[s] | _=>[]) else [])++zU muts (i+1) r
def zF (muts:List Nat):Nat->List AV->List Nat
 | _,[]=>[]
 | i,x :: r=>(if (handed muts i && !muts.contains i)=true then (match x with | .lsl s _ _ _=>[s] | _=>[]) else [])++zF muts (i+1) r
def qg:List Nat->Bool
 | []=>true
 | x :: r => !r.contains x && qg r
def ASt.drop (st:ASt) (s:Nat):ASt:=(st.scrub s).setH s none
def ASt.dropL (st:ASt):List Nat->ASt
 | []=>st
 | s :: r=>(st.drop s).dropL r
def wD (args:List AV) (st:ASt):zcS->Option ASt
 | []=>some st
 | (i,es) :: r =>
  match args[i]? with
  | some (.lsl s _ _ _)=>(match st.hp s with | some (.arr z aY)=>if es.length=aY.length then wD args (st.setH s (some (.arr z es))) r else none | _=>none)
  | _=>none
def zcI (d:Nat):Nat->List AV->ASt->Option (List AV×ASt)
 | _,[],st=>some ([],st)
 | i,.own z es :: r,st =>
  match st.hp (d+10000 * (i+1)),zcI d (i+1) r (st.setH (d+10000 * (i+1)) (some (.arr z es))) with
  | none,some (ys,aa)=>some (.lsl (d+10000 * (i+1)) z 0 es.length :: ys,aa)
  | _,_=>none
 | i,x :: r,st=>match zcI d (i+1) r st with | some (ys,aa)=>some (x :: ys,aa) | none=>none
def imp (d:Nat) (r:AV) (st:ASt):Option (AV×ASt) :=
 match r with
 | .own z es=>match st.hp d with | none=>some (.lsl d z 0 es.length,st.setH d (some (.arr z es))) | some _=>none
 | .tup vs=>match zcI d 0 vs st with | some (ys,aa)=>some (.tup ys,aa) | none=>none
 | r=>some (r,st)
def zD:AV->Bool
 | .own _ _=>true
 | _=>false
def zig:AV->Bool
 | .own _ _=>false
 | .tup vs=>vs.all fun x => !zD x
 | _=>true
def impE (eat:List Nat) (d:Nat) (r:AV) (st:ASt):Option (AV×ASt) :=
 match eat with
 | []=>imp d r st
 | s :: _ =>
  match r with
  | .own z es=>(match st.hp s with | none=>some (.lsl s z 0 es.length,st.setH s (some (.arr z es))) | some _=>none)
  | .tup (.own z es :: vs)=>(match st.hp s with | none=>if vs.all (fun x => !zD x)=true then some (.tup (.lsl s z 0 es.length :: vs),st.setH s (some (.arr z es))) else none | some _=>none)
  | r=>if zig r=true then some (r,st) else none
def zbt (hp:Nat->Option Blk) (s:Nat):Bool:=match hp s with | some (.arr _ _)=>true | _=>false
def settle (frz:Bool) (refs:List Nat) (r:AV) (st:ASt):Option ASt :=
 if r.plain=true∨refs=[] then some st else if frz=true∧refs.all (zbt st.hp)=true∧zeH refs=true then some (st.freezeL refs) else none
def zba (M:Rets) (frz:Bool) (muts:List Nat) (f:Nat) (args:List AV) (d:Nat) (st:ASt) (v:AV) (aa:ASt):Prop :=
 ∃ aj r outs st1 ai,zK st.hp muts 0 args=some aj∧qg (zU muts 0 args)=true∧M.ret f aj r outs ∧
  settle frz (if muts.isEmpty then AV.refsL args else []) r st=some st1 ∧
  ((zeH (zF muts 0 args) && zaD muts args r outs)=true∧outs.map (·.1)=jl muts∧wD args (st1.dropL (zF muts 0 args)) outs=some ai)∧impE (zF muts 0 args) d r ai=some (v,aa)
def zhM (M:Rets) (f:Nat) (args:List AV) (st:ASt) (v:AV):Prop :=
 ∃ aj,zK st.hp [] 0 args=some aj∧M.ret f aj v []∧(v.plain=true∨AV.refsL args=[])∧zig v=true
def ji (M:Rets) (q:Bool) (o:AOp) (d:Nat) (st:ASt) (v:AV) (aa:ASt):Prop :=
 match o with
 | .call frz muts f args=>if q=true∧muts=[] then aa=st∧zhM M f (args.map st.ev) st v else zba M frz muts f (args.map st.ev) d st v aa
 | .calld frz x args=>match st.ev x with | .fn f caps=>(if q=true then aa=st∧zhM M f (args.map st.ev++caps) st v else zba M frz [] f (args.map st.ev++caps) d st v aa) | _=>False
 | o=>aop o d st=some (v,aa)
def ud:AV:=.v (.tuple #[])
def zcL (st:ASt):Option (Nat×Bool)->Option Bool
 | none=>some true
 | some (t,want)=>match st.fr t with | .v (.bool b)=>some (b == want) | .v (.tuple _)=>some false | _=>none
def OpR (M:Rets) (q:Bool) (o:AOper) (st aa:ASt):Prop :=
 (zcL st o.grd=some true∧∃ v st1,ji M q o.op (o.dst.getD 0) st v st1∧aa=st1.putO o.dst v) ∨
 (zcL st o.grd=some false∧aa=st.putO o.dst ud)
inductive OpsR (M:Rets) (q:Bool):List AOper->ASt->ASt->Prop
 | nil (st:ASt):OpsR M q [] st st
 | cons {o:AOper} {r:List AOper} {st st1 ai:ASt}:OpR M q o st st1->OpsR M q r st1 ai->OpsR M q (o :: r) st ai
 | cv {r:List AOper} {st st1 ai:ASt}:q=false->M.cv st st1->OpsR M q r st1 ai->OpsR M q r st ai
inductive Ex (M:Rets):ACode->ASt->AExit->ASt->Prop
 | skip (st:ASt):Ex M .skip st .norm st
 | region {ops:List AOper} {dr:Bool} {st aa:ASt}:OpsR M dr ops st aa->Ex M (.region ops dr) st .norm aa
 | seqN {a b:ACode} {st st1 ai:ASt} {e:AExit}:Ex M a st .norm st1->Ex M b st1 e ai->Ex M (.seq a b) st e ai
 | seqE {a b:ACode} {st st1:ASt} {e:AExit}:Ex M a st e st1->e≠.norm->Ex M (.seq a b) st e st1
 | cond {c:AOpd} {a b:ACode} {st aa:ASt} {e:AExit} {t:Bool}:st.ev c=.v (.bool t)->Ex M (if t then a else b) st e aa->Ex M (.cond c a b) st e aa
 | blockX {id:Nat} {b:ACode} {st aa:ASt}:Ex M b st (.exit id) aa->Ex M (.block id b) st .norm aa
 | blockO {id:Nat} {b:ACode} {st aa:ASt} {e:AExit}:Ex M b st e aa->e≠.exit id->Ex M (.block id b) st e aa
 | loopN {b:ACode} {st st1 ai:ASt} {e:AExit}:Ex M b st .norm st1->Ex M (.loop b) st1 e ai->Ex M (.loop b) st e ai
 | loopE {b:ACode} {st st1:ASt} {e:AExit}:Ex M b st e st1->e≠.norm->Ex M (.loop b) st e st1
 | exit (id:Nat) (st:ASt):Ex M (.exit id) st (.exit id) st
 | ret (st:ASt):Ex M .ret st .ret st
 | cv {c:ACode} {st st1 aa:ASt} {e:AExit}:M.cv st st1->Ex M c st1 e aa->Ex M c st e aa
 | cvR {c:ACode} {st st1 aa:ASt} {e:AExit}:Ex M c st e st1->M.cv st1 aa->Ex M c st e aa
def qV (muts:List Nat):Nat->List AV->Nat->AV
 | _,[]=>fun _=>.bot
 | i,x :: r=>upd (qV muts (i+1) r) i (match x with | .own z es=>.lsl (zX muts i) z 0 es.length | x=>x)
def zM (muts:List Nat):Nat->List AV->Nat->Option Blk
 | _,[]=>fun _=>none
 | i,x :: r=>match x with | .own z es=>upd (zM muts (i+1) r) (zX muts i) (some (.arr z es)) | _=>zM muts (i+1) r
def enter (muts:List Nat) (args:List AV):ASt:={ fr:=qV muts 0 args,hp:=zM muts 0 args }
def j8 (st:ASt):ARes->Option AV
 | .tmp t=>some (st.fr t)
 | .cell t n=>match cellsAt st.hp (st.fr t) with | some (cs,off)=>zbS cs off n | none=>none
def yK (st:ASt):AV->Option AV
 | .lsl s z 0 n=>match st.hp s with | some (.arr z' es)=>if z=z'∧n=es.length∧zbI s=false then some (.own z es) else none | _=>none
 | x=>if x.refs.isEmpty then some x else none
def qn:List AV->AV
 | [x]=>x
 | l=>.tup l
def lE (st:ASt) (muts:List Nat):Option zcS :=
 zd (fun i=>match st.hp (1000+i) with | some (.arr _ es)=>some (i,es) | _=>none) (jl muts)
def qu (own:Bool) (muts:List Nat) (res:List ARes) (st:ASt):Option (AV×zcS) :=
 match zd (j8 st) res with
 | some rs =>
  if own=true then
   (if qg (AV.refsL rs)=true∧muts=[] then (match zd (yK st) rs with | some ys=>some (qn ys,[]) | none=>none) else none)
  else if muts=[] then (match zd (qi st.hp) rs with | some ys=>some (qn ys,[]) | none=>none)
  else if qg (AV.refsL rs)=true then (match zd (yK st) rs,lE st muts with | some ys,some outs=>some (qn ys,outs) | _,_=>none)
  else none
 | none=>none
def qW (muts:List Nat):Nat->List AV->Bool
 | _,[]=>true
 | i,x :: r=>(zD x == handed muts i) && qW muts (i+1) r
def BodyR (M:Rets) (fn:AFunc) (args:List AV) (r:AV) (outs:zcS):Prop :=
 args.length=fn.np∧qW fn.muts 0 args=true∧∃ e aa,Ex M fn.body (enter fn.muts args) e aa∧(e=.norm∨e=.ret)∧qu fn.own fn.muts fn.res aa=some (r,outs)
def Ok (G:Nat->Option AFunc) (M:Rets):Prop:=∀ f fn args r outs,G f=some fn->BodyR M fn args r outs->M.ret f args r outs
def zif {r:AV} (h:r.plain=true):zig r=true:=by
 cases r with
 | own z es=>simp[AV.plain] at h
 | tup vs =>simp only[AV.plain] at h;refine Af.2 fun x hx => ?_;have:=Af.1 h x hx;cases x<;>simp_all[AV.plain2,zD]
 | _=>rfl
def pd (d:Nat):∀ (i:Nat) (vs:List AV) (st:ASt),(vs.all fun x => !zD x)=true->zcI d i vs st=some (vs,st)
 | _,[],_,_=>rfl
 | i,x :: r,st,h=>by
  simp only[A8,Am] at h;have ih:=pd d (i+1) r st h.2;have hx:=h.1;cases x<;>simp_all[zcI,zD]
def zbv {r:AV} (h:zig r=true) (d:Nat) (st:ASt):imp d r st=some (r,st):=by
 cases r with
 | tup vs=>simp only[imp];rw[pd d 0 vs st h]
 | own z es=>simp[zig] at h
 | _=>rfl
def imp_plain {r:AV} (h:r.plain=true) (d:Nat) (st:ASt):imp d r st=some (r,st):=zbv (zif h) d st
def zhM.loud {M:Rets} {frz:Bool} {f:Nat} {args:List AV} {d:Nat} {st:ASt} {v:AV} (h:zhM M f args st v):zba M frz [] f args d st v st:=by
 obtain ⟨aj,h1,h2,h3,h4⟩:=h;have hm:∀ (i:Nat) (l:List AV),zU [] i l=[]:=by
  intro i l
  induction l generalizing i with
  | nil=>rfl
  | cons x r ih=>simp[zU,handed,ih (i+1)]
 have he:∀ (i:Nat) (l:List AV),zF [] i l=[]:=by
  intro i l
  induction l generalizing i with
  | nil=>rfl
  | cons x r ih=>simp[zF,handed,ih (i+1)]
 refine ⟨aj,v,[],st,st,h1,by rw[hm];rfl,h2, ?_,⟨by rw[he];rfl,rfl,by rw[he];rfl⟩,by rw[he];exact zbv h4 d st⟩;simp only[settle,BD,if_true];rw[if_pos h3]
def ze {l:List AV} {s:Nat}:s∈AV.refsL l↔∃ x∈l,s∈x.refs:=by
 induction l with
 | nil=>simp[AV.refsL]
 | cons a r ih=>simp[AV.refsL,ih]
def Blk.refs:Blk->List Nat
 | .var cs=>AV.refsL cs
 | .arr _ _=>[]
end
section
structure Seat where
 P:Program
 fns:List (FuncId×Nat)
 tys:List (TypeId×Nat)
 muts:List (Nat×List Nat)
 own:List Nat
 glob:List (Nat×Value):=[]
 more:List Nat:=[]
 hold:World->Prop:=fun _=>True
 holdK:∀ w w':World,(∀ b∈more,b < w.heap.size∧w'.heap[b]? = w.heap[b]?)->hold w->hold w':=by exact fun _ _ _ h=>h
 jg:Nat->Prop:=fun _=>False
 jn:World->Prop:=fun _=>True
 jnK:∀ w w':World,(∀ b,jg b->b < w.heap.size∧w'.heap[b]? = w.heap[b]?)->jn w->jn w':=by exact fun _ _ _ h=>h
def Seat.globB (S:Seat):List Nat:=S.glob.map (·.1)++S.more
def qy (k:Nat):List (Nat×Nat)->Option Nat
 | []=>none
 | (a,b) :: r=>if a=k then some b else qy k r
def zbD (k:Nat):List (Nat×List Nat)->List Nat
 | []=>[]
 | (a,b) :: r=>if a=k then b else zbD k r
def zab:Value->Bool
 | .bool _ | .int _ _ | .string _ | .nilIface | .nilFunc | .slice none 0 0 | .pointer none=>true
 | _=>false
def qp (S:Seat):Operand->Option AOpd
 | .tmp t=>some (.t t)
 | .const v=>if zab v then some (.c v) else none
 | .func f=>(qy f S.fns).map .f
 | .global _=>none
def ziE (S:Seat) (xs:List Operand):Option (List AOpd):=zd (qp S) xs
def eu (S:Seat):Option Operand->Option (Option AOpd)
 | none=>some none
 | some x=>(qp S x).map some
def wV (P:Program) (t:TypeId):Option Nat:=(P.info? t).map (·.size)
def cAgg (P:Program) (t:TypeId):Option (Option Nat) :=
 match P.underlying t with
 | some (.struct _) | some (.array _ _)=>match wV P t with | some n=>if 0 < n then some (some n) else none | none=>none
 | some _=>some none
 | none=>none
def fe (P:Program) (t:TypeId):Option (List Value) :=
 match P.info? t with
 | some i=>match i.zero with | some z=>if z.cells.size=i.size∧0 < i.size∧z.cells.toList.all zab=true then some z.cells.toList else none | none=>none
 | none=>none
def cRefs (P:Program):Nat->TypeId->Bool
 | 0,_=>true
 | d+1,t =>
  match P.underlying t with
  | some .bool | some (.int _) | some .string | some (.interface _) | some (.float _)=>false
  | some (.struct fs)=>fs.toList.any fun f=>cRefs P d f.type
  | some (.tuple ts)=>ts.toList.any fun u=>cRefs P d u
  | _=>true
def gf (P:Program):List Field->Option (List (Nat×Sc))
 | []=>some []
 | f :: r =>
  if f.name = "_" then none else
  match P.underlying f.type,gf P r with
  | some (.int _),some l=>some ((f.offset,.int) :: l)
  | some .bool,some l=>some ((f.offset,.bool) :: l)
  | some .string,some l=>some ((f.offset,.str) :: l)
  | _,_=>none
def fB:Operand->Bool
 | .const .nilIface=>true
 | _=>false
def cBin (S:Seat) (op:BinOp) (t:TypeId) (x y:Operand):Option AOp :=
 match S.P.underlying t,qp S x,qp S y with
 | some (.int _),some x,some y=>(match op with | .add | .sub | .mul | .quo | .rem | .eql | .neq | .lss | .leq | .gtr | .geq | .shr=>some (.bin .int op x y) | _=>none)
 | some .string,some x,some y=>(match op with | .add | .eql | .neq | .lss | .leq | .gtr | .geq=>some (.bin .str op x y) | _=>none)
 | some .bool,some x,some y=>(match op with | .eql | .neq=>some (.bin .bool op x y) | _=>none)
 | some (.struct fs),some x,some y =>
  if S.P.eqGuardType S.P.depth t=false∧S.P.stoodInHeld t=false then
   match op,gf S.P fs.toList with
   | .eql,some l=>some (.eqa false l x y)
   | .neq,some l=>some (.eqa true l x y)
   | _,_=>none
  else none
 | some (.interface _),some x',some y' =>
  (match op with
  | .eql=>if fB y then some (.eqn false false x') else if fB x then some (.eqn false false y') else none
  | .neq=>if fB y then some (.eqn false true x') else if fB x then some (.eqn false true y') else none
  | _=>none)
 | some (.slice _),some x',some _ =>
  (match op,y with
  | .eql,.const (.slice none 0 0)=>some (.eqn true false x')
  | .neq,.const (.slice none 0 0)=>some (.eqn true true x')
  | _,_=>none)
 | _,_,_=>none
def ziF (S:Seat) (s d:TypeId) (x:Operand):Option AOp :=
 match S.P.underlying s,S.P.underlying d,qp S x with
 | some (.int _),some (.int k),some x=>some (.cvi k x)
 | some .string,some (.slice e),some x=>(match S.P.underlying e,wV S.P e with | some (.int .u8),some 1=>some (.cvs x) | _,_=>none)
 | _,_,_=>none
def zeN (P:Program) (t:TypeId):Option (TypeId×Nat) :=
 match P.underlying t with
 | some (.slice e)=>match P.info? e with | some i=>if 0 < i.size∧i.size<=128∧i.bytes<=zkh i.size then some (e,i.size) else none | none=>none
 | _=>none
def zea (P:Program) (t:TypeId) (f:Nat):Option Field :=
 match P.underlying t with
 | some (.struct fs)=>fs[f]?
 | _=>none
def e9 (S:Seat) (c:Call) (ty:TypeId):Option AOp :=
 match c.callee with
 | .value (.func f) =>
  match qy f S.fns,ziE S c.args.toList with
  | some id,some xs=>some (.call (cRefs S.P 8 ty) (zbD id S.muts) id xs)
  | _,_=>none
 | .value (.tmp t)=>match ziE S c.args.toList with | some xs=>some (.calld (cRefs S.P 8 ty) (.t t) xs) | none=>none
 | .builtin .len =>
  match c.args.toList,c.argTypes.toList with
  | [x],[t]=>(match S.P.underlying t with | some .string=>(qp S x).map (.len true) | some (.slice _)=>(qp S x).map (.len false) | _=>none)
  | _,_=>none
 | .builtin .append =>
  match c.args.toList,c.argTypes.toList with
  | [x,y],[t,u] =>
   (match zeN S.P t,fe S.P ((zeN S.P t).getD (0,0)).1,qp S x,qp S y with
   | some (_,z),some _,some x,some y=>if t=u then some (.app z x y) else none
   | _,_,_,_=>none)
  | _,_=>none
 | .builtin .max =>
  match c.args.toList with
  | [x,y]=>(match qp S x,qp S y with | some x,some y=>some (.max2 x y) | _,_=>none)
  | _=>none
 | _=>none
def cOp (S:Seat) (o:Op) (ty:TypeId):Option AOp :=
 match o with
 | .move x | .assign x=>(qp S x).map .mov
 | .box _ x=>(qp S x).map .box
 | .alloc e=>(fe S.P e).map .alloc
 | .build t ps =>
  match S.P.underlying t,fe S.P t,zd (fun (p:Nat×Operand)=>match zea S.P t p.1,qp S p.2 with | some f,some x=>(match wV S.P f.type with | some n=>some (f.offset,n,x) | none=>none) | _,_=>none) ps.toList with
  | some (.struct fs),some zero,some l=>(match zd (fun (f:Field)=>wV S.P f.type) fs.toList with | some _=>some (.build zero l) | none=>none)
  | _,_,_=>none
 | .buildSlice t len ps =>
  match zeN S.P t,fe S.P ((zeN S.P t).getD (0,0)).1,zd (fun (p:Nat×Operand)=>if p.1 < len then (qp S p.2).map fun x=>(p.1,x) else none) ps.toList with
  | some (e,z),some zero,some l=>if len<=4096 then some (.bslice (cRefs S.P 8 e) z zero len l) else none
  | _,_,_=>none
 | .load t x=>match cAgg S.P t,qp S x with | some n,some x=>some (.load n x) | _,_=>none
 | .store t a x=>match wV S.P t,qp S a,qp S x with | some z,some a,some x=>some (.store z a x) | _,_,_=>none
 | .nilCheck x=>(qp S x).map .chk
 | .binOp op t x y _=>cBin S op t x y
 | .unOp op _ x=>match op with | .neg | .not=>(qp S x).map (.un op) | _=>none
 | .convert s d x=>ziF S s d x
 | .makeInterface t x=>match qy t S.tys,qp S x,S.P.underlying t with
  | some k,some x,some (.int _)=>some (.ifc k x)
  | some k,some x,some (.struct _)=>some (.ifc k x)
  | _,_,_=>none
 | .makeFunc (.func f) first caps=>if first.size=0 then (match qy f S.fns,ziE S caps.toList with | some id,some l=>some (.mkfn id l) | _,_=>none) else none
 | .makeSlice t l c=>match zeN S.P t,fe S.P ((zeN S.P t).getD (0,0)).1,qp S l,qp S c with
  | some (_,z),some zero,some l,some c=>some (.mksl z zero l c)
  | _,_,_,_=>none
 | .slice t x lo hi none=>match S.P.underlying t,qp S x,eu S lo,eu S hi with
  | some .string,some x,some lo,some hi=>some (.slc 0 x lo hi)
  | some (.slice _),some x,some lo,some hi=>(match zeN S.P t with | some (_,z)=>some (.slc z x lo hi) | none=>none)
  | _,_,_,_=>none
 | .fieldAddr t x f=>match zea S.P t f,qp S x with
  | some f,some x=>(match wV S.P f.type with | some n=>if 0 < n then some (.fa f.offset x) else none | none=>none)
  | _,_=>none
 | .field t x f=>match zea S.P t f,qp S x with
  | some f,some x=>(match cAgg S.P f.type with | some n=>some (.fld f.offset n x) | none=>none)
  | _,_=>none
 | .indexAddr t x i=>match zeN S.P t,qp S x,qp S i with | some (_,z),some x,some i=>some (.ia z x i) | _,_,_=>none
 | .index t x i=>match S.P.underlying t,qp S x,qp S i with | some .string,some x,some i=>some (.ix x i) | _,_,_=>none
 | .extract x i=>(qp S x).map (.ext · i)
 | .pick c a b=>match qp S c,qp S a,qp S b with | some c,some a,some b=>some (.pick c a b) | _,_,_=>none
 | .call c=>e9 S c ty
 | _=>none
def dstB (nt:Nat):Option Nat->Bool
 | none=>true
 | some d=>decide (d < nt) && decide (d < 1000)
def noFrz (S:Seat) (lt:Bool):AOp->AOp
 | .bslice _ z zero len ps=>if lt=true then .lit z zero len ps else .bslice false z zero len ps
 | .call frz [] f xs=>if S.own.contains f=true then .call frz [3000] f xs else .call frz [] f xs
 | o=>o
def partOf (ops:Array Oper):Option Nat->Bool
 | none=>false
 | some d=>ops.any fun b=>match b.op with | .build _ ps=>ps.any (fun p=>match p.2 with | .tmp t=>Nat.beq t d | _=>false) | _=>false
def fc (S:Seat) (nt:Nat) (ops:Array Oper) (draw:Bool) (o:Oper):Option AOper :=
 match cOp S o.op o.type,(match o.guard with | none=>some none | some (j,want)=>((ops[j]?).bind (·.dst)).map fun t=>some (t,want)) with
 | some op,some g =>if dstB nt o.dst=true then some { dst:=o.dst,op:=if draw then noFrz S (partOf ops o.dst) op else op,grd:=g,aft:=if draw then (o.after.toList.filter (Region.binds .any)).map (·.on) else [] } else none
 | _,_=>none
def isVoid:AOp->Bool
 | .store _ _ _=>true
 | _=>false
def dstOk (o:AOper):Bool:=match o.dst with | none=>true | some _ => !isVoid o.op
def AOp.opds:AOp->List AOpd
 | .mov x | .box x | .load _ x | .chk x | .eqn _ _ x | .un _ x | .cvi _ x | .cvs x | .ifc _ x | .fa _ x | .fld _ _ x | .ext x _ | .len _ x=>[x]
 | .alloc _=>[]
 | .build _ ps=>ps.map fun p=>p.2.2
 | .bslice _ _ _ _ ps | .lit _ _ _ ps=>ps.map fun p=>p.2
 | .store _ a x=>[a,x]
 | .bin _ _ x y | .eqa _ _ x y | .ia _ x y | .ix x y | .app _ x y | .max2 x y | .mksl _ _ x y=>[x,y]
 | .mkfn _ xs | .call _ _ _ xs=>xs
 | .slc _ x lo hi=>x :: (lo.toList++hi.toList)
 | .calld _ x xs=>x :: xs
 | .pick c a b=>[c,a,b]
def AOp.kind:AOp->Nat
 | .load _ _ | .calld _ _ _=>1
 | .call _ muts _ _=>(match muts with | []=>1 | [k]=>if Nat.beq k 3000=true then 2 else 4 | _=>4)
 | .alloc _=>2
 | .bslice false _ _ _ _=>2
 | .mksl _ _ _ _=>2
 | .store _ _ _=>3
 | .bslice true _ _ _ _ | .box _ | .app _ _ _=>4
 | _=>0
def AOper.seen (o:AOper):List Nat:=(o.op.opds.filterMap fun | .t n=>some n | _=>none)++(match o.grd with | some (t,_)=>[t] | none=>[])
def zeM (d:Option Nat) (l:List Nat):Bool:=match d with | some d=>l.contains d | none=>false
def AOp.isMk:AOp->Bool
 | .mksl _ _ _ _=>true
 | _=>false
def zdt (k i:AOper):Bool :=
 ((k.op.kind == 0 && Nat.blt i.op.kind 4) || (Nat.blt k.op.kind 2 && Nat.blt i.op.kind 3) || (k.op.isMk && i.op.isMk)) && !zeM k.dst i.seen && !zeM i.dst k.seen && !zeM k.dst i.dst.toList
def zao (l:List AOper):List Nat:=(l.foldl (fun acc o=>acc++[o.aft.foldl (fun s j=>s ||| (2 ^ j ||| acc.getD j 0)) 0]) [])
def AOp.isNew:AOp->Bool
 | .call _ muts _ _=>(match muts with | [k]=>Nat.beq k 3000 | _=>false)
 | _=>false
def zit (l:List AOper):List Nat :=
 match (List.range l.length).find? (fun i=>match l[i]? with | some o=>o.op.isNew | none=>false) with
 | none =>
  let mk:=(List.range l.length).filter fun i=>match l[i]? with | some o=>o.op.isMk | none=>false
  let b:=zao l
  if Nat.blt 1 mk.length=true then
   (List.range l.length).filter (fun j => !mk.contains j && !mk.any fun n=>(b.getD j 0).testBit n)++mk++(List.range l.length).filter (fun j => !mk.contains j && mk.any fun n=>(b.getD j 0).testBit n)
  else List.range l.length
 | some n =>
  let b:=zao l
  (List.range l.length).filter (fun j => !Nat.beq j n && !(b.getD j 0).testBit n)++n :: (List.range l.length).filter fun j=>(b.getD j 0).testBit n
def dOp:AOper:=⟨none,.mov (.t 0),none,[]⟩
def ordered (l:List AOper):List AOper:=(zit l).map fun i=>l.getD i dOp
def zjp (l:List AOper) (b:List Nat) (k i:Nat):Bool :=
 !Nat.beq k i && (match l[k]?,l[i]? with | some p,some o => !p.aft.contains i && ((b.getD i 0).testBit k || zdt p o) | _,_=>false)
def lF (f:Nat->Nat->Bool):List Nat->Bool
 | []=>true
 | a :: r=>r.all (f a) && lF f r
def zfV (l:List AOper):Bool :=
 let b:=zao l
 ((List.range l.length).all fun i=>match l[i]? with | some o=>o.aft.all fun j=>Nat.blt j i | none=>false) &&
  ((zit l).all fun i=>Nat.blt i l.length) && ((List.range l.length).all fun i=>(zit l).contains i) && lF (zjp l b) (zit l)
def yz (S:Seat) (nt:Nat):Code->Option ACode
 | .skip=>some .skip
 | .region _ ops draw=>match zd (fc S nt ops draw) ops.toList with | some l=>if l.all dstOk=true∧(draw=false∨(S.P.follows .mixedOrders=true∧zfV l=true)) then some (.region (if draw=true then ordered l else l) draw) else none | none=>none
 | .seq a b=>match yz S nt a,yz S nt b with | some a,some b=>some (.seq a b) | _,_=>none
 | .cond c a b=>match qp S c,yz S nt a,yz S nt b with | some c,some a,some b=>some (.cond c a b) | _,_,_=>none
 | .block id b=>(yz S nt b).map (.block id)
 | .loop b=>(yz S nt b).map .loop
 | .exit id=>some (.exit id)
 | .ret=>some .ret
 | _=>none
def cRes (P:Program):ResultVar->Option ARes
 | .tmp t=>some (.tmp t)
 | .cell t ty=>(cAgg P ty).map (.cell t)
def fb (S:Seat) (id:Nat) (fn:Func):Option AFunc :=
 match (fn.body.map (yz S fn.ntmps)).join,zd (cRes S.P) fn.results.toList with
 | some body,some res=>if fn.params.size+fn.nfree<=fn.ntmps∧(zbD id S.muts=[]∨fn.params.size+fn.nfree<=1000) then some { np:=fn.params.size+fn.nfree,nt:=fn.ntmps,res,muts:=zbD id S.muts,own:=S.own.contains id,body } else none
 | _,_=>none
end
section
open Go Go.RowKit
def yI (tm:Array Value) (d k:Nat) (v u:Value) (h:d < tm.size):(tm.setIfInBounds d v).getD k u=if k=d then v else tm.getD k u:=by
 simp only[An,Array.getElem?_setIfInBounds];by_cases hk:d=k
 ·subst hk;simp[h]
 ·rw[if_neg hk,if_neg (fun e=>hk e.symm)]
inductive VR0 (S:Seat) (A:Nat->Prop) (w:World):AV->Value->Prop
 | bot (v:Value):VR0 S A w .bot v
 | v (x:Value):VR0 S A w (.v x) x
 | agg {cs:List AV} {vs:Array Value}:cs.length=vs.size->(∀ (i:Nat) (x:AV),cs[i]? = some x->VR0 S A w x (vs.getD i undef))->VR0 S A w (.agg cs) (.agg vs)
 | tup {cs:List AV} {vs:Array Value}:cs.length=vs.size->(∀ (i:Nat) (x:AV),cs[i]? = some x->VR0 S A w x (vs.getD i undef))->VR0 S A w (.tup cs) (.tuple vs)
 | sl {z:Nat} {es:List (List AV)} {b o cap:Nat} {u:Nat->Value}:A b->es.length<=cap->(∀ e∈es,e.length=z)->(∀ j,j < es.length * z->w.cell? ⟨b,o+j,none⟩=some (u j))->(∀ j,j < es.length * z->(u j).oneCell'=true) ->
   (∀ (i:Nat) (e:List AV) (c:Nat) (x:AV),es[i]? = some e->e[c]? = some x->VR0 S A w x (u (i * z+c)))->VR0 S A w (.sl z es) (.slice (some ⟨b,o,none⟩) es.length cap)
 | slnil (z:Nat):VR0 S A w (.sl z []) (.slice none 0 0)
 | slemp (z:Nat) (a:Addr) (cap:Nat):VR0 S A w (.sl z []) (.slice (some a) 0 cap)
 | ep {cs:List AV} {off b o:Nat} {u:Nat->Value}:A b->(∀ j,j < cs.length->w.cell? ⟨b,o+j,none⟩=some (u j))->(∀ (j:Nat) (x:AV),cs[j]? = some x->VR0 S A w x (u j)) ->
   VR0 S A w (.ep cs off) (.pointer (some ⟨b,o+off,none⟩))
 | fn {f g:Nat} {caps:List AV} {vs:Array Value}:qy g S.fns=some f->caps.length=vs.size->(∀ (i:Nat) (x:AV),caps[i]? = some x->VR0 S A w x (vs.getD i undef))->VR0 S A w (.fn f caps) (.func (.func g) #[] vs)
 | ifc {t T:Nat} {x:AV} {v:Value}:qy T S.tys=some t->VR0 S A w x v->VR0 S A w (.ifc t x) (.iface T v)
inductive VR (S:Seat) (A:Nat->Prop) (σ:Nat->Option Nat) (w:World):AV->Value->Prop
 | of0 {x:AV} {v:Value}:VR0 S A w x v->VR S A σ w x v
 | agg {cs:List AV} {vs:Array Value}:cs.length=vs.size->(∀ (i:Nat) (x:AV),cs[i]? = some x->VR S A σ w x (vs.getD i undef))->VR S A σ w (.agg cs) (.agg vs)
 | tup {cs:List AV} {vs:Array Value}:cs.length=vs.size->(∀ (i:Nat) (x:AV),cs[i]? = some x->VR S A σ w x (vs.getD i undef))->VR S A σ w (.tup cs) (.tuple vs)
 | fn {f g:Nat} {caps:List AV} {vs:Array Value}:qy g S.fns=some f->caps.length=vs.size->(∀ (i:Nat) (x:AV),caps[i]? = some x->VR S A σ w x (vs.getD i undef))->VR S A σ w (.fn f caps) (.func (.func g) #[] vs)
 | ifc {t T:Nat} {x:AV} {v:Value}:qy T S.tys=some t->VR S A σ w x v->VR S A σ w (.ifc t x) (.iface T v)
 | pv {s off b:Nat}:σ s=some b->VR S A σ w (.pv s off) (.pointer (some ⟨b,off,none⟩))
 | pe {s z i off b:Nat}:σ s=some b->VR S A σ w (.pe s z i off) (.pointer (some ⟨b,i * z+off,none⟩))
 | lsl {s z off len b o cap:Nat} {cs:Array Value} {el:TypeId}:σ s=some b->len<=cap->(cap≠0∨off=0->o=off * z)->w.heap[b]? = some (.cells cs el (0,0))->(off+cap) * z<=cs.size->cap<=maxLen ->
   VR S A σ w (.lsl s z off len) (.slice (some ⟨b,o,none⟩) len cap)
 | lslnil {s z:Nat}:σ s=none->VR S A σ w (.lsl s z 0 0) (.slice none 0 0)
def VR0.mono {S:Seat} {A A':Nat->Prop} {w w':World} (hA:∀ b,A b->A' b) (hw:∀ b,A b->w'.heap[b]? = w.heap[b]?) {x:AV} {v:Value} (h:VR0 S A w x v):VR0 S A' w' x v:=by
 induction h with
 | bot v=>exact .bot v
 | v x=>exact .v x
 | agg h1 _ ih=>exact .agg h1 ih
 | tup h1 _ ih=>exact .tup h1 ih
 | sl h1 h2 h3 h4 h5 _ ih=>exact .sl (hA _ h1) h2 h3 (fun j hj=>(World.cell?_of_block (a:=⟨_,_,none⟩) (hw _ h1)).trans (h4 j hj)) h5 ih
 | slnil z=>exact .slnil z
 | slemp z a cap=>exact .slemp z a cap
 | ep h1 h2 _ ih=>exact .ep (hA _ h1) (fun j hj=>(World.cell?_of_block (a:=⟨_,_,none⟩) (hw _ h1)).trans (h2 j hj)) ih
 | fn h0 h1 _ ih=>exact .fn h0 h1 ih
 | ifc h0 _ ih=>exact .ifc h0 ih
def zcg (σ σ':Nat->Option Nat) (w w':World) (s:Nat):Prop :=
 σ' s=σ s∧∀ b cs el,σ s=some b->w.heap[b]? = some (.cells cs el (0,0))->∃ aE,w'.heap[b]? = some (.cells aE el (0,0))∧aE.size=cs.size
def VR.mono {S:Seat} {A A':Nat->Prop} {σ σ':Nat->Option Nat} {w w':World} (hA:∀ b,A b->A' b) (hw:∀ b,A b->w'.heap[b]? = w.heap[b]?) {x:AV} {v:Value} (h:VR S A σ w x v)
  (hs:∀ s∈x.refs,zcg σ σ' w w' s):VR S A' σ' w' x v:=by
 induction h with
 | of0 h=>exact .of0 (h.mono hA hw)
 | agg h1 _ ih=>exact .agg h1 fun i x hx=>ih i x hx fun s hm=>hs s (by rw[AV.refs,ze];exact ⟨x,Ad hx,hm⟩)
 | tup h1 _ ih=>exact .tup h1 fun i x hx=>ih i x hx fun s hm=>hs s (by rw[AV.refs,ze];exact ⟨x,Ad hx,hm⟩)
 | fn h0 h1 _ ih=>exact .fn h0 h1 fun i x hx=>ih i x hx fun s hm=>hs s (by rw[AV.refs,ze];exact ⟨x,Ad hx,hm⟩)
 | ifc h0 _ ih=>exact .ifc h0 (ih fun s hm=>hs s (by rw[AV.refs];exact hm))
 | pv h=>exact .pv ((hs _ (by rw[AV.refs];exact Ai)).1.trans h)
 | pe h=>exact .pe ((hs _ (by rw[AV.refs];exact Ai)).1.trans h)
 | lsl h1 h2 h3 h4 h5 h6 =>obtain ⟨k1,k2⟩:=hs _ (by rw[AV.refs];exact Ai);obtain ⟨aE,h7,h8⟩:=k2 _ _ _ h1 h4;exact .lsl (k1.trans h1) h2 h3 h7 (by omega) h6
 | lslnil h=>exact .lslnil ((hs _ (by rw[AV.refs];exact Ai)).1.trans h)
def VR.to0 {S:Seat} {A:Nat->Prop} {σ:Nat->Option Nat} {w:World} {x:AV} {v:Value} (h:VR S A σ w x v) (hr:x.refs=[]):VR0 S A w x v:=by
 induction h with
 | of0 h=>exact h
 | agg h1 _ ih=>exact .agg h1 fun i x hx=>ih i x hx (by
   rw[AV.refs] at hr;exact Ay.2 fun s hs=>by have:=ze.2 ⟨x,Ad hx,hs⟩;rw[hr] at this;cases this)
 | tup h1 _ ih=>exact .tup h1 fun i x hx=>ih i x hx (by
   rw[AV.refs] at hr;exact Ay.2 fun s hs=>by have:=ze.2 ⟨x,Ad hx,hs⟩;rw[hr] at this;cases this)
 | fn h0 h1 _ ih=>exact .fn h0 h1 fun i x hx=>ih i x hx (by
   rw[AV.refs] at hr;exact Ay.2 fun s hs=>by have:=ze.2 ⟨x,Ad hx,hs⟩;rw[hr] at this;cases this)
 | ifc h0 _ ih=>exact .ifc h0 (ih (by rw[AV.refs] at hr;exact hr))
 | pv _=>simp[AV.refs] at hr
 | pe _=>simp[AV.refs] at hr
 | lsl=>simp[AV.refs] at hr
 | lslnil=>simp[AV.refs] at hr
def qm (S:Seat) (A:Nat->Prop) (w:World) (b?:Option Nat) (z:Nat) (es:List (List AV)) (v:Value):Prop :=
 (∀ e∈es,e.length=z) ∧
 ((b? = none∧es=[]∧v=.slice none 0 0) ∨
  ∃ b cap vs el,b? = some b∧v=.slice (some ⟨b,0,none⟩) es.length cap∧es.length<=cap∧cap<=maxLen∧w.heap[b]? = some (.cells vs el (0,0))∧cap * z<=vs.size∧(∀ j,j < es.length * z->(vs.getD j undef).oneCell'=true) ∧
   ∀ (i:Nat) (e:List AV) (c:Nat) (x:AV),es[i]? = some e->e[c]? = some x->VR0 S A w x (vs.getD (i * z+c) undef))
def wR (S:Seat) (A:Nat->Prop) (σ:Nat->Option Nat) (w:World) (s:Nat):Blk->Prop
 | .var cs=>∃ b vs el,σ s=some b∧w.heap[b]? = some (.cells vs el (0,0))∧cs.length<=vs.size∧∀ (i:Nat) (x:AV),cs[i]? = some x->VR S A σ w x (vs.getD i undef)
 | .arr z es=>(∀ e∈es,e.length=z) ∧
   ((σ s=none∧es=[])∨∃ b vs el,σ s=some b∧w.heap[b]? = some (.cells vs el (0,0))∧es.length * z<=vs.size∧(∀ j,j < es.length * z->(vs.getD j undef).oneCell'=true) ∧
    ∀ (i:Nat) (e:List AV) (c:Nat) (x:AV),es[i]? = some e->e[c]? = some x->VR0 S A w x (vs.getD (i * z+c) undef))
structure KeepO (O:Nat->Prop) (w w':World):Prop where
 os:w'.os=w.os
 tape:w'.tape=w.tape
 output:w'.output=w.output
 size:w.heap.size<=w'.heap.size
 block:∀ k,k < w.heap.size->¬ O k->w'.heap[k]? = w.heap[k]?
def KeepO.refl (O:Nat->Prop) (w:World):KeepO O w w:=⟨rfl,rfl,rfl,AF _,fun _ _ _=>rfl⟩
def KeepO.trans {O:Nat->Prop} {a b c:World} (h:KeepO O a b) (k:KeepO O b c):KeepO O a c :=
 ⟨k.os.trans h.os,k.tape.trans h.tape,k.output.trans h.output,AO h.size k.size,fun i hi hn=>(k.block i (AQ hi h.size) hn).trans (h.block i hi hn)⟩
structure Kept where
 b:Option Nat
 z:Nat
 n:Nat
 el:TypeId
 m:Nat
structure Hnd where
 o:Nat->Prop
 k:Nat->Option Kept
instance : CoeFun Hnd (fun _ => Nat → Prop) := ⟨Hnd.o⟩
instance : Coe Hnd (Nat → Prop) := ⟨Hnd.o⟩
def KpOk (O:Hnd) (σ:Nat->Option Nat) (w:World) (hp:Nat->Option Blk):Prop :=
 ∀ s e,O.k s=some e->zbI s=true∧σ s=e.b∧(∃ es,hp s=some (.arr e.z es)∧es.length=e.n)∧∀ b,e.b=some b->∃ cs,w.heap[b]? = some (.cells cs e.el (0,0))∧cs.size=e.m
def KpOk.of {O:Hnd} {σ σ':Nat->Option Nat} {w w':World} {hp bV:Nat->Option Blk} (h:KpOk O σ w hp)
  (hk:∀ s,zbI s=true->hp s≠none->zcg σ σ' w w' s∧∀ z es,hp s=some (.arr z es)->∃ aX,bV s=some (.arr z aX)∧aX.length=es.length):KpOk O σ' w' bV:=by
 intro s e he;obtain ⟨h1,h2,⟨es,h3,h4⟩,h5⟩:=h s e he;obtain ⟨⟨k1,k2⟩,k3⟩:=hk s h1 (by rw[h3];simp);obtain ⟨aX,k4,k5⟩:=k3 _ _ h3;refine ⟨h1,k1.trans h2,⟨aX,k4,by omega⟩,fun b hb => ?_⟩;obtain ⟨cs,h6,h7⟩:=h5 b hb;obtain ⟨aE,h8,h9⟩:=k2 b cs e.el (h2.trans hb) h6;exact ⟨aE,h8,by omega⟩
def KpOk.same {O:Hnd} {σ σ':Nat->Option Nat} {w w':World} {hp bV:Nat->Option Blk} (h:KpOk O σ w hp)
  (hs:∀ s,hp s≠none->zcg σ σ' w w' s) (hh:∀ s z es,hp s=some (.arr z es)->zbI s=true->bV s=some (.arr z es)):KpOk O σ' w' bV :=
 h.of fun s hf hn=>⟨hs s hn,fun z es he=>⟨es,hh s z es he hf,rfl⟩⟩
def Inv (S:Seat) (w:World):Prop:=(∀ p∈S.glob,w.cell? ⟨p.1,0,none⟩=some p.2)∧(∀ b∈S.more,b < w.heap.size)∧S.hold w
def Inv.lt {S:Seat} {w:World} (h:Inv S w):∀ b∈S.globB,b < w.heap.size:=by
 intro b hb;rcases Aj.1 hb with hb | hb
 ·obtain ⟨p,hp,rfl⟩:=Al.1 hb;exact World.block_lt_of_cell? w ⟨p.1,0,none⟩ (h.1 p hp)
 ·exact h.2.1 b hb
def Inv.keep {S:Seat} {O:Nat->Prop} {w w':World} (h:Inv S w) (hO:∀ b∈S.globB,¬ O b) (hk:KeepO O w w'):Inv S w':=by have hb:∀ b∈S.globB,w'.heap[b]? = w.heap[b]?:=fun b hb=>hk.block b (h.lt b hb) (hO b hb);refine ⟨fun p hp => ?_,fun b aq=>AQ (h.2.1 b aq) hk.size,S.holdK w w' (fun b aq=>⟨h.2.1 b aq,hb b (Aj.2 (.inr aq))⟩) h.2.2⟩;exact (World.cell?_of_block (a:=⟨p.1,0,none⟩) (hb p.1 (Aj.2 (.inl (Al.2 ⟨p,hp,rfl⟩))))).trans (h.1 p hp)
structure SRel (S:Seat) (A0:Nat->Prop) (O:Hnd) (w0:World) (A:Nat->Prop) (σ:Nat->Option Nat) (w:World) (st:ASt) (tm:Array Value):Prop where
 fr:∀ k,VR S A σ w (st.fr k) (tm.getD k undef)
 hp:∀ s blk,st.hp s=some blk->wR S A σ w s blk
 dang:∀ k s,s∈(st.fr k).refs->st.hp s≠none
 dangV:∀ s cs,st.hp s=some (.var cs)->∀ s'∈AV.refsL cs,st.hp s'≠none
 dom:∀ s b,σ s=some b->st.hp s≠none∧b < w.heap.size∧¬ A b∧(w0.heap.size<=b∨O b)
 inj:∀ s s' b,σ s=some b->σ s'=some b->s=s'
 Alt:∀ b,A b->b < w.heap.size
 Asub:∀ b,A b->A0 b∨w0.heap.size<=b∨O b
 keep:KeepO O w0 w
 kp:KpOk O σ w st.hp
 Olt:(∀ b,O b->b < w0.heap.size)∧(∀ b∈S.globB,¬ O b)∧Inv S w0
structure Got (S:Seat) (A:Nat->Prop) (σ:Nat->Option Nat) (w:World) (st:ASt) (x:AV) (v:Value):Prop where
 rel:VR S A σ w x v
 dang:∀ s∈x.refs,st.hp s≠none
section
variable {S:Seat} {A0:Nat->Prop} {O:Hnd} {w0:World} {A:Nat->Prop} {σ:Nat->Option Nat} {w:World} {st:ASt} {tm:Array Value}
def SRel.inv (h:SRel S A0 O w0 A σ w st tm):Inv S w:=h.Olt.2.2.keep h.Olt.2.1 h.keep
def SRel.ev (h:SRel S A0 O w0 A σ w st tm) {df:List Deferred} {x:Operand} {a:AOpd} (hc:qp S x=some a):Got S A σ w st (st.ev a) (Act.eval ⟨tm,df⟩ x):=by
 cases x with
 | tmp t=>simp only[qp,Option.some.injEq] at hc;subst hc;exact ⟨h.fr t,h.dang t⟩
 | const v =>
  simp only[qp] at hc;split at hc
  ·cases hc;exact ⟨.of0 (.v v),by simp[ASt.ev,AV.refs]⟩
  ·cases hc
 | func f =>simp only[qp,Ag] at hc;obtain ⟨id,h1,rfl⟩:=hc;exact ⟨.of0 (.fn h1 (by simp) (by simp)),by simp[ASt.ev,AV.refs,AV.refsL]⟩
 | global g=>simp[qp] at hc
def SRel.put (h:SRel S A0 O w0 A σ w st tm) {d:Nat} (hd:d < tm.size) {x:AV} {v:Value} (hg:Got S A σ w st x v):SRel S A0 O w0 A σ w (st.put d x) (tm.setIfInBounds d v):=by
 refine ⟨fun k => ?_,h.hp,fun k s hs => ?_,h.dangV,h.dom,h.inj,h.Alt,h.Asub,h.keep,h.kp,h.Olt⟩
 ·rw[yI _ _ _ _ _ hd];simp only[ASt.put,upd];split
  ·exact hg.rel
  ·exact h.fr k
 ·simp only[ASt.put,upd] at hs ⊢;split at hs
  ·exact hg.dang s hs
  ·exact h.dang k s hs
end
structure JR (S:Seat) (A0 O:Nat->Prop) (w0:World):Prop where
 jn:S.jn w0
 lt:∀ b,S.jg b->b < w0.heap.size
 na:∀ b,S.jg b->¬ A0 b
 no:∀ b,S.jg b->¬ O b
 ng:∀ b∈S.globB,¬ S.jg b
def JR.mono {S:Seat} {A A' O O':Nat->Prop} {w:World} (h:JR S A O w) (h1:∀ b,A' b->A b) (h2:∀ b,O' b->O b):JR S A' O' w :=
 ⟨h.jn,h.lt,fun b hb ha=>h.na b hb (h1 b ha),fun b hb ha=>h.no b hb (h2 b ha),h.ng⟩
def JR.none {S:Seat} (h1:∀ b,¬ S.jg b) (h2:∀ w,S.jn w) (A O:Nat->Prop) (w:World):JR S A O w :=
 ⟨h2 w,fun b hb=>absurd hb (h1 b),fun b hb=>absurd hb (h1 b),fun b hb=>absurd hb (h1 b),fun b _=>h1 b⟩
structure RebR (S:Seat) (w w':World):Prop where
 os:w'.os=w.os
 tape:w'.tape=w.tape
 output:w'.output=w.output
 size:w'.heap.size=w.heap.size
 block:∀ b,¬ S.jg b->w'.heap[b]? = w.heap[b]?
def RebR.refl (S:Seat) (w:World):RebR S w w:=⟨rfl,rfl,rfl,rfl,fun _ _=>rfl⟩
def RebR.trans {S:Seat} {a b c:World} (h:RebR S a b) (k:RebR S b c):RebR S a c :=
 ⟨k.os.trans h.os,k.tape.trans h.tape,k.output.trans h.output,k.size.trans h.size,fun i hi=>(k.block i hi).trans (h.block i hi)⟩
def RebR.keep {S:Seat} {O:Nat->Prop} {a b c:World} (h:RebR S a b) (k:KeepO O b c):KeepO (fun i=>O i∨S.jg i) a c :=
 ⟨k.os.trans h.os,k.tape.trans h.tape,k.output.trans h.output,by rw[← h.size];exact k.size,fun i hi hn=>(k.block i (by rw[h.size];exact hi) fun e=>hn (.inl e)).trans (h.block i fun e=>hn (.inr e))⟩
open Classical in
noncomputable def zeF (S:Seat) (w w':World):World:={ w with heap:=w.heap.mapIdx fun i o=>if S.jg i then (w'.heap[i]?).getD o else o }
section
variable {S:Seat} {A0 O:Nat->Prop} {w0 w w':World}
def z6:(zeF S w w').heap.size=w.heap.size:=by simp[zeF]
def yD {b:Nat} (h:¬ S.jg b):(zeF S w w').heap[b]? = w.heap[b]?:=by simp only[zeF,Array.getElem?_mapIdx,if_neg h];cases w.heap[b]?<;>rfl
def zfw {b:Nat} (h:S.jg b) (h1:b < w.heap.size) (h2:b < w'.heap.size):(zeF S w w').heap[b]? = w'.heap[b]?:=by simp only[zeF,Array.getElem?_mapIdx,if_pos h,Be h1,Be h2,AN,Ba]
def zdr:RebR S w (zeF S w w'):=⟨rfl,rfl,rfl,z6,fun _ h=>yD h⟩
def KeepO.reb (h:KeepO (fun b=>O b∨S.jg b) w w'):KeepO O (zeF S w w') w' :=
 ⟨h.os,h.tape,h.output,by rw[z6];exact h.size,fun k hk hO=>by
  rw[z6] at hk;by_cases c:S.jg k
  ·rw[zfw c hk (AQ hk h.size)]
  ·rw[yD c];exact h.block k hk fun e=>e.elim hO c⟩
def KeepO.rebN (h:KeepO S.jg w w'):KeepO (fun _=>False) (zeF S w w') w' :=
 KeepO.reb ⟨h.os,h.tape,h.output,h.size,fun k hk hO=>h.block k hk fun e=>hO (.inr e)⟩
def JR.after (h:JR S A0 O w) (hk:KeepO (fun _=>False) w w'):S.jn w':=S.jnK w w' (fun b hb=>⟨h.lt b hb,hk.block b (h.lt b hb) fun e=>e⟩) h.jn
end
end
section
open Go Go.RowKit
section
variable {S:Seat} {A:Nat->Prop} {σ:Nat->Option Nat} {w:World}
def VR.v_inv {x y:Value} (h:VR S A σ w (.v x) y):y=x:=by
 cases h with
 | of0 h=>cases h;rfl
def VR.agg_inv {cs:List AV} {y:Value} (h:VR S A σ w (.agg cs) y):∃ vs,y=.agg vs∧cs.length=vs.size∧∀ (i:Nat) (x:AV),cs[i]? = some x->VR S A σ w x (vs.getD i undef):=by
 cases h with
 | of0 h=>cases h with | agg h1 h2=>exact ⟨_,rfl,h1,fun i x hx=>.of0 (h2 i x hx)⟩
 | agg h1 h2=>exact ⟨_,rfl,h1,h2⟩
def VR.tup_inv {cs:List AV} {y:Value} (h:VR S A σ w (.tup cs) y):∃ vs,y=.tuple vs∧cs.length=vs.size∧∀ (i:Nat) (x:AV),cs[i]? = some x->VR S A σ w x (vs.getD i undef):=by
 cases h with
 | of0 h=>cases h with | tup h1 h2=>exact ⟨_,rfl,h1,fun i x hx=>.of0 (h2 i x hx)⟩
 | tup h1 h2=>exact ⟨_,rfl,h1,h2⟩
def VR.fn_inv {f:Nat} {cs:List AV} {y:Value} (h:VR S A σ w (.fn f cs) y):∃ g vs,y=.func (.func g) #[] vs∧qy g S.fns=some f∧cs.length=vs.size∧∀ (i:Nat) (x:AV),cs[i]? = some x->VR S A σ w x (vs.getD i undef):=by
 cases h with
 | of0 h=>cases h with | fn h0 h1 h2=>exact ⟨_,_,rfl,h0,h1,fun i x hx=>.of0 (h2 i x hx)⟩
 | fn h0 h1 h2=>exact ⟨_,_,rfl,h0,h1,h2⟩
def VR.ifc_inv {t:Nat} {x:AV} {y:Value} (h:VR S A σ w (.ifc t x) y):∃ T v,y=.iface T v∧VR S A σ w x v:=by
 cases h with
 | of0 h=>cases h with | ifc h0 h1=>exact ⟨_,_,rfl,.of0 h1⟩
 | ifc h0 h1=>exact ⟨_,_,rfl,h1⟩
def VR.pv_inv {s off:Nat} {y:Value} (h:VR S A σ w (.pv s off) y):∃ b,y=.pointer (some ⟨b,off,none⟩)∧σ s=some b:=by
 cases h with
 | of0 h=>cases h
 | pv h=>exact ⟨_,rfl,h⟩
def VR.pe_inv {s z i off:Nat} {y:Value} (h:VR S A σ w (.pe s z i off) y):∃ b,y=.pointer (some ⟨b,i * z+off,none⟩)∧σ s=some b:=by
 cases h with
 | of0 h=>cases h
 | pe h=>exact ⟨_,rfl,h⟩
def VR.ep_inv {cs:List AV} {off:Nat} {y:Value} (h:VR S A σ w (.ep cs off) y) :
  ∃ b o,∃ u:Nat->Value,y=.pointer (some ⟨b,o+off,none⟩)∧A b∧(∀ j,j < cs.length->w.cell? ⟨b,o+j,none⟩=some (u j))∧(∀ (j:Nat) (x:AV),cs[j]? = some x->VR0 S A w x (u j)):=by
 cases h with
 | of0 h=>cases h with | ep h1 h2 h3=>exact ⟨_,_,_,rfl,h1,h2,h3⟩
def VR.sl_inv {z:Nat} {es:List (List AV)} {y:Value} (h:VR S A σ w (.sl z es) y) :
  (es=[]∧y=.slice none 0 0)∨(∃ b o cap,∃ u:Nat->Value,y=.slice (some ⟨b,o,none⟩) es.length cap∧A b∧es.length<=cap∧(∀ e∈es,e.length=z)∧(∀ j,j < es.length * z->w.cell? ⟨b,o+j,none⟩=some (u j))∧(∀ j,j < es.length * z->(u j).oneCell'=true) ∧
   (∀ (i:Nat) (e:List AV) (c:Nat) (x:AV),es[i]? = some e->e[c]? = some x->VR0 S A w x (u (i * z+c))))∨(es=[]∧∃ a cap,y=.slice (some a) 0 cap):=by
 cases h with
 | of0 h =>
  cases h with
  | sl h1 h2 h3 h4 h5 h6=>exact .inr (.inl ⟨_,_,_,_,rfl,h1,h2,h3,h4,h5,h6⟩)
  | slnil=>exact .inl ⟨rfl,rfl⟩
  | slemp z a cap=>exact .inr (.inr ⟨rfl,_,_,rfl⟩)
def VR.lsl_inv {s z off len:Nat} {y:Value} (h:VR S A σ w (.lsl s z off len) y) :
  (off=0∧len=0∧σ s=none∧y=.slice none 0 0)∨∃ b o cap cs el,y=.slice (some ⟨b,o,none⟩) len cap∧σ s=some b∧len<=cap∧(cap≠0∨off=0->o=off * z)∧w.heap[b]? = some (.cells cs el (0,0)) ∧
   (off+cap) * z<=cs.size∧cap<=maxLen:=by
 cases h with
 | of0 h=>cases h
 | lsl h1 h2 h3 h4 h5 h6=>exact .inr ⟨_,_,_,_,_,rfl,h1,h2,h3,h4,h5,h6⟩
 | lslnil h=>exact .inl ⟨rfl,rfl,h,rfl⟩
def VR.cell1 {x:AV} {y:Value} (h:VR S A σ w x y) (hc:x.cell1=true):y.oneCell'=true:=by
 cases h with
 | of0 h =>
  cases h with
  | v=>cases y<;>simp_all[AV.cell1,Value.oneCell']
  | _=>simp_all[AV.cell1,Value.oneCell']
 | _=>simp_all[AV.cell1,Value.oneCell']
def zfE {y:Value} (h:y.oneCell'=true):y.cells=#[y]:=by cases y<;>simp_all[Value.oneCell',Value.cells]
def VR.cells {x:AV} {y:Value} {cs:List AV} (h:VR S A σ w x y) (hc:x.cells=some cs) :
  cs.length=y.cells.size∧(∀ (i:Nat) (a:AV),cs[i]? = some a->VR S A σ w a (y.cells.getD i undef))∧(∀ v∈y.cells.toList,v.oneCell'=true)∧(∀ s,s∈AV.refsL cs↔s∈x.refs):=by
 by_cases hx:∃ ds,x=.agg ds
 ·obtain ⟨ds,rfl⟩:=hx;obtain ⟨vs,rfl,h1,h2⟩:=h.agg_inv;simp only[AV.cells] at hc;split at hc
  ·rename_i hall;have hc:=Option.some.inj hc;subst hc;refine ⟨h1,h2,fun v hv => ?_,fun s=>by rw[AV.refs]⟩;obtain ⟨i,hi⟩:=AJ.1 hv;have aP:i < vs.size:=by simpa[Value.cells] using (Ac.1 hi).1
   have ak:ds[i]? = some (ds[i]'(by omega)):=Aa _;have hr:=(h2 i _ ak).cell1 (Af.1 hall _ (Az _));have e:vs.getD i undef=v:=(by rw[An];simp only[Value.cells,Bp] at hi;rw[hi];rfl)
   rwa [e] at hr
  ·cases hc
 ·have dV:x.cell1=true∧cs=[x]:=(by cases x<;>simp_all[AV.cells]);obtain ⟨h1,rfl⟩:=dV;have aV:=h.cell1 h1;rw[zfE aV];refine ⟨rfl,fun i a ha => ?_,by simpa using aV,fun s=>by simp[AV.refsL]⟩;cases i with
  | zero=>simp at ha;subst ha;simpa[Array.getD] using h
  | succ i=>simp at ha
end
def wy (S:Seat) (A0:Nat->Prop) (O:Hnd) (w0 w:World) (tm:Array Value) (df:List Deferred) (o:Oper) (v:AV) (aa:ASt):Prop :=
 ∃ n w' A' σ',(execOp (Act.eval ⟨tm,df⟩) o).run S.P w=.ok n w'∧SRel S A0 O w0 A' σ' w' aa tm∧((∃ rv,n=.value rv∧Got S A' σ' w' aa v rv)∨(n=.skip∧v=.bot))
section
variable {S:Seat} {A0:Nat->Prop} {O:Hnd} {w0:World} {A:Nat->Prop} {σ:Nat->Option Nat} {w:World} {st aa:ASt} {tm:Array Value} {df:List Deferred} {o:Oper} {v:AV} {d:Nat}
def wy.same {rv:Value} (h:SRel S A0 O w0 A σ w st tm) (hr:(execOp (Act.eval ⟨tm,df⟩) o).run S.P w=.ok (.value rv) w) (hg:Got S A σ w st v rv):wy S A0 O w0 w tm df o v st :=
 ⟨_,w,A,σ,hr,h,.inl ⟨rv,rfl,hg⟩⟩
def zeK (x:Value):Got S A σ w st (.v x) x:=⟨.of0 (.v x),by simp[AV.refs]⟩
def op_mov (h:SRel S A0 O w0 A σ w st tm) {x:Operand} {a:AOpd} (ho:o.op=.move x∨o.op=.assign x) (hc:qp S x=some a) (ha:aop (.mov a) d st=some (v,aa)):wy S A0 O w0 w tm df o v aa:=by simp only[aop,Option.some.injEq,Prod.mk.injEq] at ha;obtain ⟨rfl,rfl⟩:=ha;exact .same h (rv:=Act.eval ⟨tm,df⟩ x) (by rcases ho with ho | ho<;>simp[execOp,ho]) (h.ev hc)
def op_pick (h:SRel S A0 O w0 A σ w st tm) {c x y:Operand} {c' x' y':AOpd} (ho:o.op=.pick c x y) (h1:qp S c=some c') (h2:qp S x=some x') (h3:qp S y=some y')
  (ha:aop (.pick c' x' y') d st=some (v,aa)):wy S A0 O w0 w tm df o v aa:=by
 have g1:=h.ev (df:=df) h1;simp only[aop] at ha;split at ha
 ·rename_i t ht;simp only[Option.some.injEq,Prod.mk.injEq] at ha;obtain ⟨rfl,rfl⟩:=ha;rw[ht] at g1;have e:=g1.rel.v_inv;refine .same h (rv:=if t then Act.eval ⟨tm,df⟩ x else Act.eval ⟨tm,df⟩ y) (by simp[execOp,ho,e,asBool]) ?_;cases t
  ·exact h.ev h3
  ·exact h.ev h2
 ·cases ha
def op_chk (h:SRel S A0 O w0 A σ w st tm) {x:Operand} {x':AOpd} (ho:o.op=.nilCheck x) (h1:qp S x=some x') (ha:aop (.chk x') d st=some (v,aa)):wy S A0 O w0 w tm df o v aa:=by
 have g1:=h.ev (df:=df) h1;simp only[aop] at ha;split at ha
 ·rename_i s off he;simp only[Option.some.injEq,Prod.mk.injEq] at ha;obtain ⟨rfl,rfl⟩:=ha;rw[he] at g1;obtain ⟨b,e,_⟩:=g1.rel.pv_inv;exact .same h (by simp[execOp,ho,e]) (e ▸ g1)
 ·rename_i s z i off he;simp only[Option.some.injEq,Prod.mk.injEq] at ha;obtain ⟨rfl,rfl⟩:=ha;rw[he] at g1;obtain ⟨b,e,_⟩:=g1.rel.pe_inv;exact .same h (by simp[execOp,ho,e]) (e ▸ g1)
 ·rename_i cs off he;simp only[Option.some.injEq,Prod.mk.injEq] at ha;obtain ⟨rfl,rfl⟩:=ha;rw[he] at g1;obtain ⟨b,o',u,e,_⟩:=g1.rel.ep_inv;exact .same h (by simp[execOp,ho,e]) (e ▸ g1)
 ·rename_i f caps he;simp only[Option.some.injEq,Prod.mk.injEq] at ha;obtain ⟨rfl,rfl⟩:=ha;rw[he] at g1;obtain ⟨g,vs,e,_⟩:=g1.rel.fn_inv;exact .same h (by simp[execOp,ho,e]) (e ▸ g1)
 ·cases ha
def op_ext (h:SRel S A0 O w0 A σ w st tm) {x:Operand} {x':AOpd} {i:Nat} (ho:o.op=.extract x i) (h1:qp S x=some x') (ha:aop (.ext x' i) d st=some (v,aa)):wy S A0 O w0 w tm df o v aa:=by
 have g1:=h.ev (df:=df) h1;simp only[aop] at ha;split at ha
 ·rename_i vs he;split at ha
  ·rename_i y hy;simp only[Option.some.injEq,Prod.mk.injEq] at ha;obtain ⟨rfl,rfl⟩:=ha;rw[he] at g1;obtain ⟨us,e,hl,hv⟩:=g1.rel.tup_inv;have hi:i < us.size:=by have:=(Ac.1 hy).1;omega
   refine .same h (rv:=us.getD i undef) ?_ ⟨hv i _ hy,fun s hs=>g1.dang s (by rw[AV.refs,ze];exact ⟨_,Ad hy,hs⟩)⟩;simp[execOp,ho,e,Instr.extract,Array.getD,hi]
  ·cases ha
 ·cases ha
def op_ifc (h:SRel S A0 O w0 A σ w st tm) {t:TypeId} {x:Operand} {x':AOpd} {k:Nat} (ho:o.op=.makeInterface t x) (h1:qp S x=some x') (hk:qy t S.tys=some k)
  (hu:(∃ i,S.P.underlying t=some (.int i))∨∃ fs,S.P.underlying t=some (.struct fs)) (ha:aop (.ifc k x') d st=some (v,aa)):wy S A0 O w0 w tm df o v aa:=by
 have g1:=h.ev (df:=df) h1;simp only[aop,Option.some.injEq,Prod.mk.injEq] at ha;obtain ⟨rfl,rfl⟩:=ha;refine .same h (rv:=.iface t (Act.eval ⟨tm,df⟩ x)) ?_ ⟨.ifc hk g1.rel,fun s hs=>g1.dang s (by rw[AV.refs] at hs;exact hs)⟩;rcases hu with ⟨i,hu⟩ | ⟨fs,hu⟩<;>simp[execOp,ho,Instr.makeInterface,run_underlying hu]
def op_un (h:SRel S A0 O w0 A σ w st tm) {op:UnOp} {t:TypeId} {x:Operand} {x':AOpd} (ho:o.op=.unOp op t x) (h1:qp S x=some x') (ha:aop (.un op x') d st=some (v,aa)):wy S A0 O w0 w tm df o v aa:=by
 have g1:=h.ev (df:=df) h1;simp only[aop] at ha;split at ha
 ·rename_i y he;rw[he] at g1;have e:=g1.rel.v_inv;split at ha
  ·rename_i r hr;simp only[Option.some.injEq,Prod.mk.injEq] at ha;obtain ⟨rfl,rfl⟩:=ha;refine .same h (rv:=r) ?_ (zeK r);unfold unV at hr;split at hr
   ·cases hr;simp[execOp,ho,e,Op.unary,Op.intArith]
   ·cases hr;simp[execOp,ho,e,Op.unary]
   ·cases hr
  ·cases ha
 ·cases ha
def op_cvi (h:SRel S A0 O w0 A σ w st tm) {s t:TypeId} {k k0:IntKind} {x:Operand} {x':AOpd} (ho:o.op=.convert s t x) (hs:S.P.underlying s=some (.int k0)) (ht:S.P.underlying t=some (.int k)) (h1:qp S x=some x')
  (ha:aop (.cvi k x') d st=some (v,aa)):wy S A0 O w0 w tm df o v aa:=by
 have g1:=h.ev (df:=df) h1;simp only[aop] at ha;split at ha
 ·rename_i k1 n he;rw[he] at g1;have e:=g1.rel.v_inv;simp only[Option.some.injEq,Prod.mk.injEq] at ha;obtain ⟨rfl,rfl⟩:=ha;exact .same h (rv:=.int k (k.wrap n)) (by simp[execOp,ho,e,convert,run_underlying hs,run_underlying ht,Conv.intToInt]) (zeK _)
 ·cases ha
def op_max (h:SRel S A0 O w0 A σ w st tm) {x y:Operand} {x' y':AOpd} {ts:Array TypeId} (ho:o.op=.call { callee:=.builtin .max,args:=#[x,y],argTypes:=ts }) (h1:qp S x=some x') (h2:qp S y=some y')
  (ha:aop (.max2 x' y') d st=some (v,aa)):wy S A0 O w0 w tm df o v aa:=by
 have g1:=h.ev (df:=df) h1;have g2:=h.ev (df:=df) h2;simp only[aop] at ha;split at ha
 ·rename_i k a k' b db da;rw[db] at g1;rw[da] at g2;have e1:=g1.rel.v_inv;have e2:=g2.rel.v_inv;simp only[Option.some.injEq,Prod.mk.injEq] at ha;obtain ⟨rfl,rfl⟩:=ha;exact .same h (rv:=.int k (if b > a then b else a)) (by simp[execOp,ho,e1,e2,resolve,invoke,builtin,Builtin.max_,Builtin.max2]) (zeK _)
 ·cases ha
def op_lenS (h:SRel S A0 O w0 A σ w st tm) {t:TypeId} {x:Operand} {x':AOpd} (ho:o.op=.call { callee:=.builtin .len,args:=#[x],argTypes:=#[t] }) (hu:S.P.underlying t=some .string) (h1:qp S x=some x')
  (ha:aop (.len true x') d st=some (v,aa)):wy S A0 O w0 w tm df o v aa:=by
 have g1:=h.ev (df:=df) h1;simp only[aop,if_true] at ha;split at ha
 ·rename_i s he;rw[he] at g1;have e:=g1.rel.v_inv;simp only[Option.some.injEq,Prod.mk.injEq] at ha;obtain ⟨rfl,rfl⟩:=ha;exact .same h (rv:=.int .i64 s.size) (by simp[execOp,ho,e,resolve,invoke,builtin,Builtin.len_,run_underlying hu,goInt]) (zeK _)
 ·cases ha
def op_len (h:SRel S A0 O w0 A σ w st tm) {t e:TypeId} {x:Operand} {x':AOpd} (ho:o.op=.call { callee:=.builtin .len,args:=#[x],argTypes:=#[t] }) (hu:S.P.underlying t=some (.slice e)) (h1:qp S x=some x')
  (ha:aop (.len false x') d st=some (v,aa)):wy S A0 O w0 w tm df o v aa:=by
 have g1:=h.ev (df:=df) h1;simp only[aop,Ao,if_false] at ha;have slice:∀ b n c,Act.eval ⟨tm,df⟩ x=.slice b n c->(execOp (Act.eval ⟨tm,df⟩) o).run S.P w=.ok (.value (.int .i64 n)) w:=(by intro b n c e;simp[execOp,ho,e,resolve,invoke,builtin,Builtin.len_,run_underlying hu,goInt]);split at ha
 ·rename_i he;rw[he] at g1;have e:=g1.rel.v_inv;simp only[Option.some.injEq,Prod.mk.injEq] at ha;obtain ⟨rfl,rfl⟩:=ha;exact .same h (slice _ _ _ e) (zeK _)
 ·rename_i z es he;rw[he] at g1;simp only[Option.some.injEq,Prod.mk.injEq] at ha;obtain ⟨rfl,rfl⟩:=ha;rcases g1.rel.sl_inv with ⟨rfl,e⟩ | ⟨b,o',cap,u,e,_⟩ | ⟨rfl,a,cap,e⟩
  ·exact .same h (slice _ _ _ e) (zeK _)
  ·exact .same h (slice _ _ _ e) (zeK _)
  ·exact .same h (slice _ _ _ e) (zeK _)
 ·rename_i s z off n he;rw[he] at g1;simp only[Option.some.injEq,Prod.mk.injEq] at ha;obtain ⟨rfl,rfl⟩:=ha;rcases g1.rel.lsl_inv with ⟨_,rfl,_,e⟩ | ⟨b,o',cap,cs,el,e,_⟩
  ·exact .same h (slice _ _ _ e) (zeK _)
  ·exact .same h (slice _ _ _ e) (zeK _)
 ·cases ha
end
end
section
open Go Go.RowKit
def zjA (a b:ByteArray):(a.toList == b.toList)=decide (a=b):=by
 rw[ByteArray.toList_eq,ByteArray.toList_eq];by_cases h:a=b
 ·subst h;simp
 ·have h2:¬ a.data=b.data:=(by intro e;apply h;cases a;cases b;simp_all);simp[h,h2]
def yF {S:Seat} {A:Nat->Prop} {w:World} {x:AV} {v:Value} (h:VR0 S A w x v):∀ s,s∈x.refs->False:=by
 induction h with
 | agg _ _ ih=>intro s hs;rw[AV.refs,ze] at hs;obtain ⟨x,hx,hs⟩:=hs;obtain ⟨i,hi⟩:=AJ.1 hx;exact ih i x hi s hs
 | tup _ _ ih=>intro s hs;rw[AV.refs,ze] at hs;obtain ⟨x,hx,hs⟩:=hs;obtain ⟨i,hi⟩:=AJ.1 hx;exact ih i x hi s hs
 | fn _ _ _ ih=>intro s hs;rw[AV.refs,ze] at hs;obtain ⟨x,hx,hs⟩:=hs;obtain ⟨i,hi⟩:=AJ.1 hx;exact ih i x hi s hs
 | ifc _ _ ih=>intro s hs;rw[AV.refs] at hs;exact ih s hs
 | _=>intro s hs;simp[AV.refs] at hs
section
variable {S:Seat} {A0:Nat->Prop} {O:Hnd} {w0:World} {A:Nat->Prop} {σ:Nat->Option Nat} {w:World} {st aa:ASt} {tm:Array Value} {df:List Deferred} {o:Oper} {v:AV} {d:Nat}
def zj1 {P:Program} {op:BinOp} {t:TypeId} {x y:Operand} {a b:Value} {r:Value} (h:zgz .int op a b=some r) (w:World) :
  (do eqGuard op t x y a b;binOp op t a b:Sem Value).run P w=.ok r w:=by
 cases a with
 | int k n =>
  cases b with
  | int k' m =>
   simp only[zgz] at h;split at h
   ·rename_i hk;subst hk;cases op<;>simp only[Option.some.injEq,reduceCtorEq] at h
    case eql=>subst h;simp only[eqGuard_at_int,binOp,Op.intCmp];by_cases he:n=m<;>simp[he]
    case neq=>subst h;simp only[eqGuard_at_int,binOp,Op.intCmp];by_cases he:n=m<;>simp[he]
    case quo=>split at h<;>simp_all[eqGuard_at_int,binOp,Op.intDiv]
    case rem=>split at h<;>simp_all[eqGuard_at_int,binOp,Op.intDiv]
    case shr =>
     split at h
     ·rename_i hb;subst hb;cases h;have:=shift_shr k k n 1 (by decide) (by cases k<;>decide);simp[eqGuard_at_int,binOp,this]
     ·cases h
    all_goals (subst h;simp[eqGuard_at_int,binOp,Op.intArith,Op.intCmp])
   ·cases h
  | _=>simp[zgz] at h
 | _=>simp[zgz] at h
def zj0 {P:Program} {op:BinOp} {t:TypeId} {x y:Operand} {a b:Value} {r:Value} (h:zgz .str op a b=some r) (w:World) :
  (do eqGuard op t x y a b;binOp op t a b:Sem Value).run P w=.ok r w:=by
 cases a with
 | string n =>
  cases b with
  | string m =>
   simp only[zgz] at h;cases op<;>simp only[Option.some.injEq,reduceCtorEq] at h
   case add =>
    split at h
    ·cases h;have hn:¬ ((n.size+m.size:Nat):Int) > 9223372036854775807:=by omega
     simp only[eqGuard_at_string,binOp,Op.stringOp,IntKind.max_i64];rw[if_neg hn];rfl
    ·cases h
   all_goals (subst h;simp[eqGuard_at_string,binOp,Op.stringOp,zjA,strEq])
  | _=>simp[zgz] at h
 | _=>simp[zgz] at h
def zh7 {P:Program} {op:BinOp} {t:TypeId} (ht:P.underlying t=some .bool) {x y:Operand} {a b:Value} {r:Value} (h:zgz .bool op a b=some r) (w:World) :
  (do eqGuard op t x y a b;binOp op t a b:Sem Value).run P w=.ok r w:=by
 cases a with
 | bool n =>
  cases b with
  | bool m =>
   have he:(Op.equal t (.bool n) (.bool m)).run P w=.ok (n == m) w:=run_equalIn_bool w 9999 t n m ht;simp only[zgz] at h;cases op<;>simp only[Option.some.injEq,reduceCtorEq] at h
   case eql =>
    subst h;have e:binOp .eql t (.bool n) (.bool m)=(do pure (.bool (← Op.equal t (.bool n) (.bool m)))):=rfl
    simp only[eqGuard_at_bool,e,Sem.run_bind,Sem.run_pure,Result.andThen_ok,he];cases n<;>cases m<;>rfl
   case neq =>
    subst h;have e:binOp .neq t (.bool n) (.bool m)=(do pure (.bool (!(← Op.equal t (.bool n) (.bool m))))):=rfl
    simp only[eqGuard_at_bool,e,Sem.run_bind,Sem.run_pure,Result.andThen_ok,he];cases n<;>cases m<;>rfl
  | _=>simp[zgz] at h
 | _=>simp[zgz] at h
def op_bin (h:SRel S A0 O w0 A σ w st tm) {k:Sc} {op:BinOp} {t u:TypeId} {x y:Operand} {x' y':AOpd} (ho:o.op=.binOp op t x y u) (hk:k=.bool->S.P.underlying t=some .bool)
  (h1:qp S x=some x') (h2:qp S y=some y') (ha:aop (.bin k op x' y') d st=some (v,aa)):wy S A0 O w0 w tm df o v aa:=by
 have g1:=h.ev (df:=df) h1;have g2:=h.ev (df:=df) h2;simp only[aop] at ha;split at ha
 ·rename_i a b db da;rw[db] at g1;rw[da] at g2;have e1:=g1.rel.v_inv;have e2:=g2.rel.v_inv;split at ha
  ·rename_i r hr;simp only[Option.some.injEq,Prod.mk.injEq] at ha;obtain ⟨rfl,rfl⟩:=ha;refine .same h (rv:=r) ?_ (zeK r);have key:(do eqGuard op t x y a b;binOp op t a b:Sem Value).run S.P w=.ok r w:=by
    cases k with
    | int=>exact zj1 hr w
    | str=>exact zj0 hr w
    | bool=>exact zh7 (hk rfl) hr w
   simp only[execOp,ho,e1,e2];rw[Sem.run_bind,key];rfl
  ·cases ha
 ·cases ha
def op_fa (h:SRel S A0 O w0 A σ w st tm) {t:TypeId} {x:Operand} {x':AOpd} {f n:Nat} {fs:Array Field} {fl:Field} (ho:o.op=.fieldAddr t x f) (hu:S.P.underlying t=some (.struct fs)) (hf:fs[f]? = some fl)
  (hs:wV S.P fl.type=some n) (hn:0 < n) (h1:qp S x=some x') (ha:aop (.fa fl.offset x') d st=some (v,aa)):wy S A0 O w0 w tm df o v aa:=by
 have g1:=h.ev (df:=df) h1;obtain ⟨i,hi,rfl⟩:∃ i,S.P.info? fl.type=some i∧i.size=n:=by simpa[wV] using hs
 have key:∀ b off,Act.eval ⟨tm,df⟩ x=.pointer (some ⟨b,off,none⟩)->(execOp (Act.eval ⟨tm,df⟩) o).run S.P w=.ok (.value (.pointer (some ⟨b,off+fl.offset,none⟩))) w:=by
  intro b off e;have gI:¬ i.size=0:=by omega
  simp[execOp,ho,e,Instr.fieldAt,run_underlying hu,hf,Instr.sureAddr,fieldPlace,Go.sizeOf,typeInfo,hi,gI,Addr.add_lit]
 simp only[aop] at ha;split at ha
 ·rename_i s off he;rw[he] at g1;obtain ⟨b,e,hs⟩:=g1.rel.pv_inv;simp only[Option.some.injEq,Prod.mk.injEq] at ha;obtain ⟨rfl,rfl⟩:=ha;exact .same h (key _ _ e) ⟨.pv hs,fun s' ae=>g1.dang s' (by simpa[AV.refs] using ae)⟩
 ·rename_i s z j off he;rw[he] at g1;obtain ⟨b,e,hs⟩:=g1.rel.pe_inv;simp only[Option.some.injEq,Prod.mk.injEq] at ha;obtain ⟨rfl,rfl⟩:=ha;exact .same h (key _ _ e) ⟨by rw[AY];exact .pe hs,fun s' ae=>g1.dang s' (by simpa[AV.refs] using ae)⟩
 ·rename_i cs off he;rw[he] at g1;obtain ⟨b,o',u,e,h2,h3,h4⟩:=g1.rel.ep_inv;simp only[Option.some.injEq,Prod.mk.injEq] at ha;obtain ⟨rfl,rfl⟩:=ha;exact .same h (key _ _ e) ⟨by rw[AY];exact .of0 (.ep h2 h3 h4),fun s' ae=>by simp[AV.refs] at ae⟩
 ·cases ha
def zhl (vs:Array Value) (a n i:Nat) (hi:i < n) (hn:a+n<=vs.size):(vs.extract a (a+n)).getD i undef=vs.getD (a+i) undef:=by simp only[An,Array.getElem?_extract];rw[if_pos (by omega)]
def zft {cs:List AV} {off n:Nat} {s:Nat} (h:s∈AV.refsL ((cs.drop off).take n)):s∈AV.refsL cs:=by rw[ze] at h ⊢;obtain ⟨x,hx,hs⟩:=h;exact ⟨x,Bh (Bg hx),hs⟩
def zec {P:Program} {t:TypeId} (h:cAgg P t=some none) (w:World):(isAgg t).run P w=.ok false w:=by
 unfold cAgg at h;split at h
 ·split at h
  ·split at h<;>simp at h
  ·cases h
 ·split at h
  ·split at h<;>simp at h
  ·cases h
 ·rename_i dd h1 h2 h3;unfold isAgg;rw[Sem.run_bind,run_underlying h3];cases dd<;>simp_all
 ·cases h
def zeb {P:Program} {t:TypeId} {n:Nat} (h:cAgg P t=some (some n)) (w:World):(isAgg t).run P w=.ok true w∧∃ i,P.info? t=some i∧i.size=n∧0 < n:=by
 unfold cAgg at h;have fin:∀ m,wV P t=some m->∃ i,P.info? t=some i∧i.size=m:=by intro m hm;simpa[wV] using hm
 split at h
 ·rename_i hu;split at h
  ·rename_i m hm;split at h
   ·cases h;obtain ⟨i,h1,h2⟩:=fin _ hm;exact ⟨by unfold isAgg;rw[Sem.run_bind,run_underlying hu];rfl,i,h1,h2,by assumption⟩
   ·cases h
  ·cases h
 ·rename_i hu;split at h
  ·rename_i m hm;split at h
   ·cases h;obtain ⟨i,h1,h2⟩:=fin _ hm;exact ⟨by unfold isAgg;rw[Sem.run_bind,run_underlying hu];rfl,i,h1,h2,by assumption⟩
   ·cases h
  ·cases h
 ·cases h
 ·cases h
def op_fld (h:SRel S A0 O w0 A σ w st tm) {t:TypeId} {x:Operand} {x':AOpd} {f:Nat} {n:Option Nat} {fs:Array Field} {fl:Field} (ho:o.op=.field t x f) (hu:S.P.underlying t=some (.struct fs)) (hf:fs[f]? = some fl)
  (hs:cAgg S.P fl.type=some n) (h1:qp S x=some x') (ha:aop (.fld fl.offset n x') d st=some (v,aa)):wy S A0 O w0 w tm df o v aa:=by
 have g1:=h.ev (df:=df) h1;simp only[aop] at ha;split at ha
 ·rename_i cs he;rw[he] at g1;obtain ⟨vs,e,hl,hv⟩:=g1.rel.agg_inv;have hd:∀ s∈AV.refsL cs,st.hp s≠none:=fun s hs=>g1.dang s (by rw[AV.refs];exact hs);split at ha
  ·rename_i y hy;simp only[Option.some.injEq,Prod.mk.injEq] at ha;obtain ⟨rfl,rfl⟩:=ha;cases n with
   | none =>
    simp only[zbS] at hy;split at hy
    ·rename_i a hx;split at hy
     ·cases hy;have hi:fl.offset < vs.size:=by have:=(Ac.1 hx).1;omega
      refine .same h (rv:=vs.getD fl.offset undef) ?_ ⟨hv _ _ hx,fun s hs=>hd s (ze.2 ⟨_,Ad hx,hs⟩)⟩;simp[execOp,ho,e,Instr.field,run_underlying hu,hf,asAgg,part,zec hs,Array.getD,hi]
     ·cases hy
    ·cases hy
   | some n =>
    obtain ⟨k1,i,k2,rfl,k3⟩:=zeb hs w;simp only[zbS] at hy;split at hy
    ·rename_i hle;cases hy;refine .same h (rv:=.agg (vs.extract fl.offset (fl.offset+i.size))) ?_ ⟨.agg (by simp;omega) fun j a hj => ?_,fun s hs=>hd s (zft (by rw[AV.refs] at hs;exact hs))⟩
     ·simp[execOp,ho,e,Instr.field,run_underlying hu,hf,asAgg,part,k1,Go.sizeOf,typeInfo,k2]
     ·have bo:j < i.size:=by have:=(Ac.1 hj).1;simp at this;omega
      rw[zhl _ _ _ _ bo (by omega)];rw[AZ bo,Bm] at hj;exact hv _ _ hj
    ·cases hy
  ·cases ha
 ·cases ha
def SRel.cellsAt (h:SRel S A0 O w0 A σ w st tm) {x:AV} {rv:Value} (g:Got S A σ w st x rv) {cs:List AV} {off:Nat} (hc:Ab.cellsAt st.hp x=some (cs,off)) :
  ∃ b o0,∃ u:Nat->Value,rv=.pointer (some ⟨b,o0+off,none⟩)∧(∀ j,j < cs.length->w.cell? ⟨b,o0+j,none⟩=some (u j))∧(∀ (j:Nat) (a:AV),cs[j]? = some a->Got S A σ w st a (u j)):=by
 unfold Ab.cellsAt at hc;split at hc
 ·rename_i aE ka;simp only[Option.some.injEq,Prod.mk.injEq] at hc;obtain ⟨rfl,rfl⟩:=hc;obtain ⟨b,o',u,e,h2,h3,h4⟩:=g.rel.ep_inv;refine ⟨b,o',u,e,h3,fun j a hj=>⟨.of0 (h4 j a hj),fun s hs => ?_⟩⟩;exfalso;exact yF (h4 j a hj) s hs
 ·rename_i s ka;split at hc
  ·rename_i aE hb;simp only[Option.some.injEq,Prod.mk.injEq] at hc;obtain ⟨rfl,rfl⟩:=hc;obtain ⟨b,e,hs⟩:=g.rel.pv_inv;obtain ⟨b',vs,el,k1,k2,k3,k4⟩:=h.hp _ _ hb;obtain rfl:b'=b:=Option.some.inj (k1.symm.trans hs);refine ⟨b',0,fun j=>vs.getD j undef,by simpa using e,fun j hj => ?_,fun j a hj=>⟨k4 j a hj,fun s' ae=>h.dangV _ _ hb s' (ze.2 ⟨a,Ad hj,ae⟩)⟩⟩;have bo:j < vs.size:=by omega
   simp[World.cell?,k2,bo,Array.getD]
  ·cases hc
 ·rename_i s z i ka;split at hc
  ·rename_i z' es hb;split at hc
   ·rename_i hz;subst hz;split at hc
    ·rename_i aE cK;simp only[Option.some.injEq,Prod.mk.injEq] at hc;obtain ⟨rfl,rfl⟩:=hc;obtain ⟨b,e,hs⟩:=g.rel.pe_inv;obtain ⟨k0,⟨k1,rfl⟩ | ⟨b',vs,el,k1,k2,k3,_,k4⟩⟩:=h.hp _ _ hb
     ·simp at cK
     ·obtain rfl:b'=b:=Option.some.inj (k1.symm.trans hs);have hz:aE.length=z:=k0 _ (Ad cK);have hi:i < es.length:=(Ac.1 cK).1;refine ⟨b',i * z,fun j=>vs.getD (i * z+j) undef,e,fun j hj => ?_,fun j a hj=>⟨.of0 (k4 i _ j a cK hj),fun s' ae=>(yF (k4 i _ j a cK hj) s' ae).elim⟩⟩;have bo:i * z+j < vs.size:=(by have:(i+1) * z<=es.length * z:=AB _ hi;rw[A6] at this;omega);simp[World.cell?,k2,bo,Array.getD]
    ·cases hc
   ·cases hc
  ·cases hc
 ·cases hc
end
end
section
open Go Go.RowKit
section
variable {S:Seat} {A0:Nat->Prop} {O:Hnd} {w0:World} {A:Nat->Prop} {σ:Nat->Option Nat} {w:World} {st aa:ASt} {tm:Array Value} {df:List Deferred} {o:Oper} {v:AV} {d:Nat}
def op_load (h:SRel S A0 O w0 A σ w st tm) {t:TypeId} {x:Operand} {x':AOpd} {n:Option Nat} (ho:o.op=.load t x) (hs:cAgg S.P t=some n) (h1:qp S x=some x')
  (ha:aop (.load n x') d st=some (v,aa)):wy S A0 O w0 w tm df o v aa:=by
 have g1:=h.ev (df:=df) h1;simp only[aop] at ha;split at ha
 ·rename_i cs off he;obtain ⟨b,o0,u,e,h2,h3⟩:=h.cellsAt g1 he;split at ha
  ·rename_i y hy;simp only[Option.some.injEq,Prod.mk.injEq] at ha;obtain ⟨rfl,rfl⟩:=ha;cases n with
   | none =>
    simp only[zbS] at hy;split at hy
    ·rename_i a hx;split at hy
     ·cases hy;have hi:off < cs.length:=(Ac.1 hx).1;refine .same h (rv:=u off) ?_ (h3 _ _ hx);simp[execOp,ho,e,Instr.loadAt,Instr.sureAddr,loadVar,zec hs,h2 off hi]
     ·cases hy
    ·cases hy
   | some n =>
    obtain ⟨k1,i,k2,rfl,k3⟩:=zeb hs w;simp only[zbS] at hy;split at hy
    ·rename_i hle;cases hy;have hl:=run_loadCells (P:=S.P) w ⟨b,o0+off,none⟩ i.size (fun j=>u (off+j)) (fun j hj=>by rw[Addr.add_lit,AY];exact h2 (off+j) (by omega));refine .same h (rv:=.agg ((List.range i.size).map fun j=>u (off+j)).toArray) ?_ ⟨.agg (by simp;omega) fun j a hj => ?_,fun s hs => ?_⟩
     ·simp[execOp,ho,e,Instr.loadAt,Instr.sureAddr,loadVar,k1,Go.sizeOf,typeInfo,k2,hl]
     ·have bo:j < i.size:=by have:=(Ac.1 hj).1;simp at this;omega
      rw[AZ bo,Bm] at hj;have:=(h3 _ _ hj).rel;simpa[Array.getD,bo] using this
     ·rw[AV.refs] at hs;have ae:=zft hs;rw[ze] at ae;obtain ⟨a,ha,ku⟩:=ae;obtain ⟨j,hj⟩:=AJ.1 ha;exact (h3 j a hj).dang s ku
    ·cases hy
  ·cases ha
 ·cases ha
def op_ia (h:SRel S A0 O w0 A σ w st tm) {t e:TypeId} {x i:Operand} {x' i':AOpd} {inf:TypeInfo} (ho:o.op=.indexAddr t x i) (hu:S.P.underlying t=some (.slice e)) (hi:S.P.info? e=some inf)
  (h1:qp S x=some x') (h2:qp S i=some i') (ha:aop (.ia inf.size x' i') d st=some (v,aa)):wy S A0 O w0 w tm df o v aa:=by
 have g1:=h.ev (df:=df) h1;have g2:=h.ev (df:=df) h2
 have key:∀ b off len cap k (n:Int),Act.eval ⟨tm,df⟩ x=.slice (some ⟨b,off,none⟩) len cap->Act.eval ⟨tm,df⟩ i=.int k n->0<=n->n < len ->
   (execOp (Act.eval ⟨tm,df⟩) o).run S.P w=.ok (.value (.pointer (some ⟨b,off+n.toNat * inf.size,none⟩))) w:=by
  intro b off len cap k n e1 e2 h3 h4;simp[execOp,ho,e1,e2,Instr.indexAt,asIntOf,run_underlying hu,h3,h4,Go.sizeOf,typeInfo,hi,Addr.add_lit]
 simp only[aop] at ha;split at ha
 ·rename_i z' es k n db da;rw[db] at g1;rw[da] at g2;have e2:=g2.rel.v_inv;split at ha
  ·rename_i hz;obtain ⟨rfl,hn⟩:=hz;split at ha
   ·rename_i cs ak;simp only[Option.some.injEq,Prod.mk.injEq] at ha;obtain ⟨rfl,rfl⟩:=ha;have al:n.toNat < es.length:=(Ac.1 ak).1;rcases g1.rel.sl_inv with ⟨rfl,_⟩ | ⟨b,o',cap,u,e1,k1,k2,k3,k4,_,k5⟩ | ⟨rfl,_⟩
    ·simp at ak
    ·refine .same h (key _ _ _ _ _ _ e1 e2 hn (by omega)) ⟨.of0 ?_,fun s hs=>by simp[AV.refs] at hs⟩;have aK:cs.length=inf.size:=k3 _ (Ad ak);have hb:(n.toNat+1) * inf.size<=es.length * inf.size:=AB _ al;rw[A6] at hb
     have:=VR0.ep (S:=S) (A:=A) (w:=w) (cs:=cs) (off:=0) (b:=b) (o:=o'+n.toNat * inf.size) (u:=fun j=>u (n.toNat * inf.size+j)) k1
      (fun j hj=>by rw[AY];exact k4 _ (by omega)) (fun j a hj=>k5 _ _ _ _ ak hj)
     simpa using this
    ·simp at ak
   ·cases ha
  ·cases ha
 ·rename_i s z' off len k n db da;rw[db] at g1;rw[da] at g2;have e2:=g2.rel.v_inv;split at ha
  ·rename_i hz;obtain ⟨rfl,hn,hl⟩:=hz;simp only[Option.some.injEq,Prod.mk.injEq] at ha;obtain ⟨rfl,rfl⟩:=ha;rcases g1.rel.lsl_inv with ⟨_,rfl,_,_⟩ | ⟨b,o',cap,cs,el,e1,k1,k2,k3,_⟩
   ·omega
   ·refine .same h (key _ _ _ _ _ _ e1 e2 hn hl) ⟨?_,fun s' hs=>g1.dang s' (by simpa[AV.refs] using hs)⟩;rw[k3 (.inl (by omega))];have:=VR.pe (S:=S) (A:=A) (w:=w) (s:=s) (z:=inf.size) (i:=off+n.toNat) (off:=0) k1;simpa[A6] using this
  ·cases ha
 ·cases ha
def op_ix (h:SRel S A0 O w0 A σ w st tm) {t:TypeId} {x i:Operand} {x' i':AOpd} (ho:o.op=.index t x i) (hu:S.P.underlying t=some .string)
  (h1:qp S x=some x') (h2:qp S i=some i') (ha:aop (.ix x' i') d st=some (v,aa)):wy S A0 O w0 w tm df o v aa:=by
 have g1:=h.ev (df:=df) h1;have g2:=h.ev (df:=df) h2;simp only[aop] at ha;split at ha
 ·rename_i s k n db da;rw[db] at g1;rw[da] at g2;have e1:=g1.rel.v_inv;have e2:=g2.rel.v_inv;split at ha
  ·rename_i hn;split at ha
   ·rename_i b hb;simp only[Option.some.injEq,Prod.mk.injEq] at ha;obtain ⟨rfl,rfl⟩:=ha;have al:n.toNat < s.data.size:=(Bs.1 hb).1;have hbv:s.data[n.toNat]=b:=(Bs.1 hb).2;refine .same h (rv:=.int .u8 b.toNat) ?_ (zeK _);have hr:=run_index_string (P:=S.P) w t s k n hu;have nK:n < (s.size:Int):=by have:s.size=s.data.size:=rfl;omega
    rw[dif_pos ⟨hn,nK⟩] at hr;simp only[execOp,ho,e1,e2,Sem.run_bind,hr,Result.andThen_ok,Sem.run_pure];subst hbv;rfl
   ·cases ha
  ·cases ha
 ·cases ha
def zj5 {x:AV} {n:Int} (h:zdw x=some n):x=.v (.int .i64 n):=by
 unfold zdw at h;split at h
 ·cases h;rfl
 ·cases h
def zbN (h:SRel S A0 O w0 A σ w st tm) {lo hi:Option Operand} {en aP:Option AOpd} (h1:eu S lo=some en) (h2:eu S hi=some aP) {len cap l r:Nat} (isS:Bool) (hb:bounds st len en aP=some (l,r)) (hc:len<=cap) :
  (Instr.sliceBounds isS len cap (lo.map (Act.eval ⟨tm,df⟩)) (hi.map (Act.eval ⟨tm,df⟩)) none).run S.P w=.ok (l,r,cap) w∧l<=r∧r<=len:=by
 have inv:∀ {x:Option Operand} {x':Option AOpd},eu S x=some x'->(x=none∧x'=none)∨∃ a a',x=some a∧x'=some a'∧qp S a=some a':=by
  intro x x' hx;cases x with
  | none=>simp only[eu,Option.some.injEq] at hx;exact .inl ⟨rfl,hx.symm⟩
  | some a=>simp only[eu,Ag] at hx;obtain ⟨a',h3,rfl⟩:=hx;exact .inr ⟨a,a',rfl,rfl,h3⟩
 have val:∀ {a:Operand} {a':AOpd} {n:Int},qp S a=some a'->zdw (st.ev a')=some n->Act.eval ⟨tm,df⟩ a=.int .i64 n:=(by intro a a' n ha hn;have g:=h.ev (df:=df) ha;rw[zj5 hn] at g;exact g.rel.v_inv);unfold bounds at hb;rcases inv h1 with ⟨rfl,rfl⟩ | ⟨a,a',rfl,rfl,k1⟩<;>rcases inv h2 with ⟨rfl,rfl⟩ | ⟨c,c',rfl,rfl,k2⟩<;>simp only at hb
 ·split at hb
  ·simp only[Option.some.injEq,Prod.mk.injEq] at hb;obtain ⟨rfl,rfl⟩:=hb;exact ⟨by simp[Instr.sliceBounds],by omega,by omega⟩
  ·cases hb
 ·split at hb
  ·rename_i hn hm e1 e2;split at hb
   ·simp only[Option.some.injEq,Prod.mk.injEq] at hb;obtain ⟨rfl,rfl⟩:=hb;rename_i eQ;have oP:=Option.some.inj e2;have:=val k2 e1;refine ⟨?_,by omega,by omega⟩;simp[Instr.sliceBounds,this,run_sliceBound_if];rw[if_pos (by omega)];simp;omega
   ·cases hb
  ·cases hb
 ·split at hb
  ·rename_i hn hm e1 e2;split at hb
   ·simp only[Option.some.injEq,Prod.mk.injEq] at hb;obtain ⟨rfl,rfl⟩:=hb;rename_i eQ;have rM:=Option.some.inj e1;have:=val k1 e2;refine ⟨?_,by omega,by omega⟩;simp[Instr.sliceBounds,this,run_sliceBound_if];rw[if_pos (by omega)];simp;omega
   ·cases hb
  ·cases hb
 ·split at hb
  ·rename_i hn hm e1 e2;split at hb
   ·simp only[Option.some.injEq,Prod.mk.injEq] at hb;obtain ⟨rfl,rfl⟩:=hb;rename_i eQ;have v1:=val k1 e2;have v2:=val k2 e1;refine ⟨?_,by omega,by omega⟩;simp[Instr.sliceBounds,v1,v2,run_sliceBound_if];rw[if_pos (by omega)];simp;omega
   ·cases hb
  ·cases hb
def op_slcS (h:SRel S A0 O w0 A σ w st tm) {t:TypeId} {x:Operand} {x':AOpd} {lo hi:Option Operand} {en aP:Option AOpd} (ho:o.op=.slice t x lo hi none) (hu:S.P.underlying t=some .string)
  (h1:qp S x=some x') (h2:eu S lo=some en) (h3:eu S hi=some aP) (ha:aop (.slc 0 x' en aP) d st=some (v,aa)):wy S A0 O w0 w tm df o v aa:=by
 have g1:=h.ev (df:=df) h1;simp only[aop,if_true] at ha;split at ha
 ·rename_i s he;rw[he] at g1;have e:=g1.rel.v_inv;split at ha
  ·rename_i l r hb;simp only[Option.some.injEq,Prod.mk.injEq] at ha;obtain ⟨rfl,rfl⟩:=ha;obtain ⟨k1,k2,k3⟩:=zbN (df:=df) h h2 h3 false hb (AF _);refine .same h (rv:=.string (s.extract l r)) ?_ (zeK _);simp[execOp,ho,e,Instr.sliceAt,Instr.slice,run_underlying hu,k1]
  ·cases ha
 ·cases ha
def op_slc (h:SRel S A0 O w0 A σ w st tm) {t e:TypeId} {inf:TypeInfo} {x:Operand} {x':AOpd} {lo hi:Option Operand} {en:Option AOpd} (ho:o.op=.slice t x lo hi none) (hu:S.P.underlying t=some (.slice e)) (aP:S.P.info? e=some inf) (hz:0 < inf.size)
  (h1:qp S x=some x') (h2:eu S lo=some en) {hj:Option AOpd} (h3:eu S hi=some hj) (ha:aop (.slc inf.size x' en hj) d st=some (v,aa)):wy S A0 O w0 w tm df o v aa:=by
 have g1:=h.ev (df:=df) h1
 have key:∀ a len cap l r,Act.eval ⟨tm,df⟩ x=.slice a len cap->bounds st len en hj=some (l,r)->len<=cap ->
   (execOp (Act.eval ⟨tm,df⟩) o).run S.P w=.ok (.value (.slice (if cap=l then a else a.map (·.add (l * inf.size))) (r - l) (cap - l))) w:=by
  intro a len cap l r e1 hb hc;obtain ⟨k1,k2,k3⟩:=zbN (df:=df) h h2 h3 true hb hc;simp[execOp,ho,e1,Instr.sliceAt,Instr.slice,run_underlying hu,k1,Go.sizeOf,typeInfo,aP]
 have ot:∀ len l r,bounds st len en hj=some (l,r)->l<=r∧r<=len:=fun len l r hb=>(zbN (df:=df) h h2 h3 true hb (AF _)).2;simp only[aop,if_neg (show ¬ inf.size=0 by omega)] at ha;split at ha
 ·rename_i he;rw[he] at g1;have e1:=g1.rel.v_inv;split at ha
  ·rename_i p hb;obtain ⟨l,r⟩:=p;simp only[Option.some.injEq,Prod.mk.injEq] at ha;obtain ⟨rfl,rfl⟩:=ha;have cy:=ot _ _ _ hb;have hk:=key _ _ _ _ _ e1 hb (AF _);obtain rfl:l=0:=by omega
   obtain rfl:r=0:=by omega
   exact .same h (rv:=.slice none 0 0) (by simpa using hk) (zeK _)
  ·cases ha
 ·rename_i z' es he;split at ha
  ·rename_i km;subst km;rw[he] at g1;split at ha
   ·rename_i l r hb;simp only[Option.some.injEq,Prod.mk.injEq] at ha;obtain ⟨rfl,rfl⟩:=ha;have cy:=ot _ _ _ hb;have hlen:((es.drop l).take (r - l)).length=r - l:=by simp;omega
    rcases g1.rel.sl_inv with ⟨rfl,e1⟩ | ⟨b,o',cap,u,e1,k1,k2,k3,k4,k6,k5⟩ | ⟨rfl,a,cap,e1⟩
    ·have hk:=key _ _ _ _ _ e1 (by simpa using hb) (AF _);simp at cy;obtain rfl:l=0:=by omega
     obtain rfl:r=0:=by omega
     exact .same h (rv:=.slice none 0 0) (by simpa using hk) ⟨.of0 (by simpa using VR0.slnil _),by simp[AV.refs]⟩
    ·have hk:=key _ _ _ _ _ e1 hb k2;refine .same h hk ⟨.of0 ?_,by simp[AV.refs]⟩;by_cases aK:cap=l
     ·have hr:r=l:=by omega
      subst hr;subst aK;simp only[if_true,CV,BL];exact VR0.sl (es:=[]) (o:=o') (u:=u) k1 (BE _) (by simp) (by simp) (by simp) (by simp)
     ·rw[if_neg aK];simp only[AN,Addr.add_lit]
      have:=VR0.sl (S:=S) (A:=A) (w:=w) (z:=inf.size) (es:=(es.drop l).take (r - l)) (b:=b) (o:=o'+l * inf.size) (cap:=cap - l) (u:=fun j=>u (l * inf.size+j)) k1 (by omega)
       (fun e he=>k3 e (Bh (Bg he)))
       (fun j hj=>by
        rw[hlen] at hj;rw[AY];refine k4 _ ?_;have h5:(r - l) * inf.size+l * inf.size=r * inf.size:=by rw[← A6];congr 1;omega
        have h6:r * inf.size<=es.length * inf.size:=AB _ cy.2
        omega)
       (fun j hj=>by
        rw[hlen] at hj;refine k6 _ ?_;have h5:(r - l) * inf.size+l * inf.size=r * inf.size:=by rw[← A6];congr 1;omega
        have h6:r * inf.size<=es.length * inf.size:=AB _ cy.2
        omega)
       (fun i e c a hi hc=>by
        have al:i < r - l:=by have:=(Ac.1 hi).1;omega
        rw[AZ al,Bm] at hi;have:=k5 _ _ _ _ hi hc
        rwa [A6,AY] at this)
      rwa [hlen] at this
    ·have hk:=key _ _ _ _ _ e1 (by simpa using hb) (BE _);simp at cy;obtain rfl:l=0:=by omega
     obtain rfl:r=0:=by omega
     refine .same h hk ⟨.of0 ?_,by simp[AV.refs]⟩;simp only[List.drop_nil,List.take_nil,Df,CV]
     split<;>exact VR0.slemp _ _ _
   ·cases ha
  ·cases ha
 ·rename_i s z' off len he;split at ha
  ·rename_i km;subst km;rw[he] at g1;split at ha
   ·rename_i l r hb;simp only[Option.some.injEq,Prod.mk.injEq] at ha;obtain ⟨rfl,rfl⟩:=ha;have cy:=ot _ _ _ hb;have hd:∀ s'∈(AV.lsl s inf.size (off+l) (r - l)).refs,st.hp s'≠none:=fun s' hs=>g1.dang s' (by simpa[AV.refs] using hs);rcases g1.rel.lsl_inv with ⟨rfl,rfl,k0,e1⟩ | ⟨b,o',cap,cs,el,e1,k1,k2,k3,k4,k5,k6⟩
    ·have hk:=key _ _ _ _ _ e1 hb (AF _);obtain rfl:l=0:=by omega
     obtain rfl:r=0:=by omega
     exact .same h (rv:=.slice none 0 0) (by simpa using hk) ⟨.lslnil k0,hd⟩
    ·have hk:=key _ _ _ _ _ e1 hb k2;refine .same h hk ⟨?_,hd⟩;by_cases aK:cap=l
     ·have hr:r=l:=by omega
      subst hr;subst aK;simp only[if_true,CV];refine .lsl k1 (AF _) (fun hx => ?_) k4 (by simpa using k5) (BE _);rcases hx with hx | hx
      ·omega
      ·have h0:off=0:=by omega
       have h1:cap=0:=by omega
       rw[k3 (.inr h0),h0,h1]
     ·rw[if_neg aK];simp only[AN,Addr.add_lit];refine .lsl k1 (by omega) (fun _ => ?_) k4 ?_ (by omega)
      ·rw[k3 (.inl (by omega)),A6]
      ·rw[show off+l+(cap - l)=off+cap by omega];exact k5
   ·cases ha
  ·cases ha
 ·cases ha
end
end
end Ab
