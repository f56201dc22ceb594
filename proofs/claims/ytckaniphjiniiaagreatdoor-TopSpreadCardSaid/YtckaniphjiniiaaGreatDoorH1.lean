import Derived.Shelf.Bodies2
import Derived.Shelf.SlBodiesN
import Derived.Shelf.SlGeneric
import Derived.Shelf.RegionOpenPlain
import Derived.WalkKit
import Derived.Lib.Walk
import Derived.Lib.SliceRun
import Derived.Lib.JoinLaws
import Derived.Lib.AppendZerosOnto
import Derived.Lib.Overlaps
import Derived.Laws.Externs
import Derived.Laws.IdiomCopy
import Derived.Laws.NewBlocks
import Derived.Deep.RegionLaw
import Derived.Deep.AppendSrc
import Derived.Test.YtckaniphjiniiaaGreatDoorHC
open Nat (min_def)
set_option linter.all false
set_option maxRecDepth 1000000
set_option maxHeartbeats 4000000
noncomputable section
namespace Ab
open Go
section
open Go Go.RowKit Go.Shelf Go.Lib Go.Proofs
variable {P:Program} {ρ:Ren}
def zbO (w:World) (dT sT ty elem:TypeId) (z n b o dLen dCap:Nat) (a:Addr) (sLen sCap:Nat) (cs:List Value) (hu:P.underlying dT=some (.slice elem)) (hs:(P.info? elem).map (·.size)=some z) (hm:Nat.min sLen dLen=n)
  (hn:cs.length=n*z) (dZ:∀j v,cs[j]? = some v->w.cell? (a.add j)=some v) (hc:∀j,j<cs.length->(w.cell? ⟨b,o+j,none⟩).isSome=true) (hf:∀j,j<cs.length->w.frozen? ⟨b,o+j,none⟩=false) (h1:∀v∈cs,v.oneCell'=true) :
  (Builtin.copy_ #[dT,sT] ty #[.slice (some ⟨b,o,none⟩) dLen dCap,.slice (some a) sLen sCap]).run P w=.ok (goInt n) (w.setCells b o cs):=by
 have du:=run_storeCells_cells (P:=P) b o cs 0 w (by simpa using hc) (by simpa using hf) h1;obtain⟨i,hq,hi⟩:=Ag.1 hs;have hfc:=run_firstCells_some (P:=P) w z n a sLen sCap cs hn dZ;simp[Builtin.copy_,run_underlying hu,Builtin.lenOf,Go.sizeOf,typeInfo,hq,hi,hm,hfc,du]
def zgp (w:World) {ops:Array Oper} {rest:List Oper} {o:Oper} {a:Act} {Q:Exit->Act->World->Prop} (hg:o.guard=none) (d s:Operand) (t t':TypeId) (ho:o.op=.call { callee:=.builtin .copy,args:=#[d,s],argTypes:=#[t,t'] })
  (v u:Value) (hd:a.eval d=v) (hs:a.eval s=u) {v':Value} {w':World} (hr:(Builtin.copy_ #[t,t'] o.type #[v,u]).run P w=.ok v' w') (h:wpList P ops Q rest (a.put o.dst v') w'):wpList P ops Q (o::rest) a w:=by
 refine wpList_plain hg fun _ hK => ?_;have h2:=hK _ _ h;unfold Oper.wp execOp;simp only[ho,resolve,invoke,builtin,Sem.run_bind,Sem.run_pure,Result.andThen_ok,List.map_toArray,Aw,Bn,hd,hs,hr];exact h2
def zkL {ops:Array Oper} {o:Oper} {a:Act} {w:World} {K:Act->World->Prop} {Q:Exit->Act->World->Prop} {E:Prop} (hg:o.guard=none) (d x:Operand) (t t':TypeId)
  (ho:o.op=.call { callee:=.builtin .copy,args:=#[d,x],argTypes:=#[t,t'] }) (v u:Value) (hd:a.eval d=v) (hx:a.eval x=u) {v':Value} {w':World} (hr:(Builtin.copy_ #[t,t'] o.type #[v,u]).run P w=.ok v' w') (h:K (a.put o.dst v') w') :
  if Region.wanted o (yielded ops a.tmps)=true then Oper.wp P o a w K Q else E:=by
 rw[if_pos (by simp[Region.wanted,hg])];unfold Oper.wp;simp[execOp,ho,resolve,invoke,builtin,hd,hx,hr,Result.andThen];exact h
def zac (b:Nat) (vs:List Value) (o:Nat) (w:World) (h:∀j,j<vs.length->(w.cell? ⟨b,o+j,none⟩).isSome=true) (k:Nat) (hk:(w.cell? ⟨b,k,none⟩).isSome=true):((w.setCells b o vs).cell? ⟨b,k,none⟩).isSome=true:=by
 by_cases bJ:o<=k∧k<o+vs.length
 ·have:=World.cell?_setCells_in b vs o w h (k-o) (by omega);rw[show o+(k-o)=k by omega] at this;rw[this];rfl
 ·rw[World.cell?_setCells_out b vs o w ⟨b,k,none⟩ (fun _ _=>by show k<o∨o+vs.length<=k;omega)];exact hk
structure SlL (P:Program) (ρ:Ren) (zc:Array Value):Prop where
 mixed:P.follows .mixedOrders=true
 t0:P.underlying (ρ.t 0)=some (.tuple #[])
 t3:P.underlying (ρ.t 3)=some (.int .i64)
 t4:P.underlying (ρ.t 4)=some .bool
 i0:(P.info? (ρ.t 0)).map (fun i=>(i.zero,i.size))=some (some (.tuple #[]),1)
 i3:(P.info? (ρ.t 3)).map (fun i=>(i.zero,i.size))=some (some (.int .i64 0),1)
 i4:(P.info? (ρ.t 4)).map (fun i=>(i.zero,i.size))=some (some (.bool false),1)
 z2:zc.size=2
 z1:∀u∈zc.toList,u.oneCell'=true
structure InsL (P:Program) (ρ:Ren) (zc:Array Value):Prop extends SlL P ρ zc where
 f22:Bears P (ρ.f 22) (Body2.n22 ρ)
 ov:∀(args:Array Value) (w:World),(callFunc (ρ.f 29) args).run P w=((Extern.SlicesOverlaps.overlaps #[ρ.t 24,ρ.t 24] #[ρ.t 4] args).run P w).andThen fun v w'=>.ok (.value v) w'
 t24:P.underlying (ρ.t 24)=some (.slice (ρ.t 9))
 i24:(P.info? (ρ.t 24)).map (fun i=>(i.zero,i.size))=some (some (.slice none 0 0),1)
 i9:(P.info? (ρ.t 9)).map (fun i=>(i.zero,i.size,i.bytes))=some (some (.agg zc),2,32)
structure DelL (P:Program) (ρ:Ren) (zc:Array Value):Prop extends SlL P ρ zc where
 f45:Bears P (ρ.f 45) (SlBodyN.n45 ρ)
 t22:P.underlying (ρ.t 22)=some (.slice (ρ.t 23))
 i22:(P.info? (ρ.t 22)).map (fun i=>(i.zero,i.size))=some (some (.slice none 0 0),1)
 i23:(P.info? (ρ.t 23)).map (fun i=>(i.zero,i.size,i.bytes))=some (some (.agg zc),2,32)
def z6 {t:TypeId} {d:TypeDesc} (h:P.underlying t=some d) (hd:(match d with | .struct _ | .array _ _=>true|_=>false)=false) (w:World):(isAgg t).run P w=.ok false w:=by cases d<;>simp_all[isAgg,run_underlying h]
def wH {t:TypeId} {z:Value} {n:Nat} (h:(P.info? t).map (fun i=>(i.zero,i.size))=some (some z,n)):(∀w,(Go.sizeOf t).run P w=.ok n w)∧∀w,(zeroValue t).run P w=.ok z w:=by obtain⟨i,hi,kQ⟩:=Ag.1 h;simp only[DN] at kQ;exact⟨fun w=>by simp[Go.sizeOf,typeInfo,hi,kQ.2],fun w=>by simp[zeroValue,typeInfo,hi,kQ.1]⟩
def lC {t:TypeId} {z:Value} {n m:Nat} (h:(P.info? t).map (fun i=>(i.zero,i.size,i.bytes))=some (some z,n,m)):(∀w,(Go.sizeOf t).run P w=.ok n w)∧(∀w,(zeroValue t).run P w=.ok z w)∧(P.info? t).map (·.size)=some n:=by obtain⟨i,hi,h1,h2,h3⟩:=info_parts h;exact⟨fun w=>by simp[Go.sizeOf,typeInfo,hi,h2],fun w=>by simp[zeroValue,typeInfo,hi,h1],by rw[hi];simp[h2]⟩
def ins_shift {zc:Array Value} (L:InsL P ρ zc) (b off n c i vb voff m vc:Nat) (cs vs:List Value) (w:World) (hi:i<n) (hm:0<m) (aq:n+m<=c) (ry:c<=9223372036854775807) (kT:vb≠b)
  (aT:cs.length=n*2) (eX:vs.length=m*2)
  (an:∀j v,cs[j]? = some v->w.cell? ⟨b,off+j,none⟩=some v) (lW:∀j,j<(n+m)*2->(w.cell? ⟨b,off+j,none⟩).isSome=true) (hfz:∀j,j<(n+m)*2->w.frozen? ⟨b,off+j,none⟩=false)
  (cQ:∀j v,vs[j]? = some v->w.cell? ⟨vb,voff+j,none⟩=some v) (lz:∀v∈cs,v.oneCell'=true) (ky:∀v∈vs,v.oneCell'=true)
  (tA tB:TypeId) (kA kB:Nat) (lY:w.shape? vb=some (tA,kA)) (hsb:w.shape? b=some (tB,kB)) (hkB:kB≠0) (hfa:w.frozen? ⟨vb,voff,none⟩=false) (gf:w.frozen? ⟨vb,kA,none⟩=false) :
  Calls P (ρ.f 22) #[.slice (some ⟨b,off,none⟩) n c,.int .i64 i,.slice (some ⟨vb,voff,none⟩) m vc] w fun e w' =>
   e=.returned (.slice (some ⟨b,off,none⟩) (n+m) c)∧w'=(w.drew.setCells b (off+(i+m)*2) (cs.drop (i*2))).setCells b (off+i*2) vs:=by
 have t0:=L.t0;have t3:=L.t3;have t4:=L.t4;have t24:=L.t24;have a0:=z6 (P:=P) t0 rfl;have a3:=z6 (P:=P) t3 rfl;have a4:=z6 (P:=P) t4 rfl;have a24:=z6 (P:=P) t24 rfl;have ⟨z0,v0⟩:=wH L.i0;have ⟨z3,v3⟩:=wH L.i3;have ⟨z4,v4⟩:=wH L.i4;have ⟨z24,v24⟩:=wH L.i24;have ⟨z9,v9,aF⟩:=lC L.i9;have u0:=run_underlying L.t0;have u3:=run_underlying L.t3;have u4:=run_underlying L.t4;have oL:=run_underlying L.t24;have cH:¬((m:Int)=0):=by omega
 have dM:¬((i:Int)=(n:Int)):=by omega
 have hov:∀lb cb,(callFunc (ρ.f 29) #[.slice (some ⟨vb,voff,none⟩) m vc,.slice (some ⟨b,off+(i+m)*2,none⟩) lb cb]).run P w=.ok (.value (.bool false)) w:=fun lb cb=>(by rw[L.ov,Lib.run_overlaps_apart w (ρ.t 24) (ρ.t 4) (ρ.t 9) L.t24 2 z9 ⟨vb,voff,none⟩ ⟨b,off+(i+m)*2,none⟩ m vc lb cb kT tA tB kA kB lY hsb hkB hfa gf];rfl);have cJ:(cs.drop (i*2)).length=(n-i)*2:=by rw[Bp,aT];omega
 have mixed:=L.mixed;have iF:IntKind.i64.wrap ((i:Int)+(m:Int))=(i:Int)+(m:Int):=by rw[IntKind.wrap_i64];omega
 have cr:(0:Int)<=(i:Int)+(m:Int):=by omega
 have bJ:i<=n:=by omega
 have htn:((i:Int)+(m:Int)).toNat=i+m:=by omega
 have cO:¬(c=i+m):=by omega
 have ua:(i:Int)<=(n:Int)+(m:Int):=by omega
 have hb4:¬(c=i):=by omega
 have mA:∀ty dc sc,(Builtin.copy_ #[(ρ.t 24),(ρ.t 24)] ty #[.slice (some ⟨b,off+(i+m)*2,none⟩) (n+m-(i+m)) dc,.slice (some ⟨b,off+i*2,none⟩) (n+m-i) sc]).run P w.drew=.ok (goInt ((n-i:Nat):Int)) (w.drew.setCells b (off+(i+m)*2) (cs.drop (i*2))):=fun ty dc sc =>
  zbO w.drew _ _ ty (ρ.t 9) 2 (n-i) b (off+(i+m)*2) (n+m-(i+m)) dc ⟨b,off+i*2,none⟩ (n+m-i) sc (cs.drop (i*2)) L.t24 aF (by simp only[min_def];split<;>omega) cJ
   (fun j v hj=>by rw[Addr.add_lit,A5];exact an (i*2+j) v (by rwa [BG] at hj))
   (fun j hj=>by rw[A5];exact lW _ (by omega)) (fun j hj=>by rw[A5];exact hfz _ (by omega)) (fun v hv=>lz v (Bo hv))
 obtain⟨W1,cP⟩:∃W1,W1=w.drew.setCells b (off+(i+m)*2) (cs.drop (i*2)):=⟨_,rfl⟩;have o9:∀k,k<(n+m)*2->(W1.cell? ⟨b,off+k,none⟩).isSome=true:=fun k hk=>(by rw[cP];exact zac b _ _ _ (fun j hj=>by rw[A5];exact lW _ (by omega)) _ (lW k hk));have rq:∀(W:World),(∀x,W.cell? x=W1.cell? x)->(∀x,W.frozen? x=W1.frozen? x)->∀ty dc,(Builtin.copy_ #[(ρ.t 24),(ρ.t 24)] ty #[.slice (some ⟨b,off+i*2,none⟩) (n+m-i) dc,.slice (some ⟨vb,voff,none⟩) m vc]).run P W=.ok (goInt m) (W.setCells b (off+i*2) vs):=fun W iu mK ty dc =>
  zbO W _ _ ty (ρ.t 9) 2 m b (off+i*2) (n+m-i) dc ⟨vb,voff,none⟩ m vc vs L.t24 aF (by simp only[min_def];split<;>omega) eX
   (fun j v hj=>by
    rw[Addr.add_lit,iu,cP,World.cell?_setCells_out b _ _ _ _ (fun h _=>absurd h kT)];exact cQ j v hj)
   (fun j hj=>by rw[iu,A5];exact o9 _ (by omega)) (fun j hj=>by rw[mK,cP,World.frozen?_setCells,A5];exact hfz _ (by omega)) ky
 rw[←cP] at mA;obtain⟨_,_,FG⟩:=L.f22
 go_enter FG,Body2.n22_ntmps ρ
 go_wp2_with (simp only[hov])
 go_region_law_o (refine zkL rfl _ _ (ρ.t 24) (ρ.t 24) rfl _ _ (by simp[Act.eval,Act.put]) (by simp[Act.eval,Act.put]) (mA _ _ _) ?_)
 go_wp2_with (at_builtin;refine zgp _ rfl _ _ (ρ.t 24) (ρ.t 24) rfl _ _ rfl rfl (rq _ (fun _=>rfl) (fun _=>rfl) _ _) ?_)
 go_ret
 first|exact⟨rfl,rfl⟩|exact⟨rfl,by rw[cP]⟩
def ziH {zc:Array Value} (L:InsL P ρ zc) (b off n c vb voff m vc:Nat) (vs:List Value) (w:World) (hm:0<m) (aq:n+m<=c) (ry:c<=9223372036854775807)
  (eX:vs.length=m*2) (lW:∀j,j<m*2->(w.cell? ⟨b,off+n*2+j,none⟩).isSome=true) (hfz:∀j,j<m*2->w.frozen? ⟨b,off+n*2+j,none⟩=false)
  (cQ:∀j v,vs[j]? = some v->w.cell? ⟨vb,voff+j,none⟩=some v) (ky:∀v∈vs,v.oneCell'=true) :
  Calls P (ρ.f 22) #[.slice (some ⟨b,off,none⟩) n c,.int .i64 n,.slice (some ⟨vb,voff,none⟩) m vc] w fun e w' =>
   e=.returned (.slice (some ⟨b,off,none⟩) (n+m) c)∧w'=w.setCells b (off+n*2) vs:=by
 have t0:=L.t0;have t3:=L.t3;have t4:=L.t4;have t24:=L.t24;have a0:=z6 (P:=P) t0 rfl;have a3:=z6 (P:=P) t3 rfl;have a4:=z6 (P:=P) t4 rfl;have a24:=z6 (P:=P) t24 rfl;have ⟨z0,v0⟩:=wH L.i0;have ⟨z3,v3⟩:=wH L.i3;have ⟨z4,v4⟩:=wH L.i4;have ⟨z24,v24⟩:=wH L.i24;have ⟨z9,v9,aF⟩:=lC L.i9;have u0:=run_underlying L.t0;have u3:=run_underlying L.t3;have u4:=run_underlying L.t4;have oL:=run_underlying L.t24;have mixed:=L.mixed;obtain⟨i0,iV,dW,bW,kR⟩:=info_parts L.i9;have cH:¬((m:Int)=0):=by omega
 have dZ:Go.Src P i0.size (ρ.t 24) (.slice (some ⟨vb,voff,none⟩) m vc) m vs w:=(by rw[bW];exact Go.Src.ofSlice w L.t24 ⟨vb,voff,none⟩ m vc vs eX (fun j u hj=>by rw[Addr.add_lit];exact cQ j u hj) ky);have ax:∀ty,(Builtin.append_ #[(ρ.t 24),(ρ.t 24)] ty #[.slice (some ⟨b,off,none⟩) n c,.slice (some ⟨vb,voff,none⟩) m vc]).run P w=.ok (.slice (some ⟨b,off,none⟩) (n+m) c) (w.setCells b (off+n*2) vs):=fun ty=>(by have h:=run_append_room_src w (ρ.t 24) (ρ.t 24) ty (ρ.t 9) i0 L.t24 iV b off n c _ m vs dZ aq (by rw[bW,eX];exact lW) (by rw[bW,eX];exact hfz);rw[bW] at h;exact h);obtain⟨_,_,FG⟩:=L.f22
 go_enter FG,Body2.n22_ntmps ρ
 go_wp2_with (at_builtin;refine Lib.wpList_append_run _ rfl _ _ _ _ rfl _ _ rfl rfl _ _ (ax _) ?_)
 go_ret;exact⟨rfl,rfl⟩
def zdg {zc:Array Value} (L:InsL P ρ zc) (base:Option Addr) (n c vb voff m vc:Nat) (cs vs:List Value) (w:World) (hm:0<m) (tz:n<=c) (aq:c<n+m) (eF:(n+m)*32<=140737488355328)
  (aT:cs.length=n*2) (eX:vs.length=m*2) (cU:base=none->n=0)
  (an:∀a,base=some a->∀j v,cs[j]? = some v->w.cell? (a.add j)=some v)
  (cQ:∀j v,vs[j]? = some v->w.cell? ⟨vb,voff+j,none⟩=some v) (ky:∀v∈vs,v.oneCell'=true) :
  Calls P (ρ.f 22) #[.slice base n c,.int .i64 n,.slice (some ⟨vb,voff,none⟩) m vc] w fun e w' =>
   e=.returned (.slice (some ⟨w.heap.size,0,none⟩) (n+m) (grownCap w (n+m) c (ρ.t 9))) ∧
   w'=w.drew.alloc (.cells ((cs++vs).toArray++Builtin.zeroCells zc (grownCap w (n+m) c (ρ.t 9)-(n+m))) (ρ.t 9)):=by
 have t0:=L.t0;have t3:=L.t3;have t4:=L.t4;have t24:=L.t24;have a0:=z6 (P:=P) t0 rfl;have a3:=z6 (P:=P) t3 rfl;have a4:=z6 (P:=P) t4 rfl;have a24:=z6 (P:=P) t24 rfl;have ⟨z0,v0⟩:=wH L.i0;have ⟨z3,v3⟩:=wH L.i3;have ⟨z4,v4⟩:=wH L.i4;have ⟨z24,v24⟩:=wH L.i24;have ⟨z9,v9,aF⟩:=lC L.i9;have u0:=run_underlying L.t0;have u3:=run_underlying L.t3;have u4:=run_underlying L.t4;have oL:=run_underlying L.t24;have mixed:=L.mixed;obtain⟨i0,iV,dW,bW,kR⟩:=info_parts L.i9;have cH:¬((m:Int)=0):=by omega
 have dZ:Go.Src P i0.size (ρ.t 24) (.slice (some ⟨vb,voff,none⟩) m vc) m vs w:=(by rw[bW];exact Go.Src.ofSlice w L.t24 ⟨vb,voff,none⟩ m vc vs eX (fun j u hj=>by rw[Addr.add_lit];exact cQ j u hj) ky);have hold:(Builtin.firstCells i0.size n (.slice base n c)).run P w.drew=.ok cs.toArray w.drew:=by
  rw[bW];cases base with
  | none =>have h0:=cU rfl;subst h0;obtain rfl:cs=[]:=BE (by omega);exact run_firstCells_none w.drew 2 0 0 c
  | some a=>exact run_firstCells_some w.drew 2 n a n c cs aT (fun j v hj=>an a rfl j v hj)
 have ax:∀ty,(Builtin.append_ #[(ρ.t 24),(ρ.t 24)] ty #[.slice base n c,.slice (some ⟨vb,voff,none⟩) m vc]).run P w=_:=fun ty =>
  run_append_grow_src w (ρ.t 24) (ρ.t 24) ty (ρ.t 9) i0 _ L.t24 iV dW base n c cs hold _ m vs dZ aq (by omega) (by rw[kR];exact growslice_fits aq eF)
 obtain⟨_,_,FG⟩:=L.f22
 go_enter FG,Body2.n22_ntmps ρ
 cases base with
 | none =>
  have h0:=cU rfl;subst h0
  go_wp2_with (at_builtin;refine Lib.wpList_append_run _ rfl _ _ _ _ rfl _ _ rfl rfl _ _ (ax _) ?_)
  go_ret;exact⟨rfl,rfl⟩
 | some a =>
  obtain⟨ab,ao,asp⟩:=a
  go_wp2_with (at_builtin;refine Lib.wpList_append_run _ rfl _ _ _ _ rfl _ _ rfl rfl _ _ (ax _) ?_)
  all_goals (go_ret;exact⟨rfl,rfl⟩)
def ins_grow {zc:Array Value} (L:InsL P ρ zc) (b off n c i vb voff m vc:Nat) (cs vs:List Value) (w:World) (hi:i<n) (hm:0<m) (tz:n<=c) (aq:c<n+m) (eF:(n+m)*32<=140737488355328)
  (aT:cs.length=n*2) (eX:vs.length=m*2)
  (an:∀j v,cs[j]? = some v->w.cell? ⟨b,off+j,none⟩=some v)
  (cQ:∀j v,vs[j]? = some v->w.cell? ⟨vb,voff+j,none⟩=some v) (lz:∀v∈cs,v.oneCell'=true) (ky:∀v∈vs,v.oneCell'=true) :
  Calls P (ρ.f 22) #[.slice (some ⟨b,off,none⟩) n c,.int .i64 i,.slice (some ⟨vb,voff,none⟩) m vc] w fun e w' =>
   e=.returned (.slice (some ⟨w.heap.size,0,none⟩) (n+m) (grownCap w (n+m) c (ρ.t 9))) ∧
   w'=(((w.alloc (.cells ((cs.take (i*2)).toArray++Builtin.zeroCells zc (n+m-i)++Builtin.zeroCells zc (grownCap w (n+m) c (ρ.t 9)-(n+m))) (ρ.t 9))).drew.setCells w.heap.size (i*2) vs).drew).setCells w.heap.size ((i+m)*2) (cs.drop (i*2)):=by
 have t0:=L.t0;have t3:=L.t3;have t4:=L.t4;have t24:=L.t24;have a0:=z6 (P:=P) t0 rfl;have a3:=z6 (P:=P) t3 rfl;have a4:=z6 (P:=P) t4 rfl;have a24:=z6 (P:=P) t24 rfl;have ⟨z0,v0⟩:=wH L.i0;have ⟨z3,v3⟩:=wH L.i3;have ⟨z4,v4⟩:=wH L.i4;have ⟨z24,v24⟩:=wH L.i24;have ⟨z9,v9,aF⟩:=lC L.i9;have u0:=run_underlying L.t0;have u3:=run_underlying L.t3;have u4:=run_underlying L.t4;have oL:=run_underlying L.t24;have mixed:=L.mixed;obtain⟨i0,iV,dW,bW,kR⟩:=info_parts L.i9;have cH:¬((m:Int)=0):=by omega
 have dM:¬((i:Int)=(n:Int)):=by omega
 have hz3:(c:Int)<(n:Int)+(m:Int):=by omega
 have hbw:b<w.heap.size:=block_lt_of_cell (an 0 _ (Aa (by omega)));have hvw:vb<w.heap.size:=block_lt_of_cell (cQ 0 _ (Aa (by omega)));have ic:(n:Int)+(m:Int)-(i:Int)=((n+m-i:Nat):Int):=by omega
 have pP:i+(n+m-i)=n+m:=by omega
 have hold:(Builtin.firstCells i0.size i (.slice (some ⟨b,off,none⟩) i c)).run P w.drew=.ok (cs.take (i*2)).toArray w.drew:=by
  rw[bW];exact run_firstCells_some w.drew 2 i ⟨b,off,none⟩ i c (cs.take (i*2)) (by rw[A3];omega) (fun j v hj=>by
   rw[Addr.add_lit];rw[CV] at hj;split at hj
   ·exact an j v hj
   ·cases hj)
 have nC:∀ty,(Builtin.append_ #[(ρ.t 24),(ρ.t 3)] ty #[.slice (some ⟨b,off,none⟩) i c,.int .i64 ((n:Int)+(m:Int)-(i:Int))]).run P w =
   .ok (.slice (some ⟨w.heap.size,0,none⟩) (n+m) (grownCap w (n+m) c (ρ.t 9))) (w.drew.alloc (.cells ((cs.take (i*2)).toArray++Builtin.zeroCells zc (n+m-i)++Builtin.zeroCells zc (grownCap w (n+m) c (ρ.t 9)-(n+m))) (ρ.t 9))):=fun ty=>by
  have h:=Lib.run_append_grow_zeros w (ρ.t 24) (ρ.t 3) ty (ρ.t 9) i0 _ .i64 .i64 L.t24 L.t3 iV dW (some ⟨b,off,none⟩) i c (cs.take (i*2)) hold (n+m-i) (by omega) (by omega) (by omega) (by omega) (by rw[kR];omega) (by rw[kR,pP];exact growslice_fits aq eF);rw[pP] at h;rw[ic];exact h
 obtain⟨G,hG⟩:∃G,G=grownCap w (n+m) c (ρ.t 9):=⟨_,rfl⟩;obtain⟨ROW,kq⟩:∃ROW:Array Value,ROW=(cs.take (i*2)).toArray++Builtin.zeroCells zc (n+m-i)++Builtin.zeroCells zc (G-(n+m)):=⟨_,rfl⟩;rw[←hG] at nC ⊢;rw[←kq] at nC ⊢;have hRl:(n+m)*2<=ROW.size:=(by rw[kq];have:=L.z2;simp[size_zeroCells,this];omega);obtain⟨W1,cP⟩:∃W1,W1=w.drew.alloc (.cells ROW (ρ.t 9)):=⟨_,rfl⟩;rw[←cP] at nC;have hN:∀j,j<(n+m)*2->(W1.cell? ⟨w.heap.size,j,none⟩).isSome=true:=fun j hj=>(by rw[cP,World.cell?_alloc_at (w:=w.drew) ROW _ w.heap.size j rfl,Bh (by omega)];rfl);have ug:∀j,W1.frozen? ⟨w.heap.size,j,none⟩=false:=fun j=>by rw[cP];exact World.frozen?_alloc_at (w:=w.drew) ROW _ w.heap.size j rfl
 have hOb:∀j v,w.cell? ⟨b,j,none⟩=some v->W1.cell? ⟨b,j,none⟩=some v:=fun j v h=>by rw[cP,World.cell?_alloc_past (w:=w.drew) _ b j hbw];exact h
 have hOv:∀j v,w.cell? ⟨vb,j,none⟩=some v->W1.cell? ⟨vb,j,none⟩=some v:=fun j v h=>by rw[cP,World.cell?_alloc_past (w:=w.drew) _ vb j hvw];exact h
 have rp:∀(W:World),(∀x,W.cell? x=W1.cell? x)->(∀x,W.frozen? x=W1.frozen? x)->∀ty dc,(Builtin.copy_ #[(ρ.t 24),(ρ.t 24)] ty #[.slice (some ⟨w.heap.size,i*2,none⟩) (n+m-i) dc,.slice (some ⟨vb,voff,none⟩) m vc]).run P W=.ok (goInt m) (W.setCells w.heap.size (i*2) vs):=fun W iu mK ty dc =>
  zbO W _ _ ty (ρ.t 9) 2 m w.heap.size (i*2) (n+m-i) dc ⟨vb,voff,none⟩ m vc vs L.t24 aF (by simp only[min_def];split<;>omega) eX
   (fun j v hj=>by rw[Addr.add_lit,iu];exact hOv _ v (cQ j v hj))
   (fun j hj=>by rw[iu];exact hN _ (by omega)) (fun j hj=>by rw[mK];exact ug _) ky
 have hGn:n+m<=G:=by rw[hG];exact grownCap_ge w _ _ _
 have hG63:G<=9223372036854775807:=(by have:=grownCap_le_maxLen w (n+m) c (ρ.t 9) (by unfold maxLen;omega);rw[←hG] at this;unfold maxLen at this;omega);have hGi:¬(G=i):=by omega
 have hGim:¬(G=i+m):=by omega
 have hci:¬(c=i):=by omega
 have hbN:b≠w.heap.size:=by omega
 have cJ:(cs.drop (i*2)).length=(n-i)*2:=by rw[Bp,aT];omega
 have mz:∀(W:World),(∀x,W.cell? x=(W1.setCells w.heap.size (i*2) vs).cell? x)->(∀x,W.frozen? x=(W1.setCells w.heap.size (i*2) vs).frozen? x)->∀ty dc sc,
   (Builtin.copy_ #[(ρ.t 24),(ρ.t 24)] ty #[.slice (some ⟨w.heap.size,(i+m)*2,none⟩) (n+m-(i+m)) dc,.slice (some ⟨b,off+i*2,none⟩) (n-i) sc]).run P W=.ok (goInt ((n-i:Nat):Int)) (W.setCells w.heap.size ((i+m)*2) (cs.drop (i*2))):=fun W iu mK ty dc sc =>
  zbO W _ _ ty (ρ.t 9) 2 (n-i) w.heap.size ((i+m)*2) (n+m-(i+m)) dc ⟨b,off+i*2,none⟩ (n-i) sc (cs.drop (i*2)) L.t24 aF (by simp only[min_def];split<;>omega) cJ
   (fun j v hj=>by
    rw[Addr.add_lit,iu,World.cell?_setCells_out _ _ _ _ _ (fun h _=>absurd h hbN),A5];exact hOb _ v (an (i*2+j) v (by rwa [BG] at hj)))
   (fun j hj=>by rw[iu];exact zac _ _ _ _ (fun t ht=>hN _ (by omega)) _ (hN _ (by omega)))
   (fun j hj=>by rw[mK,World.frozen?_setCells];exact ug _) (fun v hv=>lz v (Bo hv))
 subst cP;have hE1:∀x,((w.alloc (.cells ROW (ρ.t 9))).drew).cell? x=(w.drew.alloc (.cells ROW (ρ.t 9))).cell? x:=fun x=>rfl;have di:∀x,((w.alloc (.cells ROW (ρ.t 9))).drew).frozen? x=(w.drew.alloc (.cells ROW (ρ.t 9))).frozen? x:=fun x=>rfl;have hF1:∀x,(((w.alloc (.cells ROW (ρ.t 9))).drew.setCells w.heap.size (i*2) vs).drew).cell? x=((w.drew.alloc (.cells ROW (ρ.t 9))).setCells w.heap.size (i*2) vs).cell? x:=fun x=>rfl;have hF2:∀x,(((w.alloc (.cells ROW (ρ.t 9))).drew.setCells w.heap.size (i*2) vs).drew).frozen? x=((w.drew.alloc (.cells ROW (ρ.t 9))).setCells w.heap.size (i*2) vs).frozen? x:=fun x=>rfl;have iF:IntKind.i64.wrap ((i:Int)+(m:Int))=(i:Int)+(m:Int):=by rw[IntKind.wrap_i64];omega
 have cr:(0:Int)<=(i:Int)+(m:Int):=by omega
 have bJ:i<=n:=by omega
 have htn:((i:Int)+(m:Int)).toNat=i+m:=by omega
 have ua:(i:Int)<=(n:Int):=by omega
 clear ic pP hold kq hG hRl;obtain⟨_,_,FG⟩:=L.f22
 go_enter FG,Body2.n22_ntmps ρ
 go_wp2_with (first
  | (at_builtin;refine Lib.wpList_append_run _ rfl _ _ _ _ rfl _ _ rfl rfl _ _ (nC _) ?_)
  | (at_builtin;refine zgp _ rfl _ _ (ρ.t 24) (ρ.t 24) rfl _ _ rfl rfl (rp _ hE1 di _ _) ?_)
  | (at_builtin;refine zgp _ rfl _ _ (ρ.t 24) (ρ.t 24) rfl _ _ rfl rfl (mz _ (fun _=>rfl) (fun _=>rfl) _ _ _) ?_))
 go_region_law_o (refine zkL rfl _ _ (ρ.t 24) (ρ.t 24) rfl (.slice (some ⟨w.heap.size,(i+m)*2,none⟩) (n+m-(i+m)) (G-(i+m))) (.slice (some ⟨b,off+i*2,none⟩) (n-i) (c-i)) (by simp[Act.eval,Act.put]) (by simp[Act.eval,Act.put]) (mz _ hF1 hF2 (ρ.t 3) (G-(i+m)) (c-i)) ?_)
 go_wp2
 go_ret;exact⟨rfl,rfl⟩
def zbJ {z:Array Value} {n:Nat} {u:Value} (h:u∈(Builtin.zeroCells z n).toList):u∈z.toList:=by
 simp only[Builtin.zeroCells,Array.toList_map,Al] at h;obtain⟨i,hi,rfl⟩:=h;have hi:i<n*z.size:=by simpa using hi
 have hz:0<z.size:=by
  rcases Nat.eq_zero_or_pos z.size with e|e
  ·rw[e] at hi;omega
  ·exact e
 have aj:i%z.size<z.size:=CG _ hz;rw[getElem!_pos z _ aj];simp
def zmb (w:World) (t e ty:TypeId) (z:Array Value) (ht:P.underlying t=some (.slice e)) (hv:∀w,(zeroValue e).run P w=.ok (.agg z) w) (h1:∀u∈z.toList,u.oneCell'=true) (b o n c:Nat) (hn:0<n)
  (hc:∀j,j<n*z.size->(w.cell? ⟨b,o+j,none⟩).isSome=true) (hf:∀j,j<n*z.size->w.frozen? ⟨b,o+j,none⟩=false) :
  (Builtin.clear_ #[t] ty #[.slice (some ⟨b,o,none⟩) n c]).run P w=.ok (.tuple #[]) (w.setCells b o (Builtin.zeroCells z n).toList):=by
 have hl:(Builtin.zeroCells z n).toList.length=n*z.size:=by rw[Bw,size_zeroCells]
 have du:=run_storeCells_cells (P:=P) b o (Builtin.zeroCells z n).toList 0 w (by rw[hl];simpa using hc) (by rw[hl];simpa using hf) fun u hu=>h1 u (zbJ hu);simp only[BF] at du;obtain⟨m,rfl⟩:∃m,n=m+1:=⟨n-1,by omega⟩;simp[Builtin.clear_,run_underlying ht,hv,Value.cells,du]
def del_walk {zc:Array Value} (L:DelL P ρ zc) (b off n c i j:Nat) (cs:List Value) (w:World) (ld:i<j) (hj:j<=n) (tz:n<=c) (hm:c<=9223372036854775807) (aT:cs.length=n*2)
  (an:∀k v,cs[k]? = some v->w.cell? ⟨b,off+k,none⟩=some v) (hfz:∀k,k<n*2->w.frozen? ⟨b,off+k,none⟩=false) (lz:∀v∈cs,v.oneCell'=true) :
  Calls P (ρ.f 45) #[.slice (some ⟨b,off,none⟩) n c,.int .i64 i,.int .i64 j] w fun e w' =>
   e=.returned (.slice (some ⟨b,off,none⟩) (i+(n-j)) c)∧w'=(w.drew.setCells b (off+i*2) (cs.drop (j*2))).setCells b (off+(i+(n-j))*2) (Builtin.zeroCells zc (n-(i+(n-j)))).toList:=by
 have mixed:=L.mixed;have t0:=L.t0;have t3:=L.t3;have t4:=L.t4;have t22:=L.t22;have a0:=z6 (P:=P) t0 rfl;have a3:=z6 (P:=P) t3 rfl;have a4:=z6 (P:=P) t4 rfl;have a22:=z6 (P:=P) t22 rfl;have ⟨z0,v0⟩:=wH L.i0;have ⟨z3,v3⟩:=wH L.i3;have ⟨z4,v4⟩:=wH L.i4;have ⟨z22,v22⟩:=wH L.i22;have ⟨z23,v23,aF⟩:=lC L.i23;obtain⟨i0,iV,dW,cH,kR⟩:=info_parts L.i23;obtain⟨news,dz⟩:∃news,news=cs.drop (j*2):=⟨_,rfl⟩;have hlen:news.length=(n-j)*2:=by rw[dz,Bp,aT];omega
 have hall:∀k,k<n*2->(w.cell? ⟨b,off+k,none⟩).isSome=true:=fun k hk=>by rw[an k _ (Aa (by omega))];rfl
 obtain⟨A,hA,dZ⟩:∃A:Addr,(if c=j then some (⟨b,off,none⟩:Addr) else some ⟨b,off+j*2,none⟩)=some A∧Hid (∀t u,news[t]? = some u->w.drew.cell? (A.add t)=some u):=by
  by_cases h:c=j
  ·refine⟨⟨b,off,none⟩,by simp[h],fun t u hu => ?_⟩;have h0:news.length=0:=by rw[hlen];omega
   rw[AN.1 h0] at hu;simp at hu
  ·refine⟨⟨b,off+j*2,none⟩,by simp[h],fun t u hu => ?_⟩;rw[dz,BG] at hu;rw[Addr.add_lit,A5];exact an _ _ hu
 have s1:Hid (news.length=(n-j)*2):=hlen;have s2:Hid (∀u∈news,u.oneCell'=true):=fun u hu=>lz u (Bo (dz▸hu));have s3:Hid (∀t,t<news.length->(w.drew.cell? ⟨b,off+i*2+t,none⟩).isSome=true∧w.drew.frozen? ⟨b,off+i*2+t,none⟩=false):=(by intro t ht;rw[hlen] at ht;rw[A5];exact⟨hall _ (by omega),hfz _ (by omega)⟩);obtain⟨W1,cP⟩:∃W1,W1=w.drew.setCells b (off+i*2) news:=⟨_,rfl⟩;have ir:∀k,k<n*2->(W1.cell? ⟨b,off+k,none⟩).isSome=true:=fun k hk=>(by rw[cP];exact zac b _ _ _ (fun t ht=>(s3 t ht).1) _ (hall k hk))
 have aT:∀ty,(Builtin.clear_ #[ρ.t 22] ty #[.slice (some ⟨b,off+(i+(n-j))*2,none⟩) (n-(i+(n-j))) (c-(i+(n-j)))]).run P W1=.ok (.tuple #[]) (W1.setCells b (off+(i+(n-j))*2) (Builtin.zeroCells zc (n-(i+(n-j)))).toList) :=
  fun ty=>zmb W1 _ _ ty _ t22 v23 L.z1 b (off+(i+(n-j))*2) _ _ (by omega)
   (fun t ht=>by rw[L.z2] at ht;rw[A5];exact ir _ (by omega)) (fun t ht=>by rw[L.z2] at ht;rw[cP,World.frozen?_setCells,A5];exact hfz _ (by omega))
 have hW:Hid (W1=w.drew.setCells b (off+i*2) news):=cP;have hN:Hid (news=cs.drop (j*2)):=dz;have hic:i<=c:=by omega
 have hjc:j<=c:=by omega
 have ah:¬(i=j):=by omega
 clear cP dz hlen an hall ir hfz lz;obtain⟨_,_,FG⟩:=L.f45
 go_enter FG,SlBodyN.n45_ntmps ρ
 go_wp2_with fail
 go_region_law_o (refine step_append_room rfl (.tmp 22) (.tmp 25) (ρ.t 22) rfl (ρ.t 23) i0 2 t22 iV cH b off i c (by simp[Act.eval,Act.put]) A (n-j) (c-j) news (by simp[Act.eval,Act.put]) s1.out dZ.out s2.out (by omega) s3.out ?_;rw[←hW.out])
 go_wp2
 go_ret;exact⟨rfl,by rw[←hN.out,←hW.out]⟩
end
section
open Go Go.RowKit Go.Shelf
def zar (R:AV->Value->Prop):List (List AV)->List Value->Prop
 | [],[]=>True
 | [x,y]::es,u::v::cs=>R x u∧R y v∧u.oneCell'=true∧v.oneCell'=true∧zar R es cs
 | _,_=>False
def zar.cons_inv {R:AV->Value->Prop} {e:List AV} {es:List (List AV)} {cs:List Value} (h:zar R (e::es) cs):∃x y u v aJ,e=[x,y]∧cs=u::v::aJ∧R x u∧R y v∧u.oneCell'=true∧v.oneCell'=true∧zar R es aJ:=by
 match e,cs,h with
 | [x,y],u::v::aJ,h=>exact⟨x,y,u,v,aJ,rfl,rfl,h⟩
def zar.nil_inv {R:AV->Value->Prop} {cs:List Value} (h:zar R [] cs):cs=[]:=by
 cases cs with
 | nil=>rfl
 | cons a l=>simp[zar] at h
def zar.append {R:AV->Value->Prop}:∀ {es:List (List AV)} {cs:List Value} {fs:List (List AV)} {ds:List Value},zar R es cs->zar R fs ds->zar R (es++fs) (cs++ds)
 | [],cs,fs,ds,h,k=>by rw[h.nil_inv];exact k
 | e::es,cs,fs,ds,h,k=>by
  obtain⟨x,y,u,v,aJ,rfl,rfl,h1,h2,h3,h4,h5⟩:=h.cons_inv;exact⟨h1,h2,h3,h4,h5.append k⟩
def zar.take {R:AV->Value->Prop}:∀ {es:List (List AV)} {cs:List Value} (i:Nat),zar R es cs->zar R (es.take i) (cs.take (i*2))
 | [],cs,i,h=>by rw[h.nil_inv];simp[zar]
 | e::es,cs,0,h=>by simp[zar]
 | e::es,cs,i+1,h=>by
  obtain⟨x,y,u,v,aJ,rfl,rfl,h1,h2,h3,h4,h5⟩:=h.cons_inv;rw[show (i+1)*2=i*2+2 by omega];exact⟨h1,h2,h3,h4,h5.take i⟩
def zar.drop {R:AV->Value->Prop}:∀ {es:List (List AV)} {cs:List Value} (i:Nat),zar R es cs->zar R (es.drop i) (cs.drop (i*2))
 | [],cs,i,h=>by rw[h.nil_inv];simp[zar]
 | e::es,cs,0,h=>by simpa using h
 | e::es,cs,i+1,h=>by
  obtain⟨x,y,u,v,aJ,rfl,rfl,h1,h2,h3,h4,h5⟩:=h.cons_inv;rw[show (i+1)*2=i*2+2 by omega];exact h5.drop i
def zar.length {R:AV->Value->Prop}:∀ {es:List (List AV)} {cs:List Value},zar R es cs->cs.length=es.length*2
 | [],cs,h=>by rw[h.nil_inv];rfl
 | e::es,cs,h=>by
  obtain⟨x,y,u,v,aJ,rfl,rfl,h1,h2,h3,h4,h5⟩:=h.cons_inv;have:=h5.length;simp only[Ax];omega
def zar.len2 {R:AV->Value->Prop}:∀ {es:List (List AV)} {cs:List Value},zar R es cs->∀e∈es,e.length=2
 | [],cs,h,e,he=>by cases he
 | e::es,cs,h,e',he=>by
  obtain⟨x,y,u,v,aJ,rfl,rfl,h1,h2,h3,h4,h5⟩:=h.cons_inv;rcases Ar.1 he with rfl|he
  ·rfl
  ·exact h5.len2 e' he
def zar.one {R:AV->Value->Prop}:∀ {es:List (List AV)} {cs:List Value},zar R es cs->∀u∈cs,u.oneCell'=true
 | [],cs,h,u,hu=>by rw[h.nil_inv] at hu;cases hu
 | e::es,cs,h,u',hu=>by
  obtain⟨x,y,u,v,aJ,rfl,rfl,h1,h2,h3,h4,h5⟩:=h.cons_inv;rcases Ar.1 hu with rfl|hu
  ·exact h3
  ·rcases Ar.1 hu with rfl|hu
   ·exact h4
   ·exact h5.one u' hu
def zar.get {R:AV->Value->Prop}:∀ {es:List (List AV)} {cs:List Value} (rest:List Value),zar R es cs->∀(i:Nat) (e:List AV) (c:Nat) (x:AV),es[i]? = some e->e[c]? = some x->R x ((cs++rest).getD (i*2+c) undef)
 | [],cs,rest,h,i,e,c,x,hi,hc=>by cases hi
 | e0::es,cs,rest,h,i,e,c,x,hi,hc=>by
  obtain⟨x0,y0,u,v,aJ,rfl,rfl,h1,h2,h3,h4,h5⟩:=h.cons_inv;cases i with
  | zero =>
   cases hi
   match c,hc with
   | 0,hc=>cases hc;exact h1
   | 1,hc=>cases hc;exact h2
   | c+2,hc=>simp at hc
  | succ i =>have:=h5.get rest i e c x (by simpa using hi) hc;rw[show (i+1)*2+c=(i*2+c)+1+1 by omega];simpa using this
def zar.of {R:AV->Value->Prop}:∀ {es:List (List AV)} {cs:List Value},es.length*2<=cs.length->(∀e∈es,e.length=2)->(∀j,j<es.length*2->(cs.getD j undef).oneCell'=true) ->
  (∀(i:Nat) (e:List AV) (c:Nat) (x:AV),es[i]? = some e->e[c]? = some x->R x (cs.getD (i*2+c) undef))->zar R es (cs.take (es.length*2))
 | [],cs,h1,h2,h3,h4=>by simp[zar]
 | e::es,cs,h1,h2,h3,h4=>by
  simp only[Ax] at h1
  match cs,h1 with
  | [],h1=>simp at h1
  | [u],h1=>simp at h1;omega
  | u::v::cs,h1 =>
   obtain⟨x,y,rfl⟩:∃x y,e=[x,y]:=by
    have:=h2 e Ak
    match e,this with
    | [x,y],_=>exact⟨x,y,rfl⟩
   have k3:∀j,j<es.length*2->(cs.getD j undef).oneCell'=true:=fun j hj=>(by have:=h3 (j+1+1) (by simp only[Ax];omega);simpa using this);have k4:∀(i:Nat) (e:List AV) (c:Nat) (x:AV),es[i]? = some e->e[c]? = some x->R x (cs.getD (i*2+c) undef):=fun i e c z hi hc=>(by have:=h4 (i+1) e c z (by simpa using hi) hc;rw[show (i+1)*2+c=(i*2+c)+1+1 by omega] at this;simpa using this);have:=zar.of (R:=R) (es:=es) (cs:=cs) (by simp only[Ax] at h1;omega) (fun e he=>h2 e (Ad _ he)) k3 k4;rw[show ([x,y]::es).length*2=es.length*2+2 by simp only[Ax];omega];refine⟨?_, ?_, ?_, ?_,this⟩
   ·simpa using h4 0 [x,y] 0 x rfl rfl
   ·simpa using h4 0 [x,y] 1 y rfl rfl
   ·simpa using h3 0 (by simp)
   ·simpa using h3 1 (by simp only[Ax];omega)
def qJ {P:Program} (w:World) (b o:Nat) (el:TypeId) (cur:Array Value) (vs:List Value) (hb:w.heap[b]? = some (.cells cur el (0,0))) (aR:o+vs.length<=cur.size) (h1:∀v∈vs,v.oneCell'=true) :
  w.setCells b o vs=w.setRow b (cur.toList.take o++vs++cur.toList.drop (o+vs.length)).toArray:=by
 have du:=run_storeCells_at P b o el vs 0 cur w hb (by simpa using aR) h1;have hc:∀j,j<vs.length->(w.cell? ⟨b,o+0+j,none⟩).isSome=true:=fun j hj=>by
  have:o+j<cur.size:=by omega
  simp[World.cell?,hb,this]
 have hf:∀j,j<vs.length->w.frozen? ⟨b,o+0+j,none⟩=false:=fun j hj=>(by simp[World.frozen?,hb]);have o8:=run_storeCells_cells (P:=P) b o vs 0 w hc hf h1;rw[o8] at du;simp only[BF,Result.ok.injEq] at du;exact du.2
section
variable {S:Seat} {A:Nat->Prop} {w:World} {ι:Nat->Option Nat}
def zej {b?:Option Nat} {es:List (List AV)} {v:Value} (h:qx S A w b? 2 es v) :
  (b? = none∧es=[]∧v=.slice none 0 0)∨∃b cap vs el,b? = some b∧v=.slice (some ⟨b,0,none⟩) es.length cap∧es.length<=cap∧cap<=maxLen∧w.heap[b]? = some (.cells vs el (0,0))∧cap*2<=vs.size∧zar (VR0 S A w) es (vs.toList.take (es.length*2)):=by
 obtain⟨h0,h1|⟨b,cap,vs,el,h1,h2,h3,h4,h5,h6,h7,h8⟩⟩:=h
 ·exact .inl h1
 ·refine .inr ⟨b,cap,vs,el,h1,h2,h3,h4,h5,h6,zar.of (by rw[Bw];exact AD (AH _ h3) h6) h0 (fun j hj => ?_) fun i e c x hi hc => ?_⟩
  ·have:=h7 j hj;simpa[Ao,List.getD] using this
  ·have:=h8 i e c x hi hc;simpa[Ao,List.getD] using this
def zaR {args:List AV} {vs:Array Value} {w':World} {es:List (List AV)} {pre rest:List Value} {cur:Array Value} {el:TypeId} {nb cap:Nat}
  (hA:∀b,A b->b<w.heap.size) (hι:∀i b,ι i=some b->¬A b) (nJ:nb=w.heap.size∨ι 0=some nb) (hk:KeepO (zbc ι) w w') (aj:nb<w'.heap.size) (hb:w'.heap[nb]? = some (.cells cur el (0,0))) (hc:cur.toList=pre++rest)
  (hr:zar (VR0 S A w) es pre) (h1:es.length<=cap) (h2:cap<=maxLen) (h3:cap*2<=cur.size) :
  zjv S A (ym ι []) (zcX S args ι vs w w' []) w w' (.own 2 es) (.slice (some ⟨nb,0,none⟩) es.length cap):=by
 have hAn:∀b,A b->nb≠b:=fun b hb e=>by
  subst e;rcases nJ with e|e
  ·have:=hA nb hb;omega
  ·exact hι _ _ e hb
 have aZ:∀j,cur.getD j undef=(pre++rest).getD j undef:=fun j=>(by rw[←hc];simp[Ao,List.getD]);have hβ:∀i b,(if i=0 then some nb else none)=some b->i=0∧b=nb:=fun i b h=>by
  split at h
  ·rename_i e;cases h;exact⟨e,rfl⟩
  ·cases h
 refine⟨fun i=>if i=0 then some nb else none,fun i b lg => ?_,fun i j b hi hj=>(hβ i b hi).1.trans (hβ j b hj).1.symm,(fun i es z bm hm=>by cases hm), ?_⟩
 ·obtain⟨_,rfl⟩:=hβ i b lg;refine⟨?_,aj⟩;rcases nJ with e|e
  ·exact .inl (by omega)
  ·exact .inr ⟨0,e,fun es=>by simp⟩
 ·show qx S _ w' (some nb) 2 es _;refine⟨hr.len2,.inr ⟨nb,cap,cur,el,rfl,rfl,h1,h2,hb,h3,fun j hj => ?_,fun i e c x hi fh => ?_⟩⟩
  ·rw[aZ];have hl:=hr.length;have:(pre++rest).getD j undef=pre[j]:=by rw[An,AG (by omega),Aa (by omega)];rfl
   rw[this];exact hr.one _ (Ay _)
  ·rw[aZ];have ez:∀b,A b->¬zbc ι b:=fun b aw ⟨k,e⟩=>hι _ _ e aw;exact (hr.get rest i e c x hi fh).mono (fun b aw=>⟨.inl (.inl aw),AE (hA b aw) hk.size,fun k e=>hAn _ aw (hβ k b e).2.symm⟩) fun b aw=>hk.block b (hA b aw) (ez b aw)
def jz {b:Nat} {new:Array Value} (h:ι 0=some b):KeepO (zbc ι) w (w.setRow b new) :=
 ⟨rfl,rfl,rfl,by rw[size_setRow];exact Az _,fun k _ hk=>setRow_other w b k new fun e=>hk ⟨0,e▸h⟩⟩
def jS:KeepO (zbc ι) w w.drew:=⟨rfl,rfl,rfl,Az _,fun _ _ _=>rfl⟩
def yD {O:Nat->Prop} {o:Obj}:KeepO O w (w.alloc o):=⟨rfl,rfl,rfl,by simp,fun k hk _=>by first|exact heap_alloc_old w _ k hk|exact heap_alloc_old w _ hk⟩
def zaE {w1:World} {b:Nat} {new:Array Value} {O:Nat->Prop} (h:w.heap.size<=b) (hk:KeepO O w w1):KeepO O w (w1.setRow b new) :=
 ⟨hk.os,hk.tape,hk.output,by rw[size_setRow];exact hk.size,fun k aA hO=>by rw[setRow_other w1 b k new (by omega)];exact hk.block k aA hO⟩
def zmi {L cs vs:List Value} {i n m:Nat} (hi:i<=n) (an:cs=L.take (n*2)) (hl:(n+m)*2<=L.length) (cQ:vs.length=m*2) (L1:List Value) (h1:L1=L.take ((i+m)*2)++cs.drop (i*2)++L.drop ((i+m)*2+(cs.drop (i*2)).length)) :
  L1.take (i*2)++vs++L1.drop (i*2+vs.length)=(cs.take (i*2)++vs++cs.drop (i*2))++L.drop ((i+m)*2+(cs.drop (i*2)).length):=by
 have e1:L1.take (i*2)=cs.take (i*2):=(by rw[h1,an,AP,List.take_append_of_le_length (by simp;omega),Dr,Dr];congr 1;omega);have e2:L1.drop (i*2+vs.length)=cs.drop (i*2)++L.drop ((i+m)*2+(cs.drop (i*2)).length):=(by rw[h1,AP];exact List.drop_left' (by simp;omega));rw[e1,e2];simp[AP]
def ins_realM {ρ:Ren} {zc:Array Value} (L:InsL S.P ρ zc) {es:List (List AV)} {e:List AV} {i:Nat} (hi:i<=es.length) (aq:es.length+1<=zie) :
  zgm S (ρ.f 22) [.own 2 es,.v (.int .i64 i),.own 2 [e]] (.own 2 (es.take i++[e]++es.drop i)) []:=by
 intro A w vs ι hl hA hι hargs;have hA0:=hA.1;have hιA:∀i b,ι i=some b->¬A b:=fun i b hb=>(hι.1 i b hb).2.2.1;have hιw:∀i b,ι i=some b->b<w.heap.size:=fun i b hb=>(hι.1 i b hb).2.1;have h0:qx S A w (ι 0) 2 es (vs.getD 0 undef):=hargs 0 _ rfl;have h1:VR0 S A w (.v (.int .i64 i)) (vs.getD 1 undef):=(hargs 1 (.v (.int .i64 i)) rfl).2;have h2:qx S A w (ι 2) 2 [e] (vs.getD 2 undef):=hargs 2 _ rfl;obtain⟨x0,x1,x2,rfl⟩:∃x0 x1 x2,vs=#[x0,x1,x2]:=by
  obtain⟨l⟩:=vs
  match l,hl with
  | [x0,x1,x2],_=>exact⟨x0,x1,x2,rfl⟩
 obtain rfl:x1=.int .i64 i:=VR.v_inv (σ:=fun _=>none) (.of0 h1);rcases zej h2 with⟨_,h,_⟩|⟨vb,vc,vvs,vel,v1,v2,v3,v4,v5,v6,v7⟩
 ·cases h
 obtain rfl:x2=.slice (some ⟨vb,0,none⟩) 1 vc:=v2;have aW:(vvs.toList.take 2).length=1*2:=v7.length;have b8:∀v∈vvs.toList.take 2,v.oneCell'=true:=v7.one;have cQ:∀j v,(vvs.toList.take 2)[j]? = some v->w.cell? ⟨vb,0+j,none⟩=some v:=fun j v hj=>by
  rw[CV] at hj;split at hj
  ·rw[BK] at hj;simpa[World.cell?,v5] using hj
  ·cases hj
 have v7:zar (VR0 S A w) [e] (vvs.toList.take 2):=v7;have cE:(es.take i++[e]++es.drop i).length=es.length+1:=by simp;omega
 have e9:es.length+1<=maxLen:=by unfold maxLen;unfold zie at aq;omega
 have eF:(es.length+1)*32<=140737488355328:=by unfold zie at aq;omega
 rcases zej h0 with⟨b1,b2,b3⟩|⟨b,cap,us,el,b1,b2,b3,b4,b5,b6,b7⟩
 ·obtain rfl:x0=.slice none 0 0:=b3;subst b2;obtain rfl:i=0:=by simpa using hi
  refine (zdg L none 0 0 vb 0 1 vc [] (vvs.toList.take 2) w (by omega) (by omega) (by omega) eF rfl aW (fun _=>rfl) (fun a h=>by cases h) cQ b8).mono ?_;rintro ex w' ⟨rfl,rfl⟩;have bp:=grownCap_ge w (0+1) 0 (ρ.t 9);have aV:=grownCap_le_maxLen w (0+1) 0 (ρ.t 9) e9;refine⟨_,rfl,jS.trans yD, ?_⟩;refine zaR (pre:=vvs.toList.take 2) (rest:=(Builtin.zeroCells zc (grownCap w (0+1) 0 (ρ.t 9)-(0+1))).toList) hA0 hιA (.inl rfl) (jS.trans yD) (by simp) (heap_alloc_new w.drew _) (by simp) v7 (by simpa using bp) aV ?_;simp only[CD,Bq,AJ,aW,size_zeroCells,L.z2];omega
 ·obtain rfl:x0=.slice (some ⟨b,0,none⟩) es.length cap:=b2;generalize eD:us.toList.take (es.length*2)=cs at b7;have aT:=b7.length;have bh:=b7.one;have oZ:es.length*2<=us.size:=AD (AH _ b3) b6;have an:∀j v,cs[j]? = some v->w.cell? ⟨b,0+j,none⟩=some v:=fun j v hj=>by
   rw[←eD,CV] at hj;split at hj
   ·rw[BK] at hj;simpa[World.cell?,b5] using hj
   ·cases hj
  have ch:∀j,j<us.size->(w.cell? ⟨b,j,none⟩).isSome=true:=fun j hj=>by simp[World.cell?,b5,hj]
  have gA:∀j,w.frozen? ⟨b,j,none⟩=false:=fun j=>by simp[World.frozen?,b5]
  have kT:vb≠b:=fun h=>(by have:=hι.2 2 0 vb v1 (h▸b1);omega);have bu:zar (VR0 S A w) (es.take i++[e]++es.drop i) (cs.take (i*2)++vvs.toList.take 2++cs.drop (i*2)):=((b7.take i).append v7).append (b7.drop i);have aV:cap<=9223372036854775807:=by unfold maxLen at b4;omega
  by_cases hr:es.length+1<=cap
  ·have aR:(es.length+1)*2<=us.size:=AD (AH _ hr) b6;by_cases bJ:i=es.length
   ·subst bJ;refine (ziH L b 0 es.length cap vb 0 1 vc (vvs.toList.take 2) w (by omega) hr aV aW (fun j hj=>ch _ (by omega)) (fun j hj=>gA _) cQ b8).mono ?_;rintro ex w' ⟨rfl,rfl⟩;rw[qJ (P:=S.P) w b (0+es.length*2) el us _ b5 (by rw[aW];omega) b8];generalize au:(us.toList.take (0+es.length*2)++vvs.toList.take 2++us.toList.drop (0+es.length*2+(vvs.toList.take 2).length))=nw;have aF:nw.length=us.size:=by rw[←au];simp only[AB,aW,A3,Bp,Bw];omega
    refine⟨_,rfl,jz b1, ?_⟩;have hd:=zaR (args:=[.own 2 es,.v (.int .i64 es.length),.own 2 [e]]) (vs:=#[.slice (some ⟨b,0,none⟩) es.length cap,.int .i64 es.length,.slice (some ⟨vb,0,none⟩) 1 vc]) (pre:=cs.take (es.length*2)++vvs.toList.take 2++cs.drop (es.length*2)) (rest:=us.toList.drop (0+es.length*2+(vvs.toList.take 2).length)) (cur:=nw.toArray) (cap:=cap) (w':=w.setRow b nw.toArray) hA0 hιA (.inr b1) (jz b1) (by rw[size_setRow];exact hιw 0 b b1) (setRow_heap w b us _ el _ b5) ?_ bu (by rw[cE];exact hr) b4 (by rw[Bq,aF];exact b6)
    ·rw[cE] at hd;exact hd
    ·have e3:cs.take (es.length*2)=cs:=Bx (by omega);have e4:cs.drop (es.length*2)=[]:=Cn (by omega);rw[←au,e3,e4,AY,eD];simp
   ·have aj:i<es.length:=by omega
    refine (ins_shift L b 0 es.length cap i vb 0 1 vc cs (vvs.toList.take 2) w aj (by omega) hr aV kT aT aW an (fun j hj=>ch _ (by omega)) (fun j hj=>gA _) cQ bh b8 vel el vvs.size us.size (by simp[World.shape?,v5]) (by simp[World.shape?,b5]) (by omega) (by simp[World.frozen?,v5]) (by simp[World.frozen?,v5])).mono ?_;rintro ex w' ⟨rfl,rfl⟩;have cJ:(cs.drop (i*2)).length=(es.length-i)*2:=by rw[Bp,aT];omega
    have dJ:∀v∈cs.drop (i*2),v.oneCell'=true:=fun v hv=>bh v (Bo hv);rw[qJ (P:=S.P) w.drew b (0+(i+1)*2) el us _ b5 (by rw[cJ];omega) dJ];generalize bQ:(us.toList.take (0+(i+1)*2)++cs.drop (i*2)++us.toList.drop (0+(i+1)*2+(cs.drop (i*2)).length))=bM;have dt:bM.length=us.size:=by rw[←bQ];simp only[AB,cJ,A3,Bp,Bw];omega
    have cr:=setRow_heap w.drew b us bM.toArray el (0,0) b5;rw[qJ (P:=S.P) _ b (0+i*2) el bM.toArray _ cr (by rw[aW,Bq,dt];omega) b8];generalize ca:(bM.toArray.toList.take (0+i*2)++vvs.toList.take 2++bM.toArray.toList.drop (0+i*2+(vvs.toList.take 2).length))=eW;have fI:eW.length=us.size:=by rw[←ca];simp only[AB,aW,A3,Bp,dt];omega
    have hk:KeepO (zbc ι) w ((w.drew.setRow b bM.toArray).setRow b eW.toArray):=(jS.trans (jz b1)).trans (jz b1);refine⟨_,rfl,hk, ?_⟩;have hd:=zaR (args:=[.own 2 es,.v (.int .i64 i),.own 2 [e]]) (vs:=#[.slice (some ⟨b,0,none⟩) es.length cap,.int .i64 i,.slice (some ⟨vb,0,none⟩) 1 vc]) (pre:=cs.take (i*2)++vvs.toList.take 2++cs.drop (i*2)) (rest:=us.toList.drop ((i+1)*2+(cs.drop (i*2)).length)) (cur:=eW.toArray) (cap:=cap) (w':=(w.drew.setRow b bM.toArray).setRow b eW.toArray) hA0 hιA (.inr b1) hk (by rw[size_setRow,size_setRow];exact hιw 0 b b1) (setRow_heap _ b _ _ el _ cr) ?_ bu (by rw[cE];exact hr) b4 (by rw[Bq,fI];exact b6)
    ·rw[cE] at hd;exact hd
    ·rw[←ca];simp only[AY] at bQ ⊢;exact zmi (L:=us.toList) (m:=1) (by omega) eD.symm (by rw[Bw];exact aR) aW bM bQ.symm
  ·by_cases bJ:i=es.length
   ·subst bJ;refine (zdg L (some ⟨b,0,none⟩) es.length cap vb 0 1 vc cs (vvs.toList.take 2) w (by omega) b3 (by omega) eF aT aW (fun h=>by cases h) (fun a ha j v hj=>by cases ha;rw[Addr.add_lit];exact an j v hj) cQ b8).mono ?_;rintro ex w' ⟨rfl,rfl⟩;have bp:=grownCap_ge w (es.length+1) cap (ρ.t 9);have aV:=grownCap_le_maxLen w (es.length+1) cap (ρ.t 9) e9;generalize grownCap w (es.length+1) cap (ρ.t 9)=G at bp aV;refine⟨_,rfl,jS.trans yD, ?_⟩
    have hd:=zaR (args:=[.own 2 es,.v (.int .i64 es.length),.own 2 [e]]) (vs:=#[.slice (some ⟨b,0,none⟩) es.length cap,.int .i64 es.length,.slice (some ⟨vb,0,none⟩) 1 vc]) (pre:=cs.take (es.length*2)++vvs.toList.take 2++cs.drop (es.length*2)) (rest:=(Builtin.zeroCells zc (G-(es.length+1))).toList)
     (cur:=(cs++vvs.toList.take 2).toArray++Builtin.zeroCells zc (G-(es.length+1))) (cap:=G) (w':=w.drew.alloc (.cells ((cs++vvs.toList.take 2).toArray++Builtin.zeroCells zc (G-(es.length+1))) (ρ.t 9))) hA0 hιA (.inl rfl) (jS.trans yD) (by simp) (heap_alloc_new w.drew _) ?_ bu (by rw[cE];exact bp) aV ?_
    ·rw[cE] at hd;exact hd
    ·have e3:cs.take (es.length*2)=cs:=Bx (by omega);have e4:cs.drop (es.length*2)=[]:=Cn (by omega);rw[e3,e4];simp
    ·simp only[CD,Bq,AB,aT,aW,size_zeroCells,L.z2];omega
   ·have aj:i<es.length:=by omega
    refine (ins_grow L b 0 es.length cap i vb 0 1 vc cs (vvs.toList.take 2) w aj (by omega) b3 (by omega) eF aT aW an cQ bh b8).mono ?_;rintro ex w' ⟨rfl,rfl⟩;have bp:=grownCap_ge w (es.length+1) cap (ρ.t 9);have aV:=grownCap_le_maxLen w (es.length+1) cap (ρ.t 9) e9;generalize grownCap w (es.length+1) cap (ρ.t 9)=G at bp aV;generalize gM:(cs.take (i*2)).toArray++Builtin.zeroCells zc (es.length+1-i)++Builtin.zeroCells zc (G-(es.length+1))=ROW;have pf:ROW.size=G*2:=(by rw[←gM];simp only[CD,Bq,A3,aT,size_zeroCells,L.z2];omega);have hrt:ROW.toList.take (i*2)=cs.take (i*2):=(by rw[←gM];simp only[Array.toList_append,AP];exact Dj (by rw[A3,aT];omega));have cJ:(cs.drop (i*2)).length=(es.length-i)*2:=by rw[Bp,aT];omega
    have dJ:∀v∈cs.drop (i*2),v.oneCell'=true:=fun v hv=>bh v (Bo hv);have cZ:((w.alloc (.cells ROW (ρ.t 9))).drew).heap[w.heap.size]? = some (.cells ROW (ρ.t 9) (0,0)):=heap_alloc_new w _;rw[qJ (P:=S.P) _ w.heap.size (i*2) (ρ.t 9) ROW _ cZ (by rw[aW];omega) b8];generalize bQ:(ROW.toList.take (i*2)++vvs.toList.take 2++ROW.toList.drop (i*2+(vvs.toList.take 2).length))=bM;have dt:bM.length=ROW.size:=by rw[←bQ];simp only[AB,aW,A3,Bp,Bw];omega
    have cr:(((w.alloc (.cells ROW (ρ.t 9))).drew.setRow w.heap.size bM.toArray).drew).heap[w.heap.size]? = some (.cells bM.toArray (ρ.t 9) (0,0)):=setRow_heap _ w.heap.size ROW bM.toArray (ρ.t 9) (0,0) cZ;rw[qJ (P:=S.P) _ w.heap.size ((i+1)*2) (ρ.t 9) bM.toArray _ cr (by rw[cJ,Bq,dt];omega) dJ];generalize ca:(bM.toArray.toList.take ((i+1)*2)++cs.drop (i*2)++bM.toArray.toList.drop ((i+1)*2+(cs.drop (i*2)).length))=eW;have fI:eW.length=ROW.size:=by rw[←ca];simp only[AB,cJ,A3,Bp,dt];omega
    have bX:KeepO (zbc ι) w ((w.alloc (.cells ROW (ρ.t 9))).drew):=yD.trans jS;have cW:KeepO (zbc ι) w (((w.alloc (.cells ROW (ρ.t 9))).drew.setRow w.heap.size bM.toArray).drew):=(zaE (Az _) bX).trans jS;have hk:=zaE (new:=eW.toArray) (b:=w.heap.size) (Az _) cW;refine⟨_,rfl,hk, ?_⟩
    have hd:=zaR (args:=[.own 2 es,.v (.int .i64 i),.own 2 [e]]) (vs:=#[.slice (some ⟨b,0,none⟩) es.length cap,.int .i64 i,.slice (some ⟨vb,0,none⟩) 1 vc]) (pre:=cs.take (i*2)++vvs.toList.take 2++cs.drop (i*2)) (rest:=bM.drop ((i+1)*2+(cs.drop (i*2)).length)) (cur:=eW.toArray) (cap:=G) (nb:=w.heap.size) (el:=ρ.t 9)
     hA0 hιA (.inl rfl) hk (by rw[size_setRow];exact (Ac.1 (by simpa using cr)).1) (setRow_heap _ w.heap.size _ _ (ρ.t 9) _ cr) ?_ bu (by rw[cE];exact bp) aV (by rw[Bq,fI,pf];exact Az _)
    ·rw[cE] at hd;exact hd
    ·have e5:bM.take ((i+1)*2)=cs.take (i*2)++vvs.toList.take 2:=(by rw[←bQ,hrt];exact Dj (by rw[AB,A3,aT,aW];omega));rw[←ca];simp only[e5]
def del_realM {ρ:Ren} {zc:Array Value} (L:DelL S.P ρ zc) {es:List (List AV)} {i j:Nat} (ld:i<j) (hj:j<=es.length) :
  zgm S (ρ.f 45) [.own 2 es,.v (.int .i64 i),.v (.int .i64 j)] (.own 2 (es.take i++es.drop j)) []:=by
 intro A w vs ι hl hA hι hargs;have hA0:=hA.1;have hιA:∀i b,ι i=some b->¬A b:=fun i b hb=>(hι.1 i b hb).2.2.1;have hιw:∀i b,ι i=some b->b<w.heap.size:=fun i b hb=>(hι.1 i b hb).2.1;have h0:qx S A w (ι 0) 2 es (vs.getD 0 undef):=hargs 0 _ rfl;have h1:VR0 S A w (.v (.int .i64 i)) (vs.getD 1 undef):=(hargs 1 (.v (.int .i64 i)) rfl).2;have h2:VR0 S A w (.v (.int .i64 j)) (vs.getD 2 undef):=(hargs 2 (.v (.int .i64 j)) rfl).2;obtain⟨x0,x1,x2,rfl⟩:∃x0 x1 x2,vs=#[x0,x1,x2]:=by
  obtain⟨l⟩:=vs
  match l,hl with
  | [x0,x1,x2],_=>exact⟨x0,x1,x2,rfl⟩
 obtain rfl:x1=.int .i64 i:=VR.v_inv (σ:=fun _=>none) (.of0 h1);obtain rfl:x2=.int .i64 j:=VR.v_inv (σ:=fun _=>none) (.of0 h2);have cE:(es.take i++es.drop j).length=i+(es.length-j):=by simp;omega
 rcases zej h0 with⟨b1,b2,b3⟩|⟨b,cap,us,el,b1,b2,b3,b4,b5,b6,b7⟩
 ·subst b2;simp at hj;omega
 ·obtain rfl:x0=.slice (some ⟨b,0,none⟩) es.length cap:=b2;generalize eD:us.toList.take (es.length*2)=cs at b7;have aT:=b7.length;have bh:=b7.one;have oZ:es.length*2<=us.size:=AD (AH _ b3) b6;have an:∀j v,cs[j]? = some v->w.cell? ⟨b,0+j,none⟩=some v:=fun j v hj=>by
   rw[←eD,CV] at hj;split at hj
   ·rw[BK] at hj;simpa[World.cell?,b5] using hj
   ·cases hj
  have gA:∀j,w.frozen? ⟨b,j,none⟩=false:=fun j=>by simp[World.frozen?,b5]
  have aV:cap<=9223372036854775807:=by unfold maxLen at b4;omega
  have bu:zar (VR0 S A w) (es.take i++es.drop j) (cs.take (i*2)++cs.drop (j*2)):=(b7.take i).append (b7.drop j);refine (del_walk L b 0 es.length cap i j cs w ld hj b3 aV aT an (fun k _=>gA _) bh).mono ?_;rintro ex w' ⟨rfl,rfl⟩;have cJ:(cs.drop (j*2)).length=(es.length-j)*2:=by rw[Bp,aT];omega
  have dJ:∀v∈cs.drop (j*2),v.oneCell'=true:=fun v hv=>bh v (Bo hv);rw[qJ (P:=S.P) w.drew b (0+i*2) el us _ b5 (by rw[cJ];omega) dJ];generalize bQ:(us.toList.take (0+i*2)++cs.drop (j*2)++us.toList.drop (0+i*2+(cs.drop (j*2)).length))=bM;have dt:bM.length=us.size:=by rw[←bQ];simp only[AB,cJ,A3,Bp,Bw];omega
  have cr:=setRow_heap w.drew b us bM.toArray el (0,0) b5;have nv:(Builtin.zeroCells zc (es.length-(i+(es.length-j)))).toList.length=(es.length-(i+(es.length-j)))*2:=by rw[Bw,size_zeroCells,L.z2]
  rw[qJ (P:=S.P) _ b (0+(i+(es.length-j))*2) el bM.toArray _ cr (by rw[nv,Bq,dt];omega) fun u hu=>L.z1 u (zbJ hu)];generalize hzr:(Builtin.zeroCells zc (es.length-(i+(es.length-j)))).toList=zs at nv;generalize ca:(bM.toArray.toList.take (0+(i+(es.length-j))*2)++zs++bM.toArray.toList.drop (0+(i+(es.length-j))*2+zs.length))=eW;have fI:eW.length=us.size:=by rw[←ca];simp only[AB,nv,A3,Bp,dt];omega
  have hk:KeepO (zbc ι) w ((w.drew.setRow b bM.toArray).setRow b eW.toArray):=(jS.trans (jz b1)).trans (jz b1);refine⟨_,rfl,hk, ?_⟩;have hd:=zaR (args:=[.own 2 es,.v (.int .i64 i),.v (.int .i64 j)]) (vs:=#[.slice (some ⟨b,0,none⟩) es.length cap,.int .i64 i,.int .i64 j]) (pre:=cs.take (i*2)++cs.drop (j*2)) (rest:=zs++bM.drop ((i+(es.length-j))*2+zs.length)) (cur:=eW.toArray) (cap:=cap) (w':=(w.drew.setRow b bM.toArray).setRow b eW.toArray) hA0 hιA (.inr b1) hk (by rw[size_setRow,size_setRow];exact hιw 0 b b1) (setRow_heap _ b _ _ el _ cr) ?_ bu (by rw[cE];omega) b4 (by rw[Bq,fI];exact b6)
  ·rw[cE] at hd;exact hd
  ·have e5:bM.take ((i+(es.length-j))*2)=cs.take (i*2)++cs.drop (j*2):=(by rw[←bQ,←eD];simp only[AY,Dr];rw[Nat.min_eq_left (by omega)];refine Dj ?_;rw[eD,AB,cJ,A3,Bw];omega);rw[←ca];simp only[AY,e5,AP]
end
def InsAt (S:Seat) (id:Nat):Prop:=∀g,ql g S.fns=some id->∃ρ zc,ρ.f 22=g∧InsL S.P ρ zc
def DelAt (S:Seat) (id:Nat):Prop:=∀g,ql g S.fns=some id->∃ρ zc,ρ.f 45=g∧DelL S.P ρ zc
def P78 (es:List Entry) (i:Int) (ys:List Entry):Option (List Entry) :=
 ck (decide (0<=i∧i<=((List.length es:Nat):Int)∧List.length es+1<=zie∧List.length ys=1)) (some (es.take i.toNat++ys++es.drop i.toNat))
def k78:CSpec:=⟨78,[.own .entry,.int,.own .entry],.own .entry,fun x=>P78 x.1 x.2.1 x.2.2,false,[1000,1002]⟩
def r78a {S:Seat} (h:InsAt S 78) (es:List Entry) (i:Int) (ys y:List Entry) (hy:P78 es i ys=some y):(zb S).ret 78 [.own 2 (es.map Ty.entry.cells),.v (.int .i64 i),.own 2 (ys.map Ty.entry.cells)] (.own 2 (y.map Ty.entry.cells)) []:=by
 obtain⟨h1,h2⟩:=qG hy;obtain⟨h0,hi,hr,hl⟩:=of_decide_eq_true h1;obtain rfl:=Option.some.inj h2;obtain⟨k,rfl⟩:∃k:Nat,i=k:=⟨i.toNat,by omega⟩;obtain⟨e,rfl⟩:∃e,ys=[e]:=by
  match ys,hl with
  | [e],_=>exact⟨e,rfl⟩
 intro g hg;obtain⟨ρ,zc,rfl,L⟩:=h g hg;have:=ins_realM (S:=S) L (es:=es.map Ty.entry.cells) (e:=Ty.entry.cells e) (i:=k) (by simpa using hi) (by simpa using hr);have e1:((es.take (Int.toNat k)++[e]++es.drop (Int.toNat k)).map Ty.entry.cells)=(es.map Ty.entry.cells).take k++[Ty.entry.cells e]++(es.map Ty.entry.cells).drop k:=(by simp[C8,C9]);show wY S _ _ (.own 2 ((es.take (Int.toNat k)++[e]++es.drop (Int.toNat k)).map Ty.entry.cells)) [];rw[e1];exact this.up
def r78 {S:Seat} (h:InsAt S 78):Rt S k78:=fun x y hy=>r78a h x.1 x.2.1 x.2.2 y hy
def P77 (es:List Entry) (i j:Int):Option (List Entry) :=
 ck (decide (0<=i∧i<j∧j<=((List.length es:Nat):Int))) (some (es.take i.toNat++es.drop j.toNat))
def k77:CSpec:=⟨77,[.own .entry,.int,.int],.own .entry,fun x=>P77 x.1 x.2.1 x.2.2,false,[1000]⟩
def r77a {S:Seat} (h:DelAt S 77) (es:List Entry) (i j:Int) (y:List Entry) (hy:P77 es i j=some y):(zb S).ret 77 [.own 2 (es.map Ty.entry.cells),.v (.int .i64 i),.v (.int .i64 j)] (.own 2 (y.map Ty.entry.cells)) []:=by obtain⟨h1,h2⟩:=qG hy;obtain⟨h0,hi,hj⟩:=of_decide_eq_true h1;obtain rfl:=Option.some.inj h2;obtain⟨k,rfl⟩:∃k:Nat,i=k:=⟨i.toNat,by omega⟩;obtain⟨m,rfl⟩:∃m:Nat,j=m:=⟨j.toNat,by omega⟩;intro g hg;obtain⟨ρ,zc,rfl,L⟩:=h g hg;have:=del_realM (S:=S) L (es:=es.map Ty.entry.cells) (i:=k) (j:=m) (by omega) (by simpa using hj);have e1:((es.take (Int.toNat k)++es.drop (Int.toNat m)).map Ty.entry.cells)=(es.map Ty.entry.cells).take k++(es.map Ty.entry.cells).drop m:=(by simp[C8,C9]);show wY S _ _ (.own 2 ((es.take (Int.toNat k)++es.drop (Int.toNat m)).map Ty.entry.cells)) [];rw[e1];exact this.up
def r77 {S:Seat} (h:DelAt S 77):Rt S k77:=fun x y hy=>r77a h x.1 x.2.1 x.2.2 y hy
end
section
section
variable (F27:LD->LY->(Option Err)) (F55:LD->LY->Edit->(Option (LY×Err))) (F58:LD->LI->(Option Err)) (F59:LD->LI->(Option Bool)) (F60:Int->(Option Bool)) (F71:LD->LY->Edit->(Option (LY×Err))) (F72:LY->(Option LY)) (F73:LY->LI->(Option (Int×Bool))) (F76s:LI->(Option LI)) (F77:LY->Int->Int->(Option LY)) (F78:LY->Int->LY->(Option LY)) (F79:LY->(Option LY))
def tc72:TCode:=.seq (rg [om 2 cn]) (.seq (rg [om 5 0,oq 6 (.call true [] 79 [5]),om 0 6]) (.seq (.seq (rg [om 7 0,oq 8 (Ln 7),om 9 (ci 0)]) (.loop ⟨[.slot 9 .int,.rowH 6 .entry],[3,4,10,11,12,13,14,15,16,17,18,19,20,21],[4],[]⟩ 0 (.seq (rg [oq 10 (Bi .lss 9 8)]) (.seq (.cond 10 .skip (.exit 0)) (.seq (.block 1 (.seq (rg [om 11 9,oq 12 (.ia 2 7 9),oq 13 (.load (some 2) 12),oq 4 (.alloc [.slice none 0 0,.int .i64 0]),om 3 11,on (.store 2 4 13)]) (rg [om 14 0,om 15 3,oq 16 (.fa 0 4),oq 17 (Ld 16),oq 18 (.call true [] 76 [17]),oq 19 (.ia 2 14 15),oq 20 (.fa 0 19),on (.store 1 20 18)]))) (rg [oq 21 (Bi .add 9 (ci 1)),om 9 21])))))) (.seq (rg [om 22 0,om 2 22]) .ret))) 
def tf72:TFunc:=⟨1,23,[.tmp 2],true,tc72,[]⟩
def zgk (y1:LY) (x2:(Int×LY)):Option (LR (Int×LY) LY) :=
 br (decide (x2.1<(y1.length:Int)))
 (ck (decide (0<=x2.1∧x2.1<(x2.2.length:Int))) <|
 bno ((x2.2)[(Int.toNat x2.1)]?) fun y3 =>
 bno (F76s (Entry.at_ y3)) fun y4 =>
 ck (decide (0<=x2.1∧x2.1<(x2.2.length:Int))) <|
 bno ((x2.2)[(Int.toNat x2.1)]?) fun y5 =>
 nxO (some (wi (x2.1+(1:Int)),List.set x2.2 (Int.toNat x2.1) (Entry.mk y4 (Entry.n y5)))))
 (dnO (some (x2.1,x2.2)))
def S72 (a0:LY):Option LY :=
 bno (F79 a0) fun y1 =>
 lp (zgk F76s y1) ((0:Int),y1) fun x6 =>
 some x6.2
def P72:=S72 P76s P79
def k72:CSpec:=⟨72,[(.sl .entry)],(.own .entry),fun x=>P72 x,false,[]⟩
def r72 {S:Seat} (h:Ok1 S 72 tf72):RtF S [k76s,k79] (Rt S k72):=okr h
def tc71:TCode:=.seq (rg [oq 3 (.box 0),oq 5 (.box 2),om 6 cn,om 7 cz]) (.seq (.seq (rg [oq 11 (.load (some 1) 3),oq 12 (.fa 0 5),oq 13 (Ld 12),oq 14 (Cl 58 [11,13]),om 8 14]) (.seq (rg [om 15 8,oq 16 (.eqn false true 15)]) (.cond 16 (.seq (rg [om 17 8,om 6 cn,om 7 17]) .ret) .skip))) (.seq (rg [om 19 1,oq 20 (.fa 0 5),oq 21 (Ld 20),oq 22 (Cl 73 [19,21]),om 18 22,oq 23 (.ext 18 0),oq 24 (.ext 18 1),om 9 23,om 10 24]) (.seq (.block 0 (.seq (.regionJ ⟨[.slot 25 .bool],[26,27,28,29,30,31],[],[]⟩ [oq 26 (.fa 2 5),oq 27 (Ld 26),om 28 27,og 29 (.mov 10) 28 true [],og 30 (.un .not 29) 28 true [],oq 31 (.pick 28 30 (cb false)),om 25 31] [] false) (.cond 25 (.seq (rg [oq 32 (.ifc 1 (ci 5)),om 6 cn,om 7 32]) .ret) (.seq (rg [oq 34 (.fa 2 5),oq 35 (Ld 34),om 33 35]) (.cond 33 (.seq (rg [om 36 1,om 37 9,om 38 9,oq 39 (Bi .add 38 (ci 1)),oq 40 (.call true [1000] 77 [36,37,39]),om 6 40,om 7 cz]) .ret) (.seq (rg [oq 42 (.load (some 1) 3),oq 43 (.fa 0 5),oq 44 (Ld 43),oq 45 (Cl 59 [42,44]),oq 46 (.un .not 45),om 41 46]) (.cond 41 (.seq (rg [oq 47 (.ifc 1 (ci 6)),om 6 cn,om 7 47]) .ret) (.seq (rg [oq 49 (.fa 1 5),oq 50 (Ld 49),oq 51 (Cl 60 [50]),oq 52 (.un .not 51),om 48 52]) (.cond 48 (.seq (rg [oq 53 (.ifc 1 (ci 1)),om 6 cn,om 7 53]) .ret) (.seq (rg [om 55 10,om 54 55]) (.cond 54 (.seq (rg [om 56 1,om 57 9,oq 58 (.fa 1 5),oq 59 (Ld 58),oq 60 (.ia 2 56 57),oq 61 (.fa 1 60),on (.store 1 61 59)]) (.seq (rg [om 62 1,om 6 62,om 7 cz]) .ret)) .skip))))))))))) (.seq (.region [om 63 1,om 64 9,oq 65 (.fa 0 5),od 66 (Ld 65) [2],oq 68 (.fa 1 5),od 69 (Ld 68) [5],od 67 (.call true [3000] 76 [66]) [3],od 70 (.build [.slice none 0 0,.int .i64 0] [(0,1,67),(1,1,69)]) [4,6],od 71 (.bslice false 2 [.slice none 0 0,.int .i64 0] 1 [(0,70)]) [7],od 72 (.call true [1000,1002] 78 [63,64,71]) [0,1,8,4],od 6 (.mov 72) [9,9,0,1,2,3,4,5,6,7,8,9],od 7 (.mov cz) [10,0,1,2,3,4,5,6,7,8,9,10]] [.int,.int,.int,.int,.int,.int,.int,.int,.entry] true) .ret)))) 
def tf71:TFunc:=⟨3,73,[.tmp 6,.tmp 7],false,tc71,[1001]⟩
def S71 (a0:LD) (a1:LY) (a2:Edit):Option (LY×Err) :=
 bno (F58 a0 (Edit.at_ a2)) fun y1 =>
 br (!(Err.isNil y1))
 (some (([]:List Entry),y1))
 (bno (F73 a1 (Edit.at_ a2)) fun y2 =>
 jn (σ:=Bool) (α:=((List Entry)×Err)) (br (Edit.clear a2)
 (zt (some (!y2.2)))
 (zt (some false))) fun x3 =>
 br x3
 (some (([]:List Entry),Err.no (5:Int)))
 (br (Edit.clear a2)
 (bno (F77 a1 y2.1 (wi (y2.1+(1:Int)))) fun y4 =>
 some (y4,Err.nil))
 (bno (F59 a0 (Edit.at_ a2)) fun y5 =>
 br (!y5)
 (some (([]:List Entry),Err.no (6:Int)))
 (bno (F60 (Edit.n a2)) fun y6 =>
 br (!y6)
 (some (([]:List Entry),Err.no (1:Int)))
 (br y2.2
 (ck (decide (0<=y2.1∧y2.1<(a1.length:Int))) <|
 bno ((a1)[(Int.toNat y2.1)]?) fun y7 =>
 some (List.set a1 (Int.toNat y2.1) (Entry.mk (Entry.at_ y7) (Edit.n a2)),Err.nil))
 (bno (F76s (Edit.at_ a2)) fun y8 =>
 bno (F78 a1 y2.1 ([Entry.mk y8 (Edit.n a2)]:List Entry)) fun y9 =>
 some (y9,Err.nil)))))))
def s71 (a0:(List Dim)) (a1:(List Entry)) (a2:Edit):tf71.runM [⟨58,[(.st .outl),(.sl .int)],.err,fun x=>F58 x.1 x.2,false,[]⟩,
 ⟨59,[(.st .outl),(.sl .int)],.bool,fun x=>F59 x.1 x.2,false,[]⟩,
 ⟨60,[.int],.bool,fun x=>F60 x,false,[]⟩,
 ⟨73,[(.sl .entry),(.sl .int)],(.tp [.int,.bool]),fun x=>F73 x.1 x.2,false,[]⟩,
 ⟨76,[(.sl .int)],(.sl .int),fun x=>F76s x,false,[]⟩,
 ⟨77,[(.own .entry),.int,.int],(.own .entry),fun x=>F77 x.1 x.2.1 x.2.2,false,[1000]⟩,
 ⟨78,[(.own .entry),.int,(.own .entry)],(.own .entry),fun x=>F78 x.1 x.2.1 x.2.2,false,[1000,1002]⟩] [(.st .outl),(.own .entry),(.st .edit)] (.tp [(.own .entry),.err]) (a0,a1,a2)=S71 F58 F59 F60 F73 F76s F77 F78 a0 a1 a2:=by kernel_rfl
def P71:=S71 P58 P59 P60 P73 P76s P77 P78
def k71:CSpec:=⟨71,[(.st .outl),(.own .entry),(.st .edit)],(.tp [(.own .entry),.err]),fun x=>P71 x.1 x.2.1 x.2.2,false,[1001]⟩
def r71 {S:Seat} (h:Ok1 S 71 tf71) (lx:Rt S k58) (h59:Rt S k59) (iv:Rt S k60) (h73:Rt S k73) (rS:Rt S k76s) (rQ:Rt S k77) (rP:Rt S k78):Rt S k71:=fun x y hy =>
 Ok1.soundM h (C:=[k58,k59,k60,k73,k76s,k77,k78]) (zK.cons lx (zK.cons h59 (zK.cons iv (zK.cons h73 (zK.cons rS (zK.cons rQ (zK.cons rP zK.nil))))))) rfl rfl rfl rfl rfl rfl ((s71 P58 P59 P60 P73 P76s P77 P78 x.1 x.2.1 x.2.2).trans hy)
end
end
end Ab
