/-
  slices.Insert and slices.Delete at elements of two cells: walked by hand, over any program that holds the two bodies.
-/
import Derived.Shelf.Bodies2
import Derived.Shelf.SlBodiesN
import Derived.Shelf.SlGeneric
import Derived.Shelf.RegionOpenPlain
import Derived.WalkKit
import Derived.Lib.Walk
import Derived.Lib.SliceRun
import Derived.Lib.JoinLaws
import Derived.Lib.AppendZerosOnto
import Derived.Lib.Overlaps
import Derived.Laws.Externs
import Derived.Laws.IdiomCopy
import Derived.Laws.NewBlocks
import Derived.Deep.RegionLaw
import Derived.Deep.AppendSrc
open List (length_drop)
open Nat (add_assoc min_def)
set_option linter.all false
set_option maxRecDepth 1000000
set_option maxHeartbeats 4000000
namespace Ab
open Go Go.RowKit Go.Shelf Go.Lib Go.Proofs
variable {P:Program} {ρ:Ren}
def zaO (w:World) (dT sT ty elem:TypeId) (z n b o dLen dCap:Nat) (a:Addr) (sLen sCap:Nat) (cs:List Value) (hu:P.underlying dT=some (.slice elem)) (hs:(P.info? elem).map (·.size)=some z) (hm:Nat.min sLen dLen=n)
  (hn:cs.length=n * z) (db:∀ j v,cs[j]? = some v->w.cell? (a.add j)=some v) (hc:∀ j,j < cs.length->(w.cell? ⟨b,o+j,none⟩).isSome=true) (hf:∀ j,j < cs.length->w.frozen? ⟨b,o+j,none⟩=false) (h1:∀ v∈cs,v.oneCell'=true) :
  (Builtin.copy_ #[dT,sT] ty #[.slice (some ⟨b,o,none⟩) dLen dCap,.slice (some a) sLen sCap]).run P w=.ok (goInt n) (w.setCells b o cs):=by
 have eI:=run_storeCells_cells (P:=P) b o cs 0 w (by simpa using hc) (by simpa using hf) h1;obtain ⟨i,hq,hi⟩:=Option.map_eq_some_iff.1 hs;have hfc:=run_firstCells_some (P:=P) w z n a sLen sCap cs hn db;simp[Builtin.copy_,run_underlying hu,Builtin.lenOf,Go.sizeOf,typeInfo,hq,hi,hm,hfc,eI]
def zei (w:World) {ops:Array Oper} {rest:List Oper} {o:Oper} {a:Act} {Q:Exit->Act->World->Prop} (hg:o.guard=none) (d s:Operand) (t t':TypeId) (ho:o.op=.call { callee:=.builtin .copy,args:=#[d,s],argTypes:=#[t,t'] })
  (v u:Value) (hd:a.eval d=v) (hs:a.eval s=u) {v':Value} {w':World} (hr:(Builtin.copy_ #[t,t'] o.type #[v,u]).run P w=.ok v' w') (h:wpList P ops Q rest (a.put o.dst v') w'):wpList P ops Q (o :: rest) a w:=by
 refine wpList_plain hg fun _ hK => ?_;have h2:=hK _ _ h;unfold Oper.wp execOp;simp only[ho,resolve,invoke,builtin,Sem.run_bind,Sem.run_pure,Result.andThen_ok,List.map_toArray,List.map_cons,List.map_nil,hd,hs,hr];exact h2
def zhM {ops:Array Oper} {o:Oper} {a:Act} {w:World} {K:Act->World->Prop} {Q:Exit->Act->World->Prop} {E:Prop} (hg:o.guard=none) (d x:Operand) (t t':TypeId)
  (ho:o.op=.call { callee:=.builtin .copy,args:=#[d,x],argTypes:=#[t,t'] }) (v u:Value) (hd:a.eval d=v) (hx:a.eval x=u) {v':Value} {w':World} (hr:(Builtin.copy_ #[t,t'] o.type #[v,u]).run P w=.ok v' w') (h:K (a.put o.dst v') w') :
  if Region.wanted o (yielded ops a.tmps)=true then Oper.wp P o a w K Q else E:=by
 rw[if_pos (by simp[Region.wanted,hg])];unfold Oper.wp;simp[execOp,ho,resolve,invoke,builtin,hd,hx,hr,Result.andThen];exact h
def yX (b:Nat) (vs:List Value) (o:Nat) (w:World) (h:∀ j,j < vs.length->(w.cell? ⟨b,o+j,none⟩).isSome=true) (k:Nat) (hk:(w.cell? ⟨b,k,none⟩).isSome=true):((w.setCells b o vs).cell? ⟨b,k,none⟩).isSome=true:=by
 by_cases cq:o<=k∧k < o+vs.length
 ·have:=World.cell?_setCells_in b vs o w h (k - o) (by omega);rw[show o+(k - o)=k by omega] at this;rw[this];rfl
 ·rw[World.cell?_setCells_out b vs o w ⟨b,k,none⟩ (fun _ _=>by show k < o∨o+vs.length<=k;omega)];exact hk
structure SlL (P:Program) (ρ:Ren) (zc:Array Value):Prop where
 mixed:P.follows .mixedOrders=true
 t0:P.underlying (ρ.t 0)=some (.tuple #[])
 t3:P.underlying (ρ.t 3)=some (.int .i64)
 t4:P.underlying (ρ.t 4)=some .bool
 i0:(P.info? (ρ.t 0)).map (fun i=>(i.zero,i.size))=some (some (.tuple #[]),1)
 i3:(P.info? (ρ.t 3)).map (fun i=>(i.zero,i.size))=some (some (.int .i64 0),1)
 i4:(P.info? (ρ.t 4)).map (fun i=>(i.zero,i.size))=some (some (.bool false),1)
 z2:zc.size=2
 z1:∀ u∈zc.toList,u.oneCell'=true
structure InsL (P:Program) (ρ:Ren) (zc:Array Value):Prop extends SlL P ρ zc where
 f22:Bears P (ρ.f 22) (Body2.n22 ρ)
 ov:∀ (args:Array Value) (w:World),(callFunc (ρ.f 29) args).run P w=((Extern.SlicesOverlaps.overlaps #[ρ.t 24,ρ.t 24] #[ρ.t 4] args).run P w).andThen fun v w'=>.ok (.value v) w'
 t24:P.underlying (ρ.t 24)=some (.slice (ρ.t 9))
 i24:(P.info? (ρ.t 24)).map (fun i=>(i.zero,i.size))=some (some (.slice none 0 0),1)
 i9:(P.info? (ρ.t 9)).map (fun i=>(i.zero,i.size,i.bytes))=some (some (.agg zc),2,32)
structure DelL (P:Program) (ρ:Ren) (zc:Array Value):Prop extends SlL P ρ zc where
 f45:Bears P (ρ.f 45) (SlBodyN.n45 ρ)
 t22:P.underlying (ρ.t 22)=some (.slice (ρ.t 23))
 i22:(P.info? (ρ.t 22)).map (fun i=>(i.zero,i.size))=some (some (.slice none 0 0),1)
 i23:(P.info? (ρ.t 23)).map (fun i=>(i.zero,i.size,i.bytes))=some (some (.agg zc),2,32)
def zP {t:TypeId} {d:TypeDesc} (h:P.underlying t=some d) (hd:(match d with | .struct _ | .array _ _=>true | _=>false)=false) (w:World):(isAgg t).run P w=.ok false w:=by cases d<;>simp_all[isAgg,run_underlying h]
def yB {t:TypeId} {z:Value} {n:Nat} (h:(P.info? t).map (fun i=>(i.zero,i.size))=some (some z,n)):(∀ w,(Go.sizeOf t).run P w=.ok n w)∧∀ w,(zeroValue t).run P w=.ok z w:=by obtain ⟨i,hi,gV⟩:=Option.map_eq_some_iff.1 h;simp only[Prod.mk.injEq] at gV;exact ⟨fun w=>by simp[Go.sizeOf,typeInfo,hi,gV.2],fun w=>by simp[zeroValue,typeInfo,hi,gV.1]⟩
def zfo {t:TypeId} {z:Value} {n m:Nat} (h:(P.info? t).map (fun i=>(i.zero,i.size,i.bytes))=some (some z,n,m)):(∀ w,(Go.sizeOf t).run P w=.ok n w)∧(∀ w,(zeroValue t).run P w=.ok z w)∧(P.info? t).map (·.size)=some n:=by obtain ⟨i,hi,h1,h2,h3⟩:=info_parts h;exact ⟨fun w=>by simp[Go.sizeOf,typeInfo,hi,h2],fun w=>by simp[zeroValue,typeInfo,hi,h1],by rw[hi];simp[h2]⟩
def ins_shift {zc:Array Value} (L:InsL P ρ zc) (b off n c i vb voff m vc:Nat) (cs vs:List Value) (w:World) (hi:i < n) (hm:0 < m) (al:n+m<=c) (mZ:c<=9223372036854775807) (kO:vb≠b)
  (aM:cs.length=n * 2) (fo:vs.length=m * 2)
  (aj:∀ j v,cs[j]? = some v->w.cell? ⟨b,off+j,none⟩=some v) (iL:∀ j,j < (n+m) * 2->(w.cell? ⟨b,off+j,none⟩).isSome=true) (hfz:∀ j,j < (n+m) * 2->w.frozen? ⟨b,off+j,none⟩=false)
  (bR:∀ j v,vs[j]? = some v->w.cell? ⟨vb,voff+j,none⟩=some v) (ir:∀ v∈cs,v.oneCell'=true) (gK:∀ v∈vs,v.oneCell'=true)
  (tA tB:TypeId) (kA kB:Nat) (iM:w.shape? vb=some (tA,kA)) (hsb:w.shape? b=some (tB,kB)) (hkB:kB≠0) (hfa:w.frozen? ⟨vb,voff,none⟩=false) (mL:w.frozen? ⟨vb,kA,none⟩=false) :
  Calls P (ρ.f 22) #[.slice (some ⟨b,off,none⟩) n c,.int .i64 i,.slice (some ⟨vb,voff,none⟩) m vc] w fun e w' =>
   e=.returned (.slice (some ⟨b,off,none⟩) (n+m) c)∧w'=(w.drew.setCells b (off+(i+m) * 2) (cs.drop (i * 2))).setCells b (off+i * 2) vs:=by
 have t0:=L.t0;have t3:=L.t3;have t4:=L.t4;have t24:=L.t24;have a0:=zP (P:=P) t0 rfl;have a3:=zP (P:=P) t3 rfl;have a4:=zP (P:=P) t4 rfl;have a24:=zP (P:=P) t24 rfl;have ⟨z0,v0⟩:=yB L.i0;have ⟨z3,v3⟩:=yB L.i3;have ⟨z4,v4⟩:=yB L.i4;have ⟨z24,v24⟩:=yB L.i24;have ⟨z9,v9,aG⟩:=zfo L.i9;have u0:=run_underlying L.t0;have u3:=run_underlying L.t3;have u4:=run_underlying L.t4;have lI:=run_underlying L.t24;have cj:¬ ((m:Int)=0):=by omega
 have cU:¬ ((i:Int)=(n:Int)):=by omega
 have hov:∀ lb cb,(callFunc (ρ.f 29) #[.slice (some ⟨vb,voff,none⟩) m vc,.slice (some ⟨b,off+(i+m) * 2,none⟩) lb cb]).run P w=.ok (.value (.bool false)) w:=fun lb cb=>(by rw[L.ov,Lib.run_overlaps_apart w (ρ.t 24) (ρ.t 4) (ρ.t 9) L.t24 2 z9 ⟨vb,voff,none⟩ ⟨b,off+(i+m) * 2,none⟩ m vc lb cb kO tA tB kA kB iM hsb hkB hfa mL];rfl);have dR:(cs.drop (i * 2)).length=(n - i) * 2:=by rw[length_drop,aM];omega
 have mixed:=L.mixed;have hw1:IntKind.i64.wrap ((i:Int)+(m:Int))=(i:Int)+(m:Int):=by rw[IntKind.wrap_i64];omega
 have cE:(0:Int)<=(i:Int)+(m:Int):=by omega
 have cq:i<=n:=by omega
 have htn:((i:Int)+(m:Int)).toNat=i+m:=by omega
 have cX:¬ (c=i+m):=by omega
 have hb3:(i:Int)<=(n:Int)+(m:Int):=by omega
 have hb4:¬ (c=i):=by omega
 have ki:∀ ty dc sc,(Builtin.copy_ #[(ρ.t 24),(ρ.t 24)] ty #[.slice (some ⟨b,off+(i+m) * 2,none⟩) (n+m - (i+m)) dc,.slice (some ⟨b,off+i * 2,none⟩) (n+m - i) sc]).run P w.drew=.ok (goInt ((n - i:Nat):Int)) (w.drew.setCells b (off+(i+m) * 2) (cs.drop (i * 2))):=fun ty dc sc =>
  zaO w.drew _ _ ty (ρ.t 9) 2 (n - i) b (off+(i+m) * 2) (n+m - (i+m)) dc ⟨b,off+i * 2,none⟩ (n+m - i) sc (cs.drop (i * 2)) L.t24 aG (by simp only[min_def];split<;>omega) dR
   (fun j v hj=>by rw[Addr.add_lit,add_assoc];exact aj (i * 2+j) v (by rwa [List.getElem?_drop] at hj))
   (fun j hj=>by rw[add_assoc];exact iL _ (by omega)) (fun j hj=>by rw[add_assoc];exact hfz _ (by omega)) (fun v hv=>ir v (List.mem_of_mem_drop hv))
 obtain ⟨W1,cS⟩:∃ W1,W1=w.drew.setCells b (off+(i+m) * 2) (cs.drop (i * 2)):=⟨_,rfl⟩;have lY:∀ k,k < (n+m) * 2->(W1.cell? ⟨b,off+k,none⟩).isSome=true:=fun k hk=>(by rw[cS];exact yX b _ _ _ (fun j hj=>by rw[add_assoc];exact iL _ (by omega)) _ (iL k hk));have mV:∀ (W:World),(∀ x,W.cell? x=W1.cell? x)->(∀ x,W.frozen? x=W1.frozen? x)->∀ ty dc,(Builtin.copy_ #[(ρ.t 24),(ρ.t 24)] ty #[.slice (some ⟨b,off+i * 2,none⟩) (n+m - i) dc,.slice (some ⟨vb,voff,none⟩) m vc]).run P W=.ok (goInt m) (W.setCells b (off+i * 2) vs):=fun W fT ko ty dc =>
  zaO W _ _ ty (ρ.t 9) 2 m b (off+i * 2) (n+m - i) dc ⟨vb,voff,none⟩ m vc vs L.t24 aG (by simp only[min_def];split<;>omega) fo
   (fun j v hj=>by
    rw[Addr.add_lit,fT,cS,World.cell?_setCells_out b _ _ _ _ (fun h _=>absurd h kO)];exact bR j v hj)
   (fun j hj=>by rw[fT,add_assoc];exact lY _ (by omega)) (fun j hj=>by rw[ko,cS,World.frozen?_setCells,add_assoc];exact hfz _ (by omega)) gK
 rw[← cS] at ki;obtain ⟨_,_,FG⟩:=L.f22
 go_enter FG,Body2.n22_ntmps ρ
 go_wp2_with (simp only[hov])
 go_region_law_o (refine zhM rfl _ _ (ρ.t 24) (ρ.t 24) rfl _ _ (by simp[Act.eval,Act.put]) (by simp[Act.eval,Act.put]) (ki _ _ _) ?_)
 go_wp2_with (at_builtin;refine zei _ rfl _ _ (ρ.t 24) (ρ.t 24) rfl _ _ rfl rfl (mV _ (fun _=>rfl) (fun _=>rfl) _ _) ?_)
 go_ret
 first | exact ⟨rfl,rfl⟩ | exact ⟨rfl,by rw[cS]⟩
def zfY {zc:Array Value} (L:InsL P ρ zc) (b off n c vb voff m vc:Nat) (vs:List Value) (w:World) (hm:0 < m) (al:n+m<=c) (mZ:c<=9223372036854775807)
  (fo:vs.length=m * 2) (iL:∀ j,j < m * 2->(w.cell? ⟨b,off+n * 2+j,none⟩).isSome=true) (hfz:∀ j,j < m * 2->w.frozen? ⟨b,off+n * 2+j,none⟩=false)
  (bR:∀ j v,vs[j]? = some v->w.cell? ⟨vb,voff+j,none⟩=some v) (gK:∀ v∈vs,v.oneCell'=true) :
  Calls P (ρ.f 22) #[.slice (some ⟨b,off,none⟩) n c,.int .i64 n,.slice (some ⟨vb,voff,none⟩) m vc] w fun e w' =>
   e=.returned (.slice (some ⟨b,off,none⟩) (n+m) c)∧w'=w.setCells b (off+n * 2) vs:=by
 have t0:=L.t0;have t3:=L.t3;have t4:=L.t4;have t24:=L.t24;have a0:=zP (P:=P) t0 rfl;have a3:=zP (P:=P) t3 rfl;have a4:=zP (P:=P) t4 rfl;have a24:=zP (P:=P) t24 rfl;have ⟨z0,v0⟩:=yB L.i0;have ⟨z3,v3⟩:=yB L.i3;have ⟨z4,v4⟩:=yB L.i4;have ⟨z24,v24⟩:=yB L.i24;have ⟨z9,v9,aG⟩:=zfo L.i9;have u0:=run_underlying L.t0;have u3:=run_underlying L.t3;have u4:=run_underlying L.t4;have lI:=run_underlying L.t24;have mixed:=L.mixed;obtain ⟨i0,gw,da,bK,gW⟩:=info_parts L.i9;have cj:¬ ((m:Int)=0):=by omega
 have db:Go.Src P i0.size (ρ.t 24) (.slice (some ⟨vb,voff,none⟩) m vc) m vs w:=(by rw[bK];exact Go.Src.ofSlice w L.t24 ⟨vb,voff,none⟩ m vc vs fo (fun j u hj=>by rw[Addr.add_lit];exact bR j u hj) gK);have aD:∀ ty,(Builtin.append_ #[(ρ.t 24),(ρ.t 24)] ty #[.slice (some ⟨b,off,none⟩) n c,.slice (some ⟨vb,voff,none⟩) m vc]).run P w=.ok (.slice (some ⟨b,off,none⟩) (n+m) c) (w.setCells b (off+n * 2) vs):=fun ty=>(by have h:=run_append_room_src w (ρ.t 24) (ρ.t 24) ty (ρ.t 9) i0 L.t24 gw b off n c _ m vs db al (by rw[bK,fo];exact iL) (by rw[bK,fo];exact hfz);rw[bK] at h;exact h);obtain ⟨_,_,FG⟩:=L.f22
 go_enter FG,Body2.n22_ntmps ρ
 go_wp2_with (at_builtin;refine Lib.wpList_append_run _ rfl _ _ _ _ rfl _ _ rfl rfl _ _ (aD _) ?_)
 go_ret;exact ⟨rfl,rfl⟩
def zbQ {zc:Array Value} (L:InsL P ρ zc) (base:Option Addr) (n c vb voff m vc:Nat) (cs vs:List Value) (w:World) (hm:0 < m) (oP:n<=c) (al:c < n+m) (dw:(n+m) * 32<=140737488355328)
  (aM:cs.length=n * 2) (fo:vs.length=m * 2) (bD:base=none->n=0)
  (aj:∀ a,base=some a->∀ j v,cs[j]? = some v->w.cell? (a.add j)=some v)
  (bR:∀ j v,vs[j]? = some v->w.cell? ⟨vb,voff+j,none⟩=some v) (gK:∀ v∈vs,v.oneCell'=true) :
  Calls P (ρ.f 22) #[.slice base n c,.int .i64 n,.slice (some ⟨vb,voff,none⟩) m vc] w fun e w' =>
   e=.returned (.slice (some ⟨w.heap.size,0,none⟩) (n+m) (grownCap w (n+m) c (ρ.t 9))) ∧
   w'=w.drew.alloc (.cells ((cs++vs).toArray++Builtin.zeroCells zc (grownCap w (n+m) c (ρ.t 9) - (n+m))) (ρ.t 9)):=by
 have t0:=L.t0;have t3:=L.t3;have t4:=L.t4;have t24:=L.t24;have a0:=zP (P:=P) t0 rfl;have a3:=zP (P:=P) t3 rfl;have a4:=zP (P:=P) t4 rfl;have a24:=zP (P:=P) t24 rfl;have ⟨z0,v0⟩:=yB L.i0;have ⟨z3,v3⟩:=yB L.i3;have ⟨z4,v4⟩:=yB L.i4;have ⟨z24,v24⟩:=yB L.i24;have ⟨z9,v9,aG⟩:=zfo L.i9;have u0:=run_underlying L.t0;have u3:=run_underlying L.t3;have u4:=run_underlying L.t4;have lI:=run_underlying L.t24;have mixed:=L.mixed;obtain ⟨i0,gw,da,bK,gW⟩:=info_parts L.i9;have cj:¬ ((m:Int)=0):=by omega
 have db:Go.Src P i0.size (ρ.t 24) (.slice (some ⟨vb,voff,none⟩) m vc) m vs w:=(by rw[bK];exact Go.Src.ofSlice w L.t24 ⟨vb,voff,none⟩ m vc vs fo (fun j u hj=>by rw[Addr.add_lit];exact bR j u hj) gK);have hold:(Builtin.firstCells i0.size n (.slice base n c)).run P w.drew=.ok cs.toArray w.drew:=by
  rw[bK];cases base with
  | none =>have h0:=bD rfl;subst h0;obtain rfl:cs=[]:=List.eq_nil_of_length_eq_zero (by omega);exact run_firstCells_none w.drew 2 0 0 c
  | some a=>exact run_firstCells_some w.drew 2 n a n c cs aM (fun j v hj=>aj a rfl j v hj)
 have aD:∀ ty,(Builtin.append_ #[(ρ.t 24),(ρ.t 24)] ty #[.slice base n c,.slice (some ⟨vb,voff,none⟩) m vc]).run P w=_:=fun ty =>
  run_append_grow_src w (ρ.t 24) (ρ.t 24) ty (ρ.t 9) i0 _ L.t24 gw da base n c cs hold _ m vs db al (by omega) (by rw[gW];exact growslice_fits al dw)
 obtain ⟨_,_,FG⟩:=L.f22
 go_enter FG,Body2.n22_ntmps ρ
 cases base with
 | none =>
  have h0:=bD rfl;subst h0
  go_wp2_with (at_builtin;refine Lib.wpList_append_run _ rfl _ _ _ _ rfl _ _ rfl rfl _ _ (aD _) ?_)
  go_ret;exact ⟨rfl,rfl⟩
 | some a =>
  obtain ⟨ab,ao,asp⟩:=a
  go_wp2_with (at_builtin;refine Lib.wpList_append_run _ rfl _ _ _ _ rfl _ _ rfl rfl _ _ (aD _) ?_)
  all_goals (go_ret;exact ⟨rfl,rfl⟩)
def ins_grow {zc:Array Value} (L:InsL P ρ zc) (b off n c i vb voff m vc:Nat) (cs vs:List Value) (w:World) (hi:i < n) (hm:0 < m) (oP:n<=c) (al:c < n+m) (dw:(n+m) * 32<=140737488355328)
  (aM:cs.length=n * 2) (fo:vs.length=m * 2)
  (aj:∀ j v,cs[j]? = some v->w.cell? ⟨b,off+j,none⟩=some v)
  (bR:∀ j v,vs[j]? = some v->w.cell? ⟨vb,voff+j,none⟩=some v) (ir:∀ v∈cs,v.oneCell'=true) (gK:∀ v∈vs,v.oneCell'=true) :
  Calls P (ρ.f 22) #[.slice (some ⟨b,off,none⟩) n c,.int .i64 i,.slice (some ⟨vb,voff,none⟩) m vc] w fun e w' =>
   e=.returned (.slice (some ⟨w.heap.size,0,none⟩) (n+m) (grownCap w (n+m) c (ρ.t 9))) ∧
   w'=(((w.alloc (.cells ((cs.take (i * 2)).toArray++Builtin.zeroCells zc (n+m - i)++Builtin.zeroCells zc (grownCap w (n+m) c (ρ.t 9) - (n+m))) (ρ.t 9))).drew.setCells w.heap.size (i * 2) vs).drew).setCells w.heap.size ((i+m) * 2) (cs.drop (i * 2)):=by
 have t0:=L.t0;have t3:=L.t3;have t4:=L.t4;have t24:=L.t24;have a0:=zP (P:=P) t0 rfl;have a3:=zP (P:=P) t3 rfl;have a4:=zP (P:=P) t4 rfl;have a24:=zP (P:=P) t24 rfl;have ⟨z0,v0⟩:=yB L.i0;have ⟨z3,v3⟩:=yB L.i3;have ⟨z4,v4⟩:=yB L.i4;have ⟨z24,v24⟩:=yB L.i24;have ⟨z9,v9,aG⟩:=zfo L.i9;have u0:=run_underlying L.t0;have u3:=run_underlying L.t3;have u4:=run_underlying L.t4;have lI:=run_underlying L.t24;have mixed:=L.mixed;obtain ⟨i0,gw,da,bK,gW⟩:=info_parts L.i9;have cj:¬ ((m:Int)=0):=by omega
 have cU:¬ ((i:Int)=(n:Int)):=by omega
 have hz3:(c:Int) < (n:Int)+(m:Int):=by omega
 have hbw:b < w.heap.size:=block_lt_of_cell (aj 0 _ (List.getElem?_eq_getElem (by omega)));have hvw:vb < w.heap.size:=block_lt_of_cell (bR 0 _ (List.getElem?_eq_getElem (by omega)));have iX:(n:Int)+(m:Int) - (i:Int)=((n+m - i:Nat):Int):=by omega
 have mz:i+(n+m - i)=n+m:=by omega
 have hold:(Builtin.firstCells i0.size i (.slice (some ⟨b,off,none⟩) i c)).run P w.drew=.ok (cs.take (i * 2)).toArray w.drew:=by
  rw[bK];exact run_firstCells_some w.drew 2 i ⟨b,off,none⟩ i c (cs.take (i * 2)) (by rw[List.length_take];omega) (fun j v hj=>by
   rw[Addr.add_lit];rw[List.getElem?_take] at hj;split at hj
   ·exact aj j v hj
   ·cases hj)
 have kP:∀ ty,(Builtin.append_ #[(ρ.t 24),(ρ.t 3)] ty #[.slice (some ⟨b,off,none⟩) i c,.int .i64 ((n:Int)+(m:Int) - (i:Int))]).run P w =
   .ok (.slice (some ⟨w.heap.size,0,none⟩) (n+m) (grownCap w (n+m) c (ρ.t 9))) (w.drew.alloc (.cells ((cs.take (i * 2)).toArray++Builtin.zeroCells zc (n+m - i)++Builtin.zeroCells zc (grownCap w (n+m) c (ρ.t 9) - (n+m))) (ρ.t 9))):=fun ty=>by
  have h:=Lib.run_append_grow_zeros w (ρ.t 24) (ρ.t 3) ty (ρ.t 9) i0 _ .i64 .i64 L.t24 L.t3 gw da (some ⟨b,off,none⟩) i c (cs.take (i * 2)) hold (n+m - i) (by omega) (by omega) (by omega) (by omega) (by rw[gW];omega) (by rw[gW,mz];exact growslice_fits al dw);rw[mz] at h;rw[iX];exact h
 obtain ⟨G,hG⟩:∃ G,G=grownCap w (n+m) c (ρ.t 9):=⟨_,rfl⟩;obtain ⟨ROW,gE⟩:∃ ROW:Array Value,ROW=(cs.take (i * 2)).toArray++Builtin.zeroCells zc (n+m - i)++Builtin.zeroCells zc (G - (n+m)):=⟨_,rfl⟩;rw[← hG] at kP ⊢;rw[← gE] at kP ⊢;have hRl:(n+m) * 2<=ROW.size:=(by rw[gE];have:=L.z2;simp[size_zeroCells,this];omega);obtain ⟨W1,cS⟩:∃ W1,W1=w.drew.alloc (.cells ROW (ρ.t 9)):=⟨_,rfl⟩;rw[← cS] at kP;have hN:∀ j,j < (n+m) * 2->(W1.cell? ⟨w.heap.size,j,none⟩).isSome=true:=fun j hj=>(by rw[cS,World.cell?_alloc_at (w:=w.drew) ROW _ w.heap.size j rfl,Array.getElem?_eq_getElem (by omega)];rfl);have pg:∀ j,W1.frozen? ⟨w.heap.size,j,none⟩=false:=fun j=>by rw[cS];exact World.frozen?_alloc_at (w:=w.drew) ROW _ w.heap.size j rfl
 have hOb:∀ j v,w.cell? ⟨b,j,none⟩=some v->W1.cell? ⟨b,j,none⟩=some v:=fun j v h=>by rw[cS,World.cell?_alloc_past (w:=w.drew) _ b j hbw];exact h
 have hOv:∀ j v,w.cell? ⟨vb,j,none⟩=some v->W1.cell? ⟨vb,j,none⟩=some v:=fun j v h=>by rw[cS,World.cell?_alloc_past (w:=w.drew) _ vb j hvw];exact h
 have mU:∀ (W:World),(∀ x,W.cell? x=W1.cell? x)->(∀ x,W.frozen? x=W1.frozen? x)->∀ ty dc,(Builtin.copy_ #[(ρ.t 24),(ρ.t 24)] ty #[.slice (some ⟨w.heap.size,i * 2,none⟩) (n+m - i) dc,.slice (some ⟨vb,voff,none⟩) m vc]).run P W=.ok (goInt m) (W.setCells w.heap.size (i * 2) vs):=fun W fT ko ty dc =>
  zaO W _ _ ty (ρ.t 9) 2 m w.heap.size (i * 2) (n+m - i) dc ⟨vb,voff,none⟩ m vc vs L.t24 aG (by simp only[min_def];split<;>omega) fo
   (fun j v hj=>by rw[Addr.add_lit,fT];exact hOv _ v (bR j v hj))
   (fun j hj=>by rw[fT];exact hN _ (by omega)) (fun j hj=>by rw[ko];exact pg _) gK
 have hGn:n+m<=G:=by rw[hG];exact grownCap_ge w _ _ _
 have hG63:G<=9223372036854775807:=(by have:=grownCap_le_maxLen w (n+m) c (ρ.t 9) (by unfold maxLen;omega);rw[← hG] at this;unfold maxLen at this;omega);have hGi:¬ (G=i):=by omega
 have hGim:¬ (G=i+m):=by omega
 have hci:¬ (c=i):=by omega
 have hbN:b≠w.heap.size:=by omega
 have dR:(cs.drop (i * 2)).length=(n - i) * 2:=by rw[length_drop,aM];omega
 have ka:∀ (W:World),(∀ x,W.cell? x=(W1.setCells w.heap.size (i * 2) vs).cell? x)->(∀ x,W.frozen? x=(W1.setCells w.heap.size (i * 2) vs).frozen? x)->∀ ty dc sc,
   (Builtin.copy_ #[(ρ.t 24),(ρ.t 24)] ty #[.slice (some ⟨w.heap.size,(i+m) * 2,none⟩) (n+m - (i+m)) dc,.slice (some ⟨b,off+i * 2,none⟩) (n - i) sc]).run P W=.ok (goInt ((n - i:Nat):Int)) (W.setCells w.heap.size ((i+m) * 2) (cs.drop (i * 2))):=fun W fT ko ty dc sc =>
  zaO W _ _ ty (ρ.t 9) 2 (n - i) w.heap.size ((i+m) * 2) (n+m - (i+m)) dc ⟨b,off+i * 2,none⟩ (n - i) sc (cs.drop (i * 2)) L.t24 aG (by simp only[min_def];split<;>omega) dR
   (fun j v hj=>by
    rw[Addr.add_lit,fT,World.cell?_setCells_out _ _ _ _ _ (fun h _=>absurd h hbN),add_assoc];exact hOb _ v (aj (i * 2+j) v (by rwa [List.getElem?_drop] at hj)))
   (fun j hj=>by rw[fT];exact yX _ _ _ _ (fun t ht=>hN _ (by omega)) _ (hN _ (by omega)))
   (fun j hj=>by rw[ko,World.frozen?_setCells];exact pg _) (fun v hv=>ir v (List.mem_of_mem_drop hv))
 subst cS;have hE1:∀ x,((w.alloc (.cells ROW (ρ.t 9))).drew).cell? x=(w.drew.alloc (.cells ROW (ρ.t 9))).cell? x:=fun x=>rfl;have cF:∀ x,((w.alloc (.cells ROW (ρ.t 9))).drew).frozen? x=(w.drew.alloc (.cells ROW (ρ.t 9))).frozen? x:=fun x=>rfl;have hF1:∀ x,(((w.alloc (.cells ROW (ρ.t 9))).drew.setCells w.heap.size (i * 2) vs).drew).cell? x=((w.drew.alloc (.cells ROW (ρ.t 9))).setCells w.heap.size (i * 2) vs).cell? x:=fun x=>rfl;have hF2:∀ x,(((w.alloc (.cells ROW (ρ.t 9))).drew.setCells w.heap.size (i * 2) vs).drew).frozen? x=((w.drew.alloc (.cells ROW (ρ.t 9))).setCells w.heap.size (i * 2) vs).frozen? x:=fun x=>rfl;have hw1:IntKind.i64.wrap ((i:Int)+(m:Int))=(i:Int)+(m:Int):=by rw[IntKind.wrap_i64];omega
 have cE:(0:Int)<=(i:Int)+(m:Int):=by omega
 have cq:i<=n:=by omega
 have htn:((i:Int)+(m:Int)).toNat=i+m:=by omega
 have hb3:(i:Int)<=(n:Int):=by omega
 clear iX mz hold gE hG hRl;obtain ⟨_,_,FG⟩:=L.f22
 go_enter FG,Body2.n22_ntmps ρ
 go_wp2_with (first
  | (at_builtin;refine Lib.wpList_append_run _ rfl _ _ _ _ rfl _ _ rfl rfl _ _ (kP _) ?_)
  | (at_builtin;refine zei _ rfl _ _ (ρ.t 24) (ρ.t 24) rfl _ _ rfl rfl (mU _ hE1 cF _ _) ?_)
  | (at_builtin;refine zei _ rfl _ _ (ρ.t 24) (ρ.t 24) rfl _ _ rfl rfl (ka _ (fun _=>rfl) (fun _=>rfl) _ _ _) ?_))
 go_region_law_o (refine zhM rfl _ _ (ρ.t 24) (ρ.t 24) rfl (.slice (some ⟨w.heap.size,(i+m) * 2,none⟩) (n+m - (i+m)) (G - (i+m))) (.slice (some ⟨b,off+i * 2,none⟩) (n - i) (c - i)) (by simp[Act.eval,Act.put]) (by simp[Act.eval,Act.put]) (ka _ hF1 hF2 (ρ.t 3) (G - (i+m)) (c - i)) ?_)
 go_wp2
 go_ret;exact ⟨rfl,rfl⟩
def zaJ {z:Array Value} {n:Nat} {u:Value} (h:u∈(Builtin.zeroCells z n).toList):u∈z.toList:=by
 simp only[Builtin.zeroCells,Array.toList_map,List.mem_map] at h;obtain ⟨i,hi,rfl⟩:=h;have hi:i < n * z.size:=by simpa using hi
 have hz:0 < z.size:=by
  rcases Nat.eq_zero_or_pos z.size with e | e
  ·rw[e] at hi;omega
  ·exact e
 have aq:i % z.size < z.size:=Nat.mod_lt _ hz;rw[getElem!_pos z _ aq];simp
def ziO (w:World) (t e ty:TypeId) (z:Array Value) (ht:P.underlying t=some (.slice e)) (hv:∀ w,(zeroValue e).run P w=.ok (.agg z) w) (h1:∀ u∈z.toList,u.oneCell'=true) (b o n c:Nat) (hn:0 < n)
  (hc:∀ j,j < n * z.size->(w.cell? ⟨b,o+j,none⟩).isSome=true) (hf:∀ j,j < n * z.size->w.frozen? ⟨b,o+j,none⟩=false) :
  (Builtin.clear_ #[t] ty #[.slice (some ⟨b,o,none⟩) n c]).run P w=.ok (.tuple #[]) (w.setCells b o (Builtin.zeroCells z n).toList):=by
 have hl:(Builtin.zeroCells z n).toList.length=n * z.size:=by rw[Array.length_toList,size_zeroCells]
 have eI:=run_storeCells_cells (P:=P) b o (Builtin.zeroCells z n).toList 0 w (by rw[hl];simpa using hc) (by rw[hl];simpa using hf) fun u hu=>h1 u (zaJ hu);simp only[Nat.add_zero] at eI;obtain ⟨m,rfl⟩:∃ m,n=m+1:=⟨n - 1,by omega⟩;simp[Builtin.clear_,run_underlying ht,hv,Value.cells,eI]
def del_walk {zc:Array Value} (L:DelL P ρ zc) (b off n c i j:Nat) (cs:List Value) (w:World) (mB:i < j) (hj:j<=n) (oP:n<=c) (hm:c<=9223372036854775807) (aM:cs.length=n * 2)
  (aj:∀ k v,cs[k]? = some v->w.cell? ⟨b,off+k,none⟩=some v) (hfz:∀ k,k < n * 2->w.frozen? ⟨b,off+k,none⟩=false) (ir:∀ v∈cs,v.oneCell'=true) :
  Calls P (ρ.f 45) #[.slice (some ⟨b,off,none⟩) n c,.int .i64 i,.int .i64 j] w fun e w' =>
   e=.returned (.slice (some ⟨b,off,none⟩) (i+(n - j)) c)∧w'=(w.drew.setCells b (off+i * 2) (cs.drop (j * 2))).setCells b (off+(i+(n - j)) * 2) (Builtin.zeroCells zc (n - (i+(n - j)))).toList:=by
 have mixed:=L.mixed;have t0:=L.t0;have t3:=L.t3;have t4:=L.t4;have t22:=L.t22;have a0:=zP (P:=P) t0 rfl;have a3:=zP (P:=P) t3 rfl;have a4:=zP (P:=P) t4 rfl;have a22:=zP (P:=P) t22 rfl;have ⟨z0,v0⟩:=yB L.i0;have ⟨z3,v3⟩:=yB L.i3;have ⟨z4,v4⟩:=yB L.i4;have ⟨z22,v22⟩:=yB L.i22;have ⟨z23,v23,aG⟩:=zfo L.i23;obtain ⟨i0,gw,da,cj,gW⟩:=info_parts L.i23;obtain ⟨news,cL⟩:∃ news,news=cs.drop (j * 2):=⟨_,rfl⟩;have hlen:news.length=(n - j) * 2:=by rw[cL,length_drop,aM];omega
 have hall:∀ k,k < n * 2->(w.cell? ⟨b,off+k,none⟩).isSome=true:=fun k hk=>by rw[aj k _ (List.getElem?_eq_getElem (by omega))];rfl
 obtain ⟨A,hA,db⟩:∃ A:Addr,(if c=j then some (⟨b,off,none⟩:Addr) else some ⟨b,off+j * 2,none⟩)=some A∧Hid (∀ t u,news[t]? = some u->w.drew.cell? (A.add t)=some u):=by
  by_cases h:c=j
  ·refine ⟨⟨b,off,none⟩,by simp[h],fun t u hu => ?_⟩;have h0:news.length=0:=by rw[hlen];omega
   rw[List.length_eq_zero_iff.1 h0] at hu;simp at hu
  ·refine ⟨⟨b,off+j * 2,none⟩,by simp[h],fun t u hu => ?_⟩;rw[cL,List.getElem?_drop] at hu;rw[Addr.add_lit,add_assoc];exact aj _ _ hu
 have s1:Hid (news.length=(n - j) * 2):=hlen;have s2:Hid (∀ u∈news,u.oneCell'=true):=fun u hu=>ir u (List.mem_of_mem_drop (cL ▸ hu));have s3:Hid (∀ t,t < news.length->(w.drew.cell? ⟨b,off+i * 2+t,none⟩).isSome=true∧w.drew.frozen? ⟨b,off+i * 2+t,none⟩=false):=(by intro t ht;rw[hlen] at ht;rw[add_assoc];exact ⟨hall _ (by omega),hfz _ (by omega)⟩);obtain ⟨W1,cS⟩:∃ W1,W1=w.drew.setCells b (off+i * 2) news:=⟨_,rfl⟩;have fS:∀ k,k < n * 2->(W1.cell? ⟨b,off+k,none⟩).isSome=true:=fun k hk=>(by rw[cS];exact yX b _ _ _ (fun t ht=>(s3 t ht).1) _ (hall k hk))
 have aM:∀ ty,(Builtin.clear_ #[ρ.t 22] ty #[.slice (some ⟨b,off+(i+(n - j)) * 2,none⟩) (n - (i+(n - j))) (c - (i+(n - j)))]).run P W1=.ok (.tuple #[]) (W1.setCells b (off+(i+(n - j)) * 2) (Builtin.zeroCells zc (n - (i+(n - j)))).toList) :=
  fun ty=>ziO W1 _ _ ty _ t22 v23 L.z1 b (off+(i+(n - j)) * 2) _ _ (by omega)
   (fun t ht=>by rw[L.z2] at ht;rw[add_assoc];exact fS _ (by omega)) (fun t ht=>by rw[L.z2] at ht;rw[cS,World.frozen?_setCells,add_assoc];exact hfz _ (by omega))
 have hW:Hid (W1=w.drew.setCells b (off+i * 2) news):=cS;have hN:Hid (news=cs.drop (j * 2)):=cL;have hic:i<=c:=by omega
 have hjc:j<=c:=by omega
 have ah:¬ (i=j):=by omega
 clear cS cL hlen aj hall fS hfz ir;obtain ⟨_,_,FG⟩:=L.f45
 go_enter FG,SlBodyN.n45_ntmps ρ
 go_wp2_with fail
 go_region_law_o (refine step_append_room rfl (.tmp 22) (.tmp 25) (ρ.t 22) rfl (ρ.t 23) i0 2 t22 gw cj b off i c (by simp[Act.eval,Act.put]) A (n - j) (c - j) news (by simp[Act.eval,Act.put]) s1.out db.out s2.out (by omega) s3.out ?_;rw[← hW.out])
 go_wp2
 go_ret;exact ⟨rfl,by rw[← hN.out,← hW.out]⟩
end Ab
