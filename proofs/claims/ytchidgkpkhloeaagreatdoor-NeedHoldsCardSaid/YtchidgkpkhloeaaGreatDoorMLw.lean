/-
  need.Leafs, walked at this seat's program.
-/
import Derived.Test.YtchidgkpkhloeaaGreatDoorMLf
import Derived.Test.YtchidgkpkhloeaaGreatDoorHG
import Derived.Maps.Own
import Derived.Maps.OwnOps
import Derived.Maps.OwnSet
import Derived.Maps.Views
import Derived.Deep.RegionHeld3
open List (getD_eq_getElem?_getD getElem?_eq_getElem length_append length_cons)
open Nat (le_refl)
set_option linter.unusedSimpArgs false
set_option linter.unusedVariables false
set_option maxRecDepth 100000
set_option maxHeartbeats 16000000
namespace Go.Proofs.TryzLeafs
open Go Go.RowKit Go.Maps Ab Go.Proofs.TryzReach Go.Proofs.TryzSolve
theorem za9 {H:Type} {P:Program} {e:TypeId} (he:P.underlying e=some .bool) {v:Value} {z:DataW H×List MemPlace} (h:plainElem P e v=some z):∃ x,v=.bool x∧z=(.lit (.bool x),[]):=by unfold plainElem at h;rw[he] at h;cases v<;>simp at h;exact ⟨_,rfl,h.symm⟩
theorem qX {H:Type} {P:Program} (w:World) {ops:Array Oper} {rest:List Oper} {o:Oper} {a:Act} {Q:Exit->Act->World->Prop}
  (hg:o.guard=none) (m x:Operand) (t:TypeId) (hop:o.op=Op.lookup t m x false)
  (k e:TypeId) (K:Keyed P k) (ht:P.underlying t=some (.map k e)) (he:P.underlying e=some .bool) (hz:(zeroValue e).run P w=.ok (.bool false) w) (b n:Nat) (D:DataW H)
  (hm:a.eval m=.map (some b)) (hown:w.ownsMap P k (plainElem P e) b n D) (key:Value) (kl:Lit) (hx:a.eval x=key) (hkey:keyOf P k key=some kl) (c:Bool)
  (hat:D.atKey kl (.lit (.bool false))=.lit (.bool c)) (hK:wpList P ops Q rest (a.put o.dst (.bool c)) w) :
  wpList P ops Q (o :: rest) a w:=by
 refine wpList_plain hg fun K' hK' => ?_;obtain ⟨v,ps,hrun,hv⟩:=hown.lookup K ht hz (plainElem_bool he false) hkey;obtain ⟨c',rfl,hc⟩:=za9 he hv;simp only[Prod.mk.injEq] at hc;rw[hat] at hc;obtain rfl:c=c':=by injection hc.1 with h;injection h
 unfold Oper.wp;simp[execOp,hop,hm,hx,hrun,Result.andThen];exact hK' _ _ hK
def zhe (D:DataW Unit) (seen:List Bool):Prop:=∀ k:Nat,D.atKey (.int .i64 k) (.lit (.bool false))=.lit (.bool (seen.getD k false))
theorem zhe.put {D:DataW Unit} {seen:List Bool} (hD:IsMap D) (h:zhe D seen) {k:Nat} (hk:k < seen.length):zhe (D.put (.int .i64 k) (.lit (.bool true))) (seen.set k true):=by
 intro j;by_cases e:j=k
 ·subst e;rw[atKey_put_same hD (by simp[WideAt.IsKeyLit]),getD_eq_getElem?_getD,List.getElem?_set_self hk];rfl
 ·rw[atKey_put_other (by intro c;injection c with c1 c2;omega),h j,getD_eq_getElem?_getD,getD_eq_getElem?_getD,List.getElem?_set_ne (fun c=>e c.symm)]
theorem law:Keyed Tryz.prog 3:=int_keyed Tryz.underlying3
theorem zeroB (w:World):(zeroValue 4).run Tryz.prog w=.ok (.bool false) w:=by kernel_rfl
theorem zff {P:Nat->Prop} (h:∃ n,P n):∃ n,P n∧∀ m,P m->n<=m:=by
 obtain ⟨n,hn⟩:=h
 induction n using Nat.strongRecOn with
 | _ n ih =>
  by_cases hx:∃ m,m < n∧P m
  ·obtain ⟨m,h1,h2⟩:=hx;exact ih m h1 h2
  ·exact ⟨n,hn,fun m hm=>by
    by_cases h:n<=m
    ·exact h
    ·exact absurd ⟨m,by omega,hm⟩ hx⟩
noncomputable def zen (P:Nat->Prop):Nat:=open Classical in if h:∃ n,P n then (zff h).choose else 0
theorem leastN_is {P:Nat->Prop} (h:∃ n,P n):P (zen P):=by unfold zen;rw[dif_pos h];exact (zff h).choose_spec.1
theorem zde {P:Nat->Prop} {m:Nat} (h:P m):zen P<=m:=by unfold zen;rw[dif_pos ⟨m,h⟩];exact (zff ⟨m,h⟩).choose_spec.2 m h
theorem zg7 {w:World} {b:Nat} {cur:Array Value} {el:TypeId} {fr:Nat×Nat} {zs:List Int} (hb:w.heap[b]? = some (.cells cur el fr)) (ht:cur.toList.take zs.length=zs.map (Value.int .i64)) {j:Nat} (hj:j < zs.length):w.cell? ⟨b,j,none⟩=some (.int .i64 (zs.getD j 0)):=by
 have h4:(cur.toList.take zs.length)[j]? = (zs.map (Value.int .i64))[j]?:=by rw[ht]
 rw[List.getElem?_take_of_lt hj,Array.getElem?_toList,List.getElem?_map,getElem?_eq_getElem hj] at h4;simp only[World.cell?,hb];rw[getD_eq_getElem?_getD,getElem?_eq_getElem hj];exact h4
theorem jF {X Y:World} {a:Addr} {v:Value} (h:K0 X Y) (hc:X.cell? a=some v):Y.cell? a=some v:=(World.cell?_of_block (a:=a) (h.block _ (World.block_lt_of_cell? X a hc) fun e=>e)).trans hc
theorem zcD {W X:World} (h:K0 W X) (m:Nat):K0 W (X.drewN m):=⟨h.os,h.tape,h.output,h.size,fun b hb _=>h.block b hb fun e=>e⟩
theorem q_cons {W:World} {base:Nat} {v:Value} {x:Int} {l:List Int} (h:zcx W base v (x :: l)):∃ g o cap,v=.slice (some ⟨g,o,none⟩) (l.length+1) cap∧base<=g∧g < W.heap.size∧l.length+1<=cap∧cap<=maxLen ∧
  (∀ j,j < (x :: l).length->W.cell? ⟨g,o+j,none⟩=some (.int .i64 ((x :: l).getD j 0)))∧∀ j,j < cap->(W.cell? ⟨g,o+j,none⟩).isSome=true∧W.frozen? ⟨g,o+j,none⟩=false:=by
 rcases h with ⟨a,_,e,_⟩ | ⟨g,o,cap,rfl,h2,h3,h4,h5,h6,h7,h8⟩
 ·cases e
 ·exact ⟨g,o,cap,rfl,h2,h3,h4,h6,h7,h8⟩
structure LR (n:List (List Int)) (lf:Nat->Bool) (out:List Int) (Y0:World) (mb:Nat) (f:Nat) (t10 t11:Value) (wr:World) (D:DataW Unit) (c:Nat) (seen:List Bool) (o row:List Int):Prop where
 hO:wr.ownsRow Y0.heap.size 3 1 t10 o.length (o.map (Value.int .i64))
 hQ:zcx wr Y0.heap.size t11 row
 hM:wr.ownsMap Tryz.prog 3 (plainElem Tryz.prog 4) mb c D
 hS:zhe D seen
 len:seen.length=n.length
 hc:c+seen.count false<=n.length
 rng:∀ k∈row,0<=k∧k < n.length
 run:lfN n lf f seen o row=some out
 left:row.length+zaR n seen<=700000
 olen:o.length<=c
 keep:K0 Y0 wr
 ne1:∀ b,t10.ownBlock=some b->t11.ownBlock≠some b∧b≠mb
 ne2:∀ b,t11.ownBlock=some b->b≠mb
 mbY:Y0.heap.size<=mb
def LE1 (n:List (List Int)) (lf:Nat->Bool) (out:List Int) (Y0:World) (mb:Nat) (t10 t11:Value) (wr:World) (f:Nat):Prop:=∃ D c seen o row,LR n lf out Y0 mb f t10 t11 wr D c seen o row
theorem zje:∀ (d:List Bool) (i:Nat),d[i]? = some false->(d.set i true).count false+1=d.count false
 | [],i,h=>by simp at h
 | b :: d,0,h=>by
  simp only[List.getElem?_cons_zero,Option.some.injEq] at h;subst h;simp
 | b :: d,i+1,h=>by
  have:=zje d i (by simpa using h);rw[List.set_cons_succ,List.count_cons,List.count_cons];omega
theorem zR {X Y:World} (h:K0 X Y):X.grownBy Y none:=⟨h.os,h.tape,h.output,h.size,fun b hb _=>h.block b hb fun e=>e⟩
theorem jl {Y0 X Y:World} {row:Option Nat} (k:K0 Y0 X) (h:X.grownBy Y row) (hr:∀ b,row=some b->Y0.heap.size<=b):K0 Y0 Y:=zad k h hr
theorem q_one {X:World} {base:Nat} (hb:base<=X.heap.size) (k:Int):zcx (X.alloc (.cells #[.int .i64 k] 3)) base (.slice (some ⟨X.heap.size,0,none⟩) 1 1) [k]:=by
 have hn:(X.alloc (.cells #[.int .i64 k] 3)).heap[X.heap.size]? = some (.cells #[.int .i64 k] 3 (0,0)):=heap_alloc_new X _;refine .inr ⟨X.heap.size,0,1,rfl,hb,by simp,by simp,by omega,by unfold maxLen;omega,fun j hj => ?_,fun j hj => ?_⟩
 ·obtain rfl:j=0:=by simp at hj;omega
  simp only[World.cell?,hn];rfl
 ·obtain rfl:j=0:=by omega
  refine ⟨?_, ?_⟩
  ·simp only[World.cell?,hn];rfl
  ·unfold World.frozen?;rw[hn];simp
theorem seen0 (m:Nat):zhe (.map []) (List.replicate m false):=by
 intro k;rw[show (DataW.map ([]:List (Lit×DataW Unit))).atKey (.int .i64 k) (.lit (.bool false))=.lit (.bool false) from rfl,getD_eq_getElem?_getD,List.getElem?_replicate]
 split<;>rfl
theorem left0 {n:List (List Int)} (h1:n.length<=20736) (h2:∀ k,(n.getD k []).length<=30) (seen:List Bool):zaR n seen<=622080:=by
 have key:∀ (l:List Nat) (f:Nat->Nat),(∀ x,f x<=30)->(l.map f).sum<=l.length * 30:=by
  intro l f hf
  induction l with
  | nil=>simp
  | cons a r ih=>have:=hf a;simp only[List.map_cons,List.sum_cons,length_cons];omega
 unfold zaR;refine Nat.le_trans (key _ _ fun x => ?_) (by rw[List.length_range];omega);split
 ·omega
 ·exact h2 x
theorem leafs_walk {u0 p:Value} {W:World} {R:Ending->World->Prop} {M:World->Value->Prop} {Q:World->Value->Nat->Prop} {n:List (List Int)} {lf:Nat->Bool} {k0 f0:Nat} {out:List Int} (one:u0.oneCell'=true) (hs:SmallN n k0) (hrun:lfN n lf f0 (List.replicate n.length false) [] [(k0:Int)]=some out)
  (h342:∀ X,K0 W X->Calls Tryz.prog 58 #[.agg #[u0]] X fun e Y=>∃ mv,e=.returned (.tuple #[mv,.nilIface])∧K0 X Y∧∀ Z,K0 Y Z->M Z mv)
  (h58:∀ X,K0 W X->Calls Tryz.prog 59 #[.agg #[u0],p] X fun e Y=>e=.returned .nilIface∧K0 X Y)
  (h49:∀ X,K0 W X->Calls Tryz.prog 60 #[.agg #[u0],p] X fun e Y=>e=.returned (.int .i64 k0)∧K0 X Y)
  (h69:∀ X k,K0 W X->k < n.length->Calls Tryz.prog 61 #[.agg #[u0],.int .i64 k] X fun e Y=>∃ q,e=.returned q∧K0 X Y∧∀ Z,K0 W Z->Y.heap.size<=Z.heap.size->(∀ b,b < Y.heap.size->X.heap.size<=b->Z.heap[b]? = Y.heap[b]?)->Q Z q k)
  (h59:∀ X q k,K0 W X->k < n.length->Q X q k->Calls Tryz.prog 62 #[.agg #[u0],q] X fun e Y=>e=.returned (.bool (lf k))∧K0 X Y)
  (h343:∀ X mv q k,K0 W X->k < n.length->M X mv->Q X q k->Calls Tryz.prog 63 #[.agg #[u0],mv,q] X fun e Y=>∃ v,e=.returned v∧K0 X Y∧zaG Y.heap.size Y v (n.getD k []))
  (hS:∀ (blk cap:Nat) (ss:List Int) (w:World),Sort.Holds (Value.int .i64) w blk 0 ss.toArray->blk < w.heap.size->ss.length < 4611686018427387904 ->
   Calls Tryz.prog 64 #[.slice (some ⟨blk,0,none⟩) ss.length cap] w fun e w'=>e=.returned (.tuple #[])∧∃ n os,w'=Sort.grow (Sort.putRow (Value.int .i64) (Sort.ahead w n) blk 0 (ss.mergeSort fun x y=>decide (x<=y)).toArray) os)
  (hN:∀ (a:Option Addr) (cap:Nat) (w:World),Calls Tryz.prog 64 #[.slice a 0 cap] w fun e w'=>e=.returned (.tuple #[])∧w'=w)
  (hR:∀ Z v,K0 W Z->FreshI W.heap.size Z v (yN out)->R (.returned (.tuple #[v,.nilIface])) Z):Calls Tryz.prog 19 #[.agg #[u0],p] W R:=by
 obtain ⟨i0,hi,hz0,hz1,hz2⟩:=zae infoI;have k1:K0 W (W.alloc (.cells #[u0] 39)):=K0.alloc W _;have b1:(W.alloc (.cells #[u0] 39)).heap[W.heap.size]? = some (.cells #[u0] 39 (0,0)):=(by show (W.heap.push _)[W.heap.size]? = _;exact Array.getElem?_push_size);have c1:=one_cell b1;have keepb:∀ {X Y:World},K0 X Y->X.heap[W.heap.size]? = some (.cells #[u0] 39 (0,0))->Y.heap[W.heap.size]? = some (.cells #[u0] 39 (0,0)):=fun h e=>(h.block _ (Array.getElem?_eq_some_iff.1 e).1 fun e=>e).trans e;have hmm:=@run_makeMap Tryz.prog
 go_enter Tryz.func19,Tryz.ntmps19
 go_wp2_with (first
  | (go_at_call 58;go_must (refine (h342 _ k1).mono ?_);rintro e X ⟨mv,rfl,hX,hM⟩
     have k2:=k1.trans hX;have b2:=keepb hX b1;have c2:=one_cell b2)
  | (go_at_call 59;go_must (refine (h58 _ k2).mono ?_);rintro e X2 ⟨rfl,hX2⟩
     have k3:=k2.trans hX2;have b3:=keepb hX2 b2;have k4:=k3.trans (K0.alloc X2 (.map #[] 0));have b4:=keepb (K0.alloc X2 (.map #[] 0)) b3;have c4:=one_cell b4)
  | (go_at_call 60;go_must (refine (h49 _ k4).mono ?_);rintro e X3 ⟨rfl,hX3⟩))
 have hmap0:(X2.alloc (.map #[] 0)).ownsMap Tryz.prog 3 (plainElem Tryz.prog 4) X2.heap.size 0 (.map ([]:List (Lit×DataW Unit))):=World.ownsMap_made _ _ _ _;have hmap1:=(hmap0.kept (zR hX3) (by simp)).alloc (.cells #[.int .i64 k0] 3);have k5:=k4.trans hX3;have kY3:K0 X2 X3:=(K0.alloc X2 _).trans hX3;have szX3:X2.heap.size+1<=X3.heap.size:=by have:=hX3.size;simpa using this
 have hl0:=left0 hs.len hs.rows;have hrows:=hs.rows;have hrng:=hs.rng;have hlen:=hs.len;have c2':X2.cell? ⟨W.heap.size,0,none⟩=some u0:=one_cell b3;have hWX2:W.heap.size < X2.heap.size:=(Array.getElem?_eq_some_iff.1 b3).1;clear h342 h58 h49 hmm hmap0
 go_loopw [10,11] (fun t10 t11 wr=>∃ f,LE1 n lf out X2 X2.heap.size t10 t11 wr f) (fun t10 t11 wr=>zen (LE1 n lf out X2 X2.heap.size t10 t11 wr))
 case atStart =>
  refine ⟨f0,.map [],0,List.replicate n.length false,[],[(k0:Int)],⟨World.ownsRow_nil _ _ _ _,q_one (by omega) _,hmap1,seen0 _,by simp,by simp,fun k hk => ?_,hrun, ?_,le_refl _,kY3.trans (K0.alloc X3 _),fun b hb=>by simp[Value.ownBlock] at hb,fun b hb => ?_,le_refl _⟩⟩
  ·rw[List.mem_singleton.1 hk];have:=hs.k0;omega
  ·have:=hl0 (List.replicate n.length false);simp only[List.length_singleton];omega
  ·simp only[Value.ownBlock,Option.some.injEq] at hb;omega
 case round =>
  generalize hf:zen (LE1 n lf out X2 X2.heap.size u10 u11 wr)=f;have hmin:=leastN_is hrel;rw[hf] at hmin;obtain ⟨D,c,seen,o,row,L⟩:=hmin;have hW:K0 W wr:=k3.trans L.keep;have cb:wr.cell? ⟨W.heap.size,0,none⟩=some u0:=(World.cell?_of_block (a:=⟨W.heap.size,0,none⟩) (L.keep.block _ hWX2 fun e=>e)).trans c2';cases f with
  | zero=>have:=L.run;simp[lfN] at this
  | succ f =>
  cases row with
  | nil =>
   have hout:o=out:=by have:=L.run;simpa[lfN] using this
   subst hout;have hol:o.length<=20736:=by have:=L.olen;have:=L.hc;omega
   have hml:(o.mergeSort fun x y=>decide (x<=y)).length=o.length:=List.length_mergeSort ..;obtain ⟨a,cap,rfl⟩:∃ a cap,u11=.slice a 0 cap:=by
    rcases L.hQ with ⟨a,h,_,_⟩ | ⟨g,oo,cap,h,_⟩
    ·exact ⟨a,0,h⟩
    ·exact ⟨_,cap,h⟩
   rcases L.hO.2 with ⟨rfl,hn⟩ | ⟨g2,cap2,cur,rfl,hb2,hg2,p1,p2,p3,p4⟩
   ·obtain rfl:o=[]:=List.length_eq_zero_iff.1 hn
    go_wp2_with (go_at_call 64;go_must (refine (hN none 0 _).mono ?_);rintro e Z ⟨rfl,rfl⟩)
    exact hR _ _ hW (.inl ⟨by simp[yN],rfl⟩)
   ·rw[Nat.mul_one] at p3 p4;have hH:Sort.Holds (Value.int .i64) wr g2 0 o.toArray:=holds_of_blockI hg2 p4;have hlt:g2 < wr.heap.size:=(Array.getElem?_eq_some_iff.1 hg2).1
    go_wp2_with (go_at_call 64;go_must (refine (hS g2 cap2 o wr hH hlt (by omega)).mono ?_);rintro e Z ⟨rfl,n',os,rfl⟩)
    have hg3:=grownBy_sortedI (w:=wr) (g:=g2) (n:=n') (os:=os) (o.mergeSort fun x y=>decide (x<=y)).toArray;have hb3:=heap_sortedI (n:=n') (os:=os) (o.mergeSort fun x y=>decide (x<=y)).toArray hg2;have ht:=take_putCellsI cur (o.mergeSort fun x y=>decide (x<=y)) (by omega);refine hR _ _ (jl hW hg3 fun b hb=>by cases hb;omega) (.inr ⟨g2,cap2,by rw[qC];rfl,by rw[qC];exact p1,by omega,(Array.getElem?_eq_some_iff.1 hb3).1,fun j hj=>zg7 hb3 ht (by rw[hml];rwa [qC] at hj)⟩)
  | cons k1' row =>
   obtain ⟨hk0,hk1⟩:=L.rng k1' (by simp);obtain ⟨k,rfl⟩:∃ k:Nat,k1'=k:=⟨k1'.toNat,by omega⟩;have hq:=L.hQ;rcases L.hQ with ⟨a,_,e,_⟩ | ⟨g,oo,cap,rfl,h2,h3,h4,h5,h6,h7,h8⟩
   ·cases e
   have hkn:k < n.length:=by omega
   have cq:wr.cell? ⟨g,oo,none⟩=some (.int .i64 k):=h7 0 (by simp);have hleft:=L.left;simp only[length_cons] at h4 hleft;have d0:(1:Int)<=((row.length+1:Nat):Int):=by omega
   have d1:(0:Int) < ((row.length+1:Nat):Int):=by omega
   have d2:((row.length+1:Nat):Int)<=(cap:Int):=by omega
   have hr1:=L.run;simp only[lfN,Int.toNat_natCast] at hr1;have hkey:keyOf Tryz.prog 3 (.int .i64 (k:Int))=some (.int .i64 k):=keyOf_int_mk Tryz.underlying3 (WalkArith.wf_i64 (by omega));cases hsk:seen.getD k false with
   | true =>
    rw[hsk,if_pos rfl] at hr1;have new:LE1 n lf out X2 X2.heap.size u10 (.slice (if cap=1 then some ⟨g,oo,none⟩ else some ⟨g,oo+1,none⟩) row.length (cap - 1)) wr f:=by
     have hob:(Value.slice (if cap=1 then some (⟨g,oo,none⟩:Addr) else some ⟨g,oo+1,none⟩) row.length (cap - 1)).ownBlock=some g:=by split<;>rfl
     exact ⟨D,c,seen,o,row,⟨L.hO,qtail h2 h3 h4 h6 h7 h8,L.hM,L.hS,L.len,L.hc,fun x hx=>L.rng x (List.mem_cons_of_mem _ hx),hr1,by omega,L.olen,L.keep,fun b hb=>by rw[hob];exact L.ne1 b hb,fun b hb=>by rw[hob] at hb;exact L.ne2 b hb,L.mbY⟩⟩
    go_wp2_with (at_lookup;refine qX _ rfl _ _ 108 rfl 3 4 law Tryz.underlying108 Tryz.underlying4 (zeroB _) X2.heap.size c D rfl L.hM _ _ rfl hkey true (by rw[L.hS k,hsk]) ?_)
    go_roundw
    case rel=>exact ⟨f,new⟩
    case measure=>rw[hf];exact Nat.lt_succ_of_le (zde new)
   | false =>
    rw[hsk,if_neg (by simp)] at hr1;have hkl:k < seen.length:=by rw[L.len];exact hkn
    have hsk2:seen[k]? = some false:=(by rw[getD_eq_getElem?_getD,getElem?_eq_getElem hkl] at hsk;rw[getElem?_eq_getElem hkl];exact congrArg some hsk);have hcnt:=zje seen k hsk2;have hc0:=L.hc;have hset:=zbg L.len hkn hsk;have hgm:=L.ne2 g rfl;have hnd:=hrows k;have hrk:=hrng k;have hol:=L.olen;have hO:=L.hO;have kX:∀ {Z:World},K0 X2 Z->K0 W Z:=fun h=>k3.trans h;cases hlf:lf k with
    | true =>
     rw[if_pos (show lf k=true from hlf)] at hr1
     go_wp2_with (first
      | (at_lookup;refine qX _ rfl _ _ 108 rfl 3 4 law Tryz.underlying108 Tryz.underlying4 (zeroB _) X2.heap.size c D rfl L.hM _ _ rfl hkey false (by rw[L.hS k,hsk]) ?_)
      | (at_mapUpdate;refine wpList_mapUpdate_own _ rfl _ _ _ 108 rfl 3 4 law Tryz.underlying108 _ X2.heap.size c D rfl L.hM (by unfold maxLen;omega) _ _ _ rfl rfl hkey _ [] (plainElem_bool Tryz.underlying4 true) ?_;intro w1 hM1 hG1
         have kw1:=jl L.keep hG1 (fun b hb=>by cases hb;exact le_refl _);have cb1:w1.cell? ⟨W.heap.size,0,none⟩=some u0:=(World.cell?_of_block (a:=⟨W.heap.size,0,none⟩) (kw1.block _ hWX2 fun e=>e)).trans c2';have cq1:w1.cell? ⟨g,oo,none⟩=some (.int .i64 k):=(World.cell?_of_block (a:=⟨g,oo,none⟩) (hG1.block g h3 fun e=>hgm (Option.some.inj e))).trans cq))
     go_region_held3 (fun w'=>w'.cell? ⟨W.heap.size,0,none⟩=some u0∧w'.cell? ⟨g,oo,none⟩=some (.int .i64 k)) (first | go_keep | exact ⟨jF hY cb1,jF hY cq1⟩) ((go_at_call 61;go_loud (refine (h69 _ k (zcD (kX kw1) _) hkn).mono ?_);rintro e Y ⟨q,rfl,hY,hQ⟩))
     have kw2:K0 X2 Y:=(zcD kw1 _).trans hY;have kWY:K0 W Y:=kX kw2;have cb2:=jF hY cb1;have cq2:=jF hY cq1;have q59:=h59 Y q k kWY hkn (hQ Y kWY (le_refl _) fun _ _ _=>rfl);have hO1:=hO.kept hG1 (by cases hb:u10.ownBlock with | none=>exact .inl rfl | some b=>exact .inr (fun e=>(L.ne1 b hb).2 (Option.some.inj e)));have hO2:Y.ownsRow X2.heap.size 3 1 u10 o.length (o.map (Value.int .i64)):=World.ownsRow.kept (w:=w1.drewN _) hO1 (zR hY) (by cases u10.ownBlock<;>simp);have hq1:=hq.kept hG1 (fun b hb e=>by have:=L.ne2 b hb;exact this (Option.some.inj e).symm);have hq2:zcx Y X2.heap.size (.slice (some ⟨g,oo,none⟩) (row.length+1) cap) ((k:Int) :: row):=zcx.kept (W:=w1.drewN _) hq1 (zR hY) (fun b hb e=>by cases e)
     go_wp2_with (first
      | (go_at_call 62;go_must (refine q59.mono ?_);rintro e Y2 ⟨rfl,hY2⟩
         have kw3:=kw2.trans hY2;have cb3:=jF hY2 cb2;have cq3:=jF hY2 cq2;have hO3:=hO2.kept (zR hY2) (by cases u10.ownBlock<;>simp);have hq3:=hq2.kept (zR hY2) (fun b hb e=>by cases e);have hbY:X2.heap.size<=(Y2.alloc (.cells #[.int .i64 (k:Int)] 3)).heap.size:=by have:=kw3.size;simp;omega)
      | (at_builtin;go_loud (refine wpList_append_own_at _ rfl _ _ 32 rfl X2.heap.size 3 i0 (.int .i64 0) 1 8 Tryz.underlying32 hi hz0 hz1 hz2 rfl (by decide) u10 o.length (o.map (Value.int .i64)) rfl (hO3.alloc _) ⟨Y2.heap.size,0,none⟩ 1 1 [.int .i64 k] rfl rfl (cell_one_new _ _ _) (by simp[Value.oneCell']) (by unfold maxLen;omega) (by omega) hbY ?_);intro v' w4 hown4 hgrow4 hnil4 hloc4
         have kw4:K0 X2 w4:=jl (kw3.trans (K0.alloc Y2 _)) hgrow4 (fun b hb=>(hO3.lt b hb).1);have cb4:w4.cell? ⟨W.heap.size,0,none⟩=some u0:=(World.cell?_of_block (a:=⟨W.heap.size,0,none⟩) (kw4.block _ hWX2 fun e=>e)).trans c2';have hq4:zcx w4 X2.heap.size (.slice (some ⟨g,oo,none⟩) (row.length+1) cap) ((k:Int) :: row):=zcx.kept (zcx.kept hq3 (zR (K0.alloc Y2 (.cells #[.int .i64 (k:Int)] 3))) (fun b hb e=>by cases e)) hgrow4 (fun b hb e=>(L.ne1 b e).1 hb);have hQ4:Q w4 q k:=hQ w4 (kX kw4) (by have h1:=hY2.size;have h2:=hgrow4.size;simp at h2;omega) (fun b hb hb2=>by
          have n1:some b≠u10.ownBlock:=fun e=>by have:=(hO1.lt b e.symm).2;have h0:w1.heap.size<=b:=hb2;omega
          have hb3:b < Y2.heap.size:=Nat.lt_of_lt_of_le hb hY2.size;exact ((hgrow4.block b (by simp;omega) n1).trans (Below.heap_alloc Y2 _ b hb3)).trans (hY2.block b hb fun e=>e)))
      | (go_at_call 63;go_must (refine (h343 w4 mv q k (kX kw4) hkn (hM w4 (hX2.trans kw4)) hQ4).mono ?_);rintro e Y5 ⟨v5,rfl,hY5,hI5⟩
         have hq5:=hq4.kept (zR hY5) (fun b hb e=>by cases e);have kw5:=kw4.trans hY5;have src5:=hI5.src (P:=Tryz.prog) (t:=32) (e:=3) Tryz.underlying32)
      | (at_builtin;go_loud (refine yF rfl _ _ 32 rfl hq5 kw5.size Tryz.underlying32 hi hz0 hz1 hz2 rfl rfl rfl src5 (by simp only[length_cons];omega) ?_);intro v6 w6 hQ6 hG6 hAt6
         obtain ⟨g6,o6,cap6,rfl,y2,y3,y4,y6,y7,y8⟩:=q_cons (l:=row++n.getD k []) hQ6;have e1:(1:Int)<=(((row++n.getD k []).length+1:Nat):Int):=by omega
         have e2:(((row++n.getD k []).length+1:Nat):Int)<=(cap6:Int):=by omega))
     have sz1:wr.heap.size<=w1.heap.size:=hG1.size;have szY:w1.heap.size<=Y.heap.size:=hY.size;have szY2:=hY2.size;have szm:=L.hM.lt;have hvb:∀ b,v'.ownBlock=some b->b≠g∧b≠X2.heap.size∧b < w4.heap.size:=fun b hb=>by
      refine ⟨?_, ?_,(hown4.lt b hb).2⟩
      ·rcases hloc4 with e | e
       ·intro eg;subst eg;exact (L.ne1 _ (e.symm.trans hb)).1 rfl
       ·rw[e] at hb;injection hb with hb;simp at hb;omega
      ·rcases hloc4 with e | e
       ·exact (L.ne1 b (e.symm.trans hb)).2
       ·rw[e] at hb;injection hb with hb;simp at hb;omega
     have hg6:g6=g∨g6=Y5.heap.size:=by rcases hAt6 with e | e<;>simp[Value.ownBlock] at e<;>simp[e]
     have hw45:=hY5.size;have sz4:Y2.heap.size+1<=w4.heap.size:=by have:=hgrow4.size;simpa using this
     have hM6:=(((((World.ownsMap.kept (w:=w1.drewN _) hM1 (zR hY) (by simp)).kept (zR hY2) (by simp)).alloc (.cells #[.int .i64 (k:Int)] 3)).kept hgrow4 (fun e=>(L.ne1 _ e.symm).2 rfl)).kept (zR hY5) (by simp)).kept hG6 (fun e=>hgm (by simpa[Value.ownBlock] using e.symm));have hO6:=(hown4.kept (zR hY5) (by cases v'.ownBlock<;>simp)).kept hG6 (by
      cases hb:v'.ownBlock with
      | none=>exact .inl rfl
      | some b=>exact .inr (fun e=>(hvb b hb).1 (by simpa[Value.ownBlock] using e)))
     have hob:(Value.slice (if cap6=1 then some (⟨g6,o6,none⟩:Addr) else some ⟨g6,o6+1,none⟩) (row++n.getD k []).length (cap6 - 1)).ownBlock=some g6:=by split<;>rfl
     have new:LE1 n lf out X2 X2.heap.size v' (.slice (if cap6=1 then some ⟨g6,o6,none⟩ else some ⟨g6,o6+1,none⟩) (row++n.getD k []).length (cap6 - 1)) w6 f:=by
      refine ⟨_,c+1,seen.set k true,o++[(k:Int)],row++n.getD k [],⟨?_,qtail y2 y3 y4 y6 y7 y8,hM6,L.hS.put L.hM.isMap hkl,by rw[List.length_set];exact L.len,by omega,fun x hx => ?_,hr1, ?_, ?_,jl kw5 hG6 (fun b hb=>by simp[Value.ownBlock] at hb;omega),fun b hb => ?_,fun b hb => ?_,L.mbY⟩⟩
      ·rw[length_append,List.map_append];exact hO6
      ·rcases List.mem_append.1 hx with hx | hx
       ·exact L.rng x (List.mem_cons_of_mem _ hx)
       ·exact hrk x hx
      ·rw[length_append];omega
      ·rw[length_append];simp only[List.length_singleton];omega
      ·rw[hob];obtain ⟨v1,v2,v3⟩:=hvb b hb;refine ⟨fun e => ?_,v2⟩;injection e with e;rcases hg6 with h | h<;>omega
      ·rw[hob] at hb;injection hb with hb;rcases hg6 with h | h<;>omega
     have el:row.length+(n[k]).length=(row++n.getD k []).length:=by rw[length_append,getD_eq_getElem?_getD,getElem?_eq_getElem hkn];rfl
     go_roundw
     case rel=>rw[el];exact ⟨f,new⟩
     case measure=>rw[el,hf];exact Nat.lt_succ_of_le (zde new)
    | false =>
     rw[if_neg (show ¬ lf k=true by rw[hlf];simp)] at hr1
     go_wp2_with (first
      | (at_lookup;refine qX _ rfl _ _ 108 rfl 3 4 law Tryz.underlying108 Tryz.underlying4 (zeroB _) X2.heap.size c D rfl L.hM _ _ rfl hkey false (by rw[L.hS k,hsk]) ?_)
      | (at_mapUpdate;refine wpList_mapUpdate_own _ rfl _ _ _ 108 rfl 3 4 law Tryz.underlying108 _ X2.heap.size c D rfl L.hM (by unfold maxLen;omega) _ _ _ rfl rfl hkey _ [] (plainElem_bool Tryz.underlying4 true) ?_;intro w1 hM1 hG1
         have kw1:=jl L.keep hG1 (fun b hb=>by cases hb;exact le_refl _);have cb1:w1.cell? ⟨W.heap.size,0,none⟩=some u0:=(World.cell?_of_block (a:=⟨W.heap.size,0,none⟩) (kw1.block _ hWX2 fun e=>e)).trans c2';have cq1:w1.cell? ⟨g,oo,none⟩=some (.int .i64 k):=(World.cell?_of_block (a:=⟨g,oo,none⟩) (hG1.block g h3 fun e=>hgm (Option.some.inj e))).trans cq))
     go_region_held3 (fun w'=>w'.cell? ⟨W.heap.size,0,none⟩=some u0∧w'.cell? ⟨g,oo,none⟩=some (.int .i64 k)) (first | go_keep | exact ⟨jF hY cb1,jF hY cq1⟩) ((go_at_call 61;go_loud (refine (h69 _ k (zcD (kX kw1) _) hkn).mono ?_);rintro e Y ⟨q,rfl,hY,hQ⟩))
     have kw2:K0 X2 Y:=(zcD kw1 _).trans hY;have kWY:K0 W Y:=kX kw2;have cb2:=jF hY cb1;have cq2:=jF hY cq1;have q59:=h59 Y q k kWY hkn (hQ Y kWY (le_refl _) fun _ _ _=>rfl);have hO1:=hO.kept hG1 (by cases hb:u10.ownBlock with | none=>exact .inl rfl | some b=>exact .inr (fun e=>(L.ne1 b hb).2 (Option.some.inj e)));have hO2:Y.ownsRow X2.heap.size 3 1 u10 o.length (o.map (Value.int .i64)):=World.ownsRow.kept (w:=w1.drewN _) hO1 (zR hY) (by cases u10.ownBlock<;>simp);have hq1:=hq.kept hG1 (fun b hb e=>by have:=L.ne2 b hb;exact this (Option.some.inj e).symm);have hq2:zcx Y X2.heap.size (.slice (some ⟨g,oo,none⟩) (row.length+1) cap) ((k:Int) :: row):=zcx.kept (W:=w1.drewN _) hq1 (zR hY) (fun b hb e=>by cases e)
     go_wp2_with (first
      | (go_at_call 62;go_must (refine q59.mono ?_);rintro e Y2 ⟨rfl,hY2⟩
         have kw3:=kw2.trans hY2;have cb3:=jF hY2 cb2;have cq3:=jF hY2 cq2;have hO3:=hO2.kept (zR hY2) (by cases u10.ownBlock<;>simp);have hq3:=hq2.kept (zR hY2) (fun b hb e=>by cases e);have hQ3:Q Y2 q k:=hQ Y2 (kX kw3) hY2.size (fun b hb _=>hY2.block b hb fun e=>e))
      | (go_at_call 63;go_must (refine (h343 Y2 mv q k (kX kw3) hkn (hM Y2 (hX2.trans kw3)) hQ3).mono ?_);rintro e Y5 ⟨v5,rfl,hY5,hI5⟩
         have hq5:=hq3.kept (zR hY5) (fun b hb e=>by cases e);have kw5:=kw3.trans hY5;have src5:=hI5.src (P:=Tryz.prog) (t:=32) (e:=3) Tryz.underlying32)
      | (at_builtin;go_loud (refine yF rfl _ _ 32 rfl hq5 kw5.size Tryz.underlying32 hi hz0 hz1 hz2 rfl rfl rfl src5 (by simp only[length_cons];omega) ?_);intro v6 w6 hQ6 hG6 hAt6
         obtain ⟨g6,o6,cap6,rfl,y2,y3,y4,y6,y7,y8⟩:=q_cons (l:=row++n.getD k []) hQ6;have e1:(1:Int)<=(((row++n.getD k []).length+1:Nat):Int):=by omega
         have e2:(((row++n.getD k []).length+1:Nat):Int)<=(cap6:Int):=by omega))
     have sz1:wr.heap.size<=w1.heap.size:=hG1.size;have szY:w1.heap.size<=Y.heap.size:=hY.size;have szY2:=hY2.size;have szm:=L.hM.lt;have hvb:∀ b,u10.ownBlock=some b->b≠g∧b≠X2.heap.size∧b < Y2.heap.size:=fun b hb=>⟨fun eg=>by
      subst eg;exact (L.ne1 _ hb).1 rfl,(L.ne1 b hb).2,(hO3.lt b hb).2⟩
     have hg6:g6=g∨g6=Y5.heap.size:=by rcases hAt6 with e | e<;>simp[Value.ownBlock] at e<;>simp[e]
     have hw45:=hY5.size;have hM6:=(((World.ownsMap.kept (w:=w1.drewN _) hM1 (zR hY) (by simp)).kept (zR hY2) (by simp)).kept (zR hY5) (by simp)).kept hG6 (fun e=>hgm (by simpa[Value.ownBlock] using e.symm));have hO6:=(hO3.kept (zR hY5) (by cases u10.ownBlock<;>simp)).kept hG6 (by
      cases hb:u10.ownBlock with
      | none=>exact .inl rfl
      | some b=>exact .inr (fun e=>(hvb b hb).1 (by simpa[Value.ownBlock] using e)))
     have hob:(Value.slice (if cap6=1 then some (⟨g6,o6,none⟩:Addr) else some ⟨g6,o6+1,none⟩) (row++n.getD k []).length (cap6 - 1)).ownBlock=some g6:=by split<;>rfl
     have new:LE1 n lf out X2 X2.heap.size u10 (.slice (if cap6=1 then some ⟨g6,o6,none⟩ else some ⟨g6,o6+1,none⟩) (row++n.getD k []).length (cap6 - 1)) w6 f:=by
      refine ⟨_,c+1,seen.set k true,o,row++n.getD k [],⟨?_,qtail y2 y3 y4 y6 y7 y8,hM6,L.hS.put L.hM.isMap hkl,by rw[List.length_set];exact L.len,by omega,fun x hx => ?_,hr1, ?_, ?_,jl kw5 hG6 (fun b hb=>by simp[Value.ownBlock] at hb;omega),fun b hb => ?_,fun b hb => ?_,L.mbY⟩⟩
      ·exact hO6
      ·rcases List.mem_append.1 hx with hx | hx
       ·exact L.rng x (List.mem_cons_of_mem _ hx)
       ·exact hrk x hx
      ·rw[length_append];omega
      ·omega
      ·rw[hob];obtain ⟨v1,v2,v3⟩:=hvb b hb;refine ⟨fun e => ?_,v2⟩;injection e with e;rcases hg6 with h | h<;>omega
      ·rw[hob] at hb;injection hb with hb;rcases hg6 with h | h<;>omega
     have el:row.length+(n[k]).length=(row++n.getD k []).length:=by rw[length_append,getD_eq_getElem?_getD,getElem?_eq_getElem hkn];rfl
     go_roundw
     case rel=>rw[el];exact ⟨f,new⟩
     case measure=>rw[el,hf];exact Nat.lt_succ_of_le (zde new)
theorem leafs_err1 {u0 p:Value} {W:World} {R:Ending->World->Prop} (one:u0.oneCell'=true)
  (h342:∀ X,K0 W X->Calls Tryz.prog 58 #[.agg #[u0]] X fun e Y=>∃ mv T v,e=.returned (.tuple #[mv,.iface T v])∧K0 X Y∧R (.returned (.tuple #[.slice none 0 0,.iface T v])) Y):Calls Tryz.prog 19 #[.agg #[u0],p] W R:=by
 have k1:K0 W (W.alloc (.cells #[u0] 39)):=K0.alloc W _;have b1:(W.alloc (.cells #[u0] 39)).heap[W.heap.size]? = some (.cells #[u0] 39 (0,0)):=(by show (W.heap.push _)[W.heap.size]? = _;exact Array.getElem?_push_size);have c1:=one_cell b1
 go_enter Tryz.func19,Tryz.ntmps19
 go_wp2_with (first
  | (go_at_call 58;go_must (refine (h342 _ k1).mono ?_);rintro e X ⟨mv,T,v,rfl,hX,hR⟩))
 exact hR
theorem leafs_err2 {u0 p:Value} {W:World} {R:Ending->World->Prop} (one:u0.oneCell'=true)
  (h342:∀ X,K0 W X->Calls Tryz.prog 58 #[.agg #[u0]] X fun e Y=>∃ mv,e=.returned (.tuple #[mv,.nilIface])∧K0 X Y)
  (h58:∀ X,K0 W X->Calls Tryz.prog 59 #[.agg #[u0],p] X fun e Y=>∃ T v,e=.returned (.iface T v)∧K0 X Y∧R (.returned (.tuple #[.slice none 0 0,.iface T v])) Y):Calls Tryz.prog 19 #[.agg #[u0],p] W R:=by
 have k1:K0 W (W.alloc (.cells #[u0] 39)):=K0.alloc W _;have b1:(W.alloc (.cells #[u0] 39)).heap[W.heap.size]? = some (.cells #[u0] 39 (0,0)):=(by show (W.heap.push _)[W.heap.size]? = _;exact Array.getElem?_push_size);have c1:=one_cell b1
 go_enter Tryz.func19,Tryz.ntmps19
 go_wp2_with (first
  | (go_at_call 58;go_must (refine (h342 _ k1).mono ?_);rintro e X ⟨mv,rfl,hX⟩
     have k2:=k1.trans hX;have b2:X.heap[W.heap.size]? = some (.cells #[u0] 39 (0,0)):=(hX.block _ (Array.getElem?_eq_some_iff.1 b1).1 fun e=>e).trans b1;have c2:=one_cell b2)
  | (go_at_call 59;go_must (refine (h58 _ k2).mono ?_);rintro e X2 ⟨T,v,rfl,hX2,hR⟩))
 exact hR
end Go.Proofs.TryzLeafs
