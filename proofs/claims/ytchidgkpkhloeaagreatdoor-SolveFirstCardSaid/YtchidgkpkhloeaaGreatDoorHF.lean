import Derived.Test.YtchidgkpkhloeaaGreatDoorB2
import Derived.Test.YtchidgkpkhloeaaGreatDoorMQu
import Derived.Test.YtchidgkpkhloeaaGreatDoorE1
import Derived.Sort.OwnSorted
import Derived.Sort.OwnSortedInts
import Derived.Lib.SlicesCompact
import Derived.KernelRfl
import Derived.Test.YtchidgkpkhloeaaGreatDoorHB
import Derived.Test.YtchidgkpkhloeaaGreatDoorF2
import Derived.Test.YtchidgkpkhloeaaGreatDoorHC
import Derived.Test.YtchidgkpkhloeaaGreatDoorC2
section
namespace Ab
open Go Go.RowKit
set_option linter.unusedVariables false
set_option linter.unusedSimpArgs false
def IntsAt (N:Nat) (W:World) (v:Value) (l:List Int):Prop:=(l=[]∧(v=.slice none 0 0∨∃ a c,v=.slice (some a) 0 c))∨∃ b o cap,v=.slice (some ⟨b,o,none⟩) l.length cap∧b < N∧∀ j,j < l.length→W.cell? ⟨b,o+j,none⟩=some (.int .i64 (l.getD j 0))
def RowsAt (N:Nat) (W:World) (v:Value) (n:List (List Int)):Prop:=∃ b o cap,v=.slice (some ⟨b,o,none⟩) n.length cap∧b < N∧∀ k r,n[k]? = some r→∃ u,W.cell? ⟨b,o+k,none⟩=some u∧IntsAt N W u r
theorem IntsAt.keep {N:Nat} {W W':World} {v:Value} {l:List Int} (h:IntsAt N W v l) (hk:∀ b,b < N→W'.heap[b]? = W.heap[b]?):IntsAt N W' v l:=by
 rcases h with h | ⟨b,o,cap,h1,h2,h3⟩
 ·exact .inl h
 ·exact .inr ⟨b,o,cap,h1,h2,fun j hj=>(World.cell?_of_block (a:=⟨b,o+j,none⟩) (hk b h2)).trans (h3 j hj)⟩
theorem IntsAt.src {P:Program} {t e:TypeId} (ht:P.underlying t=some (.slice e)) {N:Nat} {W:World} {v:Value} {l:List Int} (h:IntsAt N W v l):Go.Src P 1 t v l.length (l.map (Value.int .i64)) W:=by
 have hone:∀ u∈l.map (Value.int .i64),u.oneCell'=true:=fun u hu=>by obtain ⟨x,_,rfl⟩:=List.mem_map.1 hu;rfl
 rcases h with ⟨rfl,rfl | ⟨a,c,rfl⟩⟩ | ⟨b,o,cap,rfl,h2,h3⟩
 ·exact Go.Src.ofNil W ht 0
 ·exact Go.Src.ofSlice W ht a 0 c [] (by simp) (by simp) (by simp)
 ·refine Go.Src.ofSlice W ht ⟨b,o,none⟩ l.length cap _ (by simp) (fun j u hu => ?_) hone
  rw [Addr.add_lit]
  rw [List.getElem?_map,Option.map_eq_some_iff] at hu
  obtain ⟨x,hx,rfl⟩:=hu
  have hj:=(List.getElem?_eq_some_iff.1 hx).1
  rw [h3 j hj,List.getD_eq_getElem?_getD,hx]
  rfl
structure SmallR (n:List (List Int)) (i:Int):Prop where
 rng:Rng n
 lo:0≤i
 hi:i.toNat < n.length
 len:n.length≤1000
 rows:∀ k,(n.getD k []).length≤1000
def ReachAt (S:Seat):Prop:=∀ g,assoc g S.fns=some 303→∀ (n:List (List Int)) (i:Nat) (v:Value) (W:World) (b:Bool),RowsAt W.heap.size W v n→SmallR n i→selfN n i=some b →
 Calls S.P g #[v,.int .i64 i] W fun e W'=>e=.returned (.bool b)∧KeepO (fun _=>False) W W'
open Classical in
noncomputable def P303 (n:List (List Int)) (i:Int):Option Bool:=if SmallR n i then selfN n i.toNat else none
noncomputable def k303:CSpec:=⟨303,[.sl (.sl .int),.int],.bool,fun x=>P303 x.1 x.2,false,[]⟩
theorem ints_back {S:Seat} {A:Nat→Prop} {N:Nat} {w:World} {l:List Int} {v:Value} (hA:∀ b,A b→b < N) (h:VR0 S A w (.sl 1 (l.map fun x=>[aI x])) v):IntsAt N w v l:=by
 rcases VR.sl_inv (σ:=fun _=>none) (.of0 h) with ⟨e,rfl⟩ | ⟨b,o,cap,u,rfl,h1,h2,h3,h4,h5,h6⟩ | ⟨e,a,cap,rfl⟩
 ·exact .inl ⟨by simpa using e,.inl rfl⟩
 ·refine .inr ⟨b,o,cap,by rw [List.length_map],hA b h1,fun j hj => ?_⟩
  have hg:=List.getElem?_eq_getElem hj
  have h7:=h6 j [aI l[j]] 0 (aI l[j]) (by rw [List.getElem?_map,hg];rfl) rfl
  have h8:=h4 j (by rw [List.length_map];omega)
  rw [Nat.mul_one,Nat.add_zero] at h7
  rw [h8,VR.v_inv (σ:=fun _=>none) (.of0 h7),List.getD_eq_getElem?_getD,hg]
  rfl
 ·exact .inl ⟨by simpa using e,.inr ⟨_,_,rfl⟩⟩
theorem rows_back {S:Seat} {A:Nat→Prop} {N:Nat} {w:World} {n:List (List Int)} {v:Value} (hA:∀ b,A b→b < N) (hn:n≠[]) (h:VR0 S A w (.sl 1 (n.map fun r=>[AV.sl 1 (r.map fun x=>[aI x])])) v):RowsAt N w v n:=by
 rcases VR.sl_inv (σ:=fun _=>none) (.of0 h) with ⟨e,rfl⟩ | ⟨b,o,cap,u,rfl,h1,h2,h3,h4,h5,h6⟩ | ⟨e,a,cap,rfl⟩
 ·exact absurd (by simpa using e) hn
 ·refine ⟨b,o,cap,by rw [List.length_map],hA b h1,fun k r hr => ?_⟩
  have hk:=(List.getElem?_eq_some_iff.1 hr).1
  have h7:=h6 k [AV.sl 1 (r.map fun x=>[aI x])] 0 (AV.sl 1 (r.map fun x=>[aI x])) (by rw [List.getElem?_map,hr];rfl) rfl
  have h8:=h4 k (by rw [List.length_map];omega)
  rw [Nat.mul_one,Nat.add_zero] at h7
  exact ⟨u k,h8,ints_back hA h7⟩
 ·exact absurd (by simpa using e) hn
theorem r303 {S:Seat} (h:ReachAt S):Rt S k303:=fun (x:List (List Int)×Int) (y:Bool) hy=>by
 obtain ⟨n,i⟩:=x
 have hy:P303 n i=some y:=hy
 intro g hg
 show RealM S g [.sl 1 (n.map fun r=>[AV.sl 1 (r.map fun x=>[aI x])]),aI i] (.v (.bool y)) []
 unfold P303 at hy
 split at hy
 ·rename_i hs
  refine realM_of (fun A w vs hl hA ha => ?_) (by simp [isOwn,aI])
  obtain ⟨x0,x1,rfl⟩:∃ x0 x1,vs=#[x0,x1]:=by
   obtain ⟨r⟩:=vs
   match r,hl with
   | [x0,x1],_=>exact ⟨x0,x1,rfl⟩
  have h0:=ha 0 _ rfl
  obtain rfl:x1=.int .i64 i:=VR.v_inv (σ:=fun _=>none) (.of0 (ha 1 _ rfl))
  have hn:n≠[]:=fun e=>by have:=hs.hi;subst e;simp at this
  have hr:=rows_back (N:=w.heap.size) hA.1 hn h0
  have hi:i=((i.toNat:Nat):Int):=by have:=hs.lo;omega
  have:=h g hg n i.toNat x0 w y hr (by rw [← hi];exact hs) hy
  rw [← hi] at this
  refine this.mono ?_
  rintro e W' ⟨rfl,hk⟩
  exact ⟨_,rfl,hk,fun _=>none,by simp,by simp,rfl,.v _⟩
 ·cases hy
end Ab
end
section
namespace Ab
open Go Go.RowKit Go.Sort Go.Proofs
set_option linter.unusedVariables false
set_option linter.unusedSimpArgs false
def sortI (l:List Int):List Int:=l.mergeSort fun x y=>decide (x≤y)
def compI (l:List Int):List Int:=Lib.compact l
theorem sortI_length (l:List Int):(sortI l).length=l.length:=by unfold sortI;rw [List.length_mergeSort]
def SortIAt (S:Seat):Prop:=∀ g,assoc g S.fns=some 213 →
 (∀ (blk cap:Nat) (ss:List Int) (w:World),Holds (Value.int .i64) w blk 0 ss.toArray→blk < w.heap.size→ss.length < 4611686018427387904 →
  Calls S.P g #[.slice (some ⟨blk,0,none⟩) ss.length cap] w fun e w'=>e=.returned (.tuple #[])∧∃ n os,w'=grow (putRow (Value.int .i64) (Sort.ahead w n) blk 0 (ss.mergeSort fun x y=>decide (x≤y)).toArray) os) ∧
 ∀ (p:Option Addr) (cap:Nat) (w:World),Calls S.P g #[.slice p 0 cap] w fun e w'=>e=.returned (.tuple #[])∧w'=w
def CompIAt (S:Seat):Prop:=∀ g,assoc g S.fns=some 302 →
 (∀ (blk cap:Nat) (zs:List Int) (w:World),Holds (Value.int .i64) w blk 0 zs.toArray→zs.length≤9223372036854775807→zs.length≤cap →
  Calls S.P g #[.slice (some ⟨blk,0,none⟩) zs.length cap] w fun e w'=>e=.returned (.slice (some ⟨blk,0,none⟩) (Lib.compact zs).length cap) ∧
   ∃ q,w'=putRow (Value.int .i64) (Sort.ahead w q) blk 0 (Lib.compact zs++List.replicate (zs.length - (Lib.compact zs).length) 0).toArray) ∧
 ∀ (a:Option Addr) (cap:Nat) (w:World),Calls S.P g #[.slice a 0 cap] w fun e w'=>e=.returned (.slice a 0 cap)∧w'=w
theorem ownI_done {S:Seat} {A:Nat→Prop} {w:World} {b cap:Nat} {cur:Array Value} {el:TypeId} {zs:List Int} (hb:w.heap[b]? = some (.cells cur el (0,0))) (ht:cur.toList.take zs.length=zs.map (Value.int .i64)) (h1:zs.length≤cap) (h2:cap≤maxLen) (h3:cap≤cur.size) :
  OwnRel S A w (some b) 1 (zs.map fun s=>[aI s]) (.slice (some ⟨b,0,none⟩) zs.length cap):=by
 have hl:(zs.map fun s=>[aI s]).length=zs.length:=by simp
 have hget:∀ j,j < zs.length→cur.getD j undef=(Value.int .i64) (zs[j]?.getD 0):=fun j hj=>by
  have h4:(cur.toList.take zs.length)[j]? = (zs.map (Value.int .i64))[j]?:=by rw [ht]
  rw [List.getElem?_take_of_lt hj,Array.getElem?_toList,List.getElem?_map] at h4
  rw [Array.getD_eq_getD_getElem?,h4,List.getElem?_eq_getElem hj]
  rfl
 refine ⟨fun e he => ?_,.inr ⟨b,cap,cur,el,rfl,by rw [hl],by rw [hl];exact h1,h2,hb,by omega,fun j hj => ?_,fun i e c x hi hc => ?_⟩⟩
 ·obtain ⟨s,_,rfl⟩:=List.mem_map.1 he;rfl
 ·rw [hl] at hj
  rw [hget j (by omega)]
  rfl
 ·have hi':i < zs.length:=by have:=(List.getElem?_eq_some_iff.1 hi).1;omega
  rw [List.getElem?_map,List.getElem?_eq_getElem hi'] at hi
  cases hi
  match c,hc with
  | 0,hc =>
   cases hc
   rw [Nat.mul_one,Nat.add_zero,hget i hi',List.getElem?_eq_getElem hi']
   exact .v _
  | c+1,hc=>simp at hc
theorem ownI_cases {S:Seat} {A:Nat→Prop} {w:World} {b?:Option Nat} {l:List Int} {v:Value} (h:OwnRel S A w b? 1 (l.map fun s=>[aI s]) v) :
  (b? = none∧l=[]∧v=.slice none 0 0)∨∃ b cap cur el,b? = some b∧v=.slice (some ⟨b,0,none⟩) l.length cap∧l.length≤cap∧cap≤maxLen∧w.heap[b]? = some (.cells cur el (0,0))∧cap≤cur.size∧cur.toList.take l.length=l.map (Value.int .i64):=by
 obtain ⟨_,⟨h1,h2,h3⟩ | ⟨b,cap,cur,el,h1,h2,h3,h4,h5,h6,h7,h8⟩⟩:=h
 ·exact .inl ⟨h1,by simpa using h2,h3⟩
 ·have hl:(l.map fun s=>[aI s]).length=l.length:=by simp []
  rw [hl] at h2 h3 h7
  refine .inr ⟨b,cap,cur,el,h1,h2,h3,h4,h5,by omega, ?_⟩
  apply List.ext_getElem?
  intro j
  by_cases hj:j < l.length
  ·have hj':j < l.length:=by rw [] at hj;exact hj
   rw [List.getElem?_take_of_lt hj,Array.getElem?_toList,List.getElem?_map,List.getElem?_eq_getElem hj']
   have:=h8 j [aI l[j]] 0 (aI l[j]) (by rw [List.getElem?_map,List.getElem?_eq_getElem hj'];rfl) rfl
   rw [Nat.mul_one,Nat.add_zero] at this
   have e:=VR.v_inv (σ:=fun _=>none) (.of0 this)
   have hs:j < cur.size:=by omega
   rw [Array.getD_eq_getD_getElem?,Array.getElem?_eq_getElem hs] at e
   rw [Array.getElem?_eq_getElem hs]
   exact congrArg some e
  ·rw [List.getElem?_take_eq_none (by omega),List.getElem?_eq_none (by simp;omega)]
theorem keepO_grownI {w w':World} {ι:Nat→Option Nat} {b:Nat} (h:w.grownBy w' (some b)) (hb:ι 0=some b):KeepO (Taken ι) w w' :=
 ⟨h.os,h.tape,h.output,h.size,fun k hk hn=>h.block k hk fun e=>hn ⟨0,by rw [hb,Option.some.inj e]⟩⟩
noncomputable def P213 (l:List Int):Option (List Int):=ck (decide (List.length l≤roomA)) (some (sortI l))
noncomputable def k213:CSpec:=⟨213,[.own .int],.own .int,fun x=>P213 x,false,[0]⟩
theorem r213 {S:Seat} (h:SortIAt S):Rt S k213:=fun (l:List Int) (y:List Int) hy=>by
 obtain ⟨h1,h2⟩:=ck_some (show P213 l=some y from hy)
 have h1:=of_decide_eq_true h1
 obtain rfl:=Option.some.inj h2
 show (realRets S).ret 213 [.own 1 (l.map fun s=>[aI s])] (.tup []) [(0,(sortI l).map fun s=>[aI s])]
 intro g hg;refine RealM0.up ?_;intro A w vs ι hl hA hι hargs
 obtain ⟨hS,hN⟩:=h g hg
 obtain ⟨x0,rfl⟩:∃ x0,vs=#[x0]:=by
  obtain ⟨r⟩:=vs
  match r,hl with
  | [x0],_=>exact ⟨x0,rfl⟩
 have h0:OwnRel S A w (ι 0) 1 (l.map fun s=>[aI s]) x0:=hargs 0 _ rfl
 have hno:∀ i b,ι i=some b→i=0:=fun i b hb=>by have:=(hι.1 i b hb).1;simp at this;omega
 rcases ownI_cases h0 with ⟨b1,rfl,rfl⟩ | ⟨b,cap,cur,el,b1,rfl,b3,b4,b5,b6,b7⟩
 ·refine (hN none 0 w).mono ?_
  rintro e w' ⟨rfl,rfl⟩
  refine ⟨_,rfl,KeepO.refl _ _,fun _=>none,by simp,by simp,fun i es z es0 hm ha => ?_,⟨#[],rfl,rfl,by simp⟩⟩
  obtain ⟨rfl,rfl⟩:=Prod.mk.inj (List.mem_singleton.1 hm)
  cases ha
  refine ⟨by simp [sortI], ?_,fun b cs el hb=>by rw [b1] at hb;cases hb⟩
  rw [b1]
  exact ⟨by simp [sortI],.inl ⟨rfl,by simp [sortI],rfl⟩⟩
 ·have hH:Holds (Value.int .i64) w b 0 l.toArray:=holds_of_blockI b5 b7
  have hlt:b < w.heap.size:=(Array.getElem?_eq_some_iff.1 b5).1
  refine (hS b cap l w hH hlt (by rw [];unfold roomA at h1;omega)).mono ?_
  rintro e w' ⟨rfl,n,os,rfl⟩
  have hg2:=grownBy_sortedI (w:=w) (g:=b) (n:=n) (os:=os) (l.mergeSort fun x y=>decide (x≤y)).toArray
  have hb2:=heap_sortedI (n:=n) (os:=os) (l.mergeSort fun x y=>decide (x≤y)).toArray b5
  have hml:(l.mergeSort fun x y=>decide (x≤y)).length=l.length:=List.length_mergeSort ..
  refine ⟨_,rfl,keepO_grownI hg2 b1,fun _=>none,by simp,by simp,fun i es z es0 hm ha => ?_,⟨#[],rfl,rfl,by simp⟩⟩
  obtain ⟨rfl,rfl⟩:=Prod.mk.inj (List.mem_singleton.1 hm)
  cases ha
  refine ⟨by simp [sortI_length], ?_,fun b' cs el' hb hc => ?_⟩
  ·rw [b1]
   have:=ownI_done (S:=S) (A:=After (fun b=>A b∨Eaten ι [(0,(sortI l).map fun s=>[aI s])] b) (fun _=>none) w (grow (putRow (Value.int .i64) (Sort.ahead w n) b 0 (l.mergeSort fun x y=>decide (x≤y)).toArray) os)) hb2 (zs:=l.mergeSort fun x y=>decide (x≤y)) (cap:=cap) (take_putCellsI cur _ (by omega)) (by omega) b4 (by simpa [putCells] using b6)
   rw [hml] at this
   exact this
  ·rw [b1] at hb
   obtain rfl:=Option.some.inj hb
   rw [b5] at hc
   cases hc
   exact ⟨_,hb2,by simp [putCells]⟩
noncomputable def P302 (l:List Int):Option (List Int):=ck (decide (List.length l≤roomA)) (some (compI l))
noncomputable def k302:CSpec:=⟨302,[.own .int],.own .int,fun x=>P302 x,false,[1000]⟩
theorem r302 {S:Seat} (h:CompIAt S):Rt S k302:=fun (l:List Int) (y:List Int) hy=>by
 obtain ⟨h1,h2⟩:=ck_some (show P302 l=some y from hy)
 have h1:=of_decide_eq_true h1
 obtain rfl:=Option.some.inj h2
 show (realRets S).ret 302 [.own 1 (l.map fun s=>[aI s])] (.own 1 ((compI l).map fun s=>[aI s])) []
 intro g hg;refine RealM0.up ?_;intro A w vs ι hl hA hι hargs
 obtain ⟨hS,hN⟩:=h g hg
 obtain ⟨x0,rfl⟩:∃ x0,vs=#[x0]:=by
  obtain ⟨r⟩:=vs
  match r,hl with
  | [x0],_=>exact ⟨x0,rfl⟩
 have h0:OwnRel S A w (ι 0) 1 (l.map fun s=>[aI s]) x0:=hargs 0 _ rfl
 rcases ownI_cases h0 with ⟨b1,rfl,rfl⟩ | ⟨b,cap,cur,el,b1,rfl,b3,b4,b5,b6,b7⟩
 ·refine (hN none 0 w).mono ?_
  rintro e w' ⟨rfl,rfl⟩
  refine ⟨_,rfl,KeepO.refl _ _,fun _=>none,by simp,by simp,(fun i es z es0 hm=>by cases hm), ?_⟩
  have e0:compI []=[]:=by simp [compI,Lib.compact,Lib.compactUpTo]
  rw [e0]
  exact ⟨by simp,.inl ⟨rfl,rfl,rfl⟩⟩
 ·have hH:Holds (Value.int .i64) w b 0 l.toArray:=holds_of_blockI b5 b7
  have hlt:b < w.heap.size:=(Array.getElem?_eq_some_iff.1 b5).1
  have hle:(Lib.compact l).length≤l.length:=by
   unfold Lib.compact Lib.compactUpTo
   rw [List.length_map]
   exact Nat.le_trans (List.length_filter_le _ _) (by simp)
  refine (hS b cap l w hH (by rw [];unfold roomA at h1;omega) b3).mono ?_
  rintro e w' ⟨rfl,q,rfl⟩
  generalize hzz:Lib.compact l++List.replicate (l.length - (Lib.compact l).length) 0=zz
  have hzl:zz.length=l.length:=by rw [← hzz];simp;omega
  have hg2:=grownBy_sortedI (w:=w) (g:=b) (n:=q) (os:=#[]) zz.toArray
  have hb2:=heap_sortedI (n:=q) (os:=#[]) zz.toArray b5
  rw [grow_empty] at hg2 hb2
  have ht:=take_putCellsI cur zz (by omega)
  have ht2:(putCells (Value.int .i64) 0 zz.toArray cur).toList.take (Lib.compact l).length=(Lib.compact l).map (Value.int .i64):=by
   have:(putCells (Value.int .i64) 0 zz.toArray cur).toList.take (Lib.compact l).length=((putCells (Value.int .i64) 0 zz.toArray cur).toList.take zz.length).take (Lib.compact l).length:=by rw [List.take_take,Nat.min_eq_left (by omega)]
   rw [this,ht,← hzz,List.map_append]
   exact List.take_left' (by simp)
  have hβ:∀ i b',(if i=0 then some b else none)=some b'→i=0∧b'=b:=fun i b' h=>by
   split at h
   ·rename_i e;cases h;exact ⟨e,rfl⟩
   ·cases h
  refine ⟨_,rfl,keepO_grownI hg2 b1,fun i=>if i=0 then some b else none,fun i b' hib => ?_,fun i j b' hi hj=>(hβ i b' hi).1.trans (hβ j b' hj).1.symm,(fun i es z es0 hm=>by cases hm), ?_⟩
  ·obtain ⟨_,rfl⟩:=hβ i b' hib
   exact ⟨.inr ⟨0,b1,fun es=>by simp⟩,Nat.lt_of_lt_of_le hlt hg2.size⟩
  ·show OwnRel S _ _ (some b) 1 ((Lib.compact l).map fun s=>[aI s]) _
   exact ownI_done hb2 ht2 (by omega) b4 (by simpa [putCells] using b6)
end Ab
end
section
namespace Ab
open Go
set_option linter.unusedVariables false
set_option maxRecDepth 100000
def tc355:TCode :=
 .seq (.region [
 oq 2 (.box (.t 0)),
 oq 4 (.mov (.c (.slice none 0 0))),
 oq 5 (.mov (.c (.nilIface)))] [] false)
  (.seq (.seq (.region [
 oq 9 (.fa 2 (.t 2)),
 oq 10 (.load none (.t 9)),
 oq 11 (.mov (.t 1)),
 oq 12 (.ia 4 (.t 10) (.t 11)),
 oq 13 (.fa 3 (.t 12)),
 oq 14 (.load none (.t 13)),
 oq 15 (.bin .str .eql (.t 14) (.c (.string ⟨#[]⟩)))] [] false)
  (.cond (.t 15)
   (.seq (.region [
 oq 4 (.mov (.c (.slice none 0 0))),
 oq 5 (.mov (.c (.nilIface)))] [] false)
    (.ret))
    (.skip)))
  (.seq (.region [
 oq 17 (.fa 2 (.t 2)),
 oq 18 (.load none (.t 17)),
 oq 19 (.mov (.t 1)),
 oq 20 (.ia 4 (.t 18) (.t 19)),
 oq 21 (.fa 3 (.t 20)),
 oq 22 (.load none (.t 21)),
 oq 23 (.call true [] 248 [(.t 22)]),
 oq 16 (.mov (.t 23)),
 oq 24 (.ext (.t 16) 0),
 oq 25 (.ext (.t 16) 1),
 oq 26 (.ext (.t 16) 2),
 oq 6 (.mov (.t 24)),
 oq 7 (.mov (.t 25)),
 oq 8 (.mov (.t 26))] [] false)
  (.seq (.region [
 oq 27 (.mov (.t 6)),
 oq 28 (.mov (.t 8)),
 oq 4 (.mov (.t 27)),
 oq 5 (.mov (.t 28))] [] false)
  (.ret))))
def tf355:TFunc:={ np:=2,nt:=29,res:=[.tmp 4,.tmp 5],own:=false,body:=tc355 }
noncomputable def S355 (F248:ByteArray→(Option ((List Node)×Int×Err))) (a0:Dim) (a1:Int):Option ((Option (List Node))×Err) :=
 bno (lookI (Dim.members a0) a1) fun y1 =>
 br (decide ((Member.formula y1)=(⟨#[]⟩:ByteArray)))
 (some (none,Err.nil))
 (bno (lookI (Dim.members a0) a1) fun y2 =>
 bno (F248 (Member.formula y2)) fun y3 =>
 some (some y3.1,y3.2.2))
theorem s355 (F248:ByteArray→(Option ((List Node)×Int×Err))) (a0:Dim) (a1:Int):tf355.run [⟨248,[.str],(.tp [(.sl .node),.int,.err]),fun x=>F248 x,false,[]⟩] [(.st .dim),.int] (.tp [(.ns .node),.err]) (a0,a1)=S355 F248 a0 a1:=by kernel_rfl
noncomputable def P355 (a0:Dim) (a1:Int):Option ((Option (List Node))×Err):=S355 P248 a0 a1
noncomputable def k355:CSpec:=⟨355,[(.st .dim),.int],(.tp [(.ns .node),.err]),fun x=>P355 x.1 x.2,false,[]⟩
theorem r355 {S:Seat} (h:Ok1 S 355 tf355) (h248:Rt S k248):Rt S k355:=fun x y hy =>
 Ok1.sound h (C:=[k248]) (CSound.cons h248 CSound.nil) rfl rfl rfl ((s355 P248 x.1 x.2).trans hy) rfl
def tc362:TCode :=
 .seq (.region [
 oq 4 (.mov (.c (.int .i64 0)))] [] false)
  (.seq (.seq (.region [
 oq 6 (.mov (.t 0)),
 oq 7 (.len false (.t 6)),
 oq 8 (.mov (.c (.int .i64 0)))] [] false)
  (.loop ⟨[.slot 8 .int],[5,9,10,11,12,13,14,15,16,18],[],[]⟩ 0 (.seq (.region [
 oq 9 (.bin .int .lss (.t 8) (.t 7))] [] false)
    (.seq (.cond (.t 9)
     (.skip)
     (.exit 0))
    (.seq (.block 1 (.seq (.region [
 oq 10 (.mov (.t 8)),
 oq 5 (.mov (.t 10))] [] false)
      (.seq (.region [
 oq 11 (.mov (.t 1)),
 oq 12 (.mov (.t 0)),
 oq 13 (.mov (.t 5)),
 oq 14 (.ia 1 (.t 12) (.t 13)),
 oq 15 (.load none (.t 14)),
 oq 16 (.bin .int .eql (.t 11) (.t 15))] [] false)
   (.cond (.t 16)
    (.seq (.region [
 oq 17 (.mov (.t 5)),
 oq 4 (.mov (.t 17))] [] false)
   (.ret))
   (.skip)))))
    (.region [
 oq 18 (.bin .int .add (.t 8) (.c (.int .i64 1))),
 oq 8 (.mov (.t 18))] [] false))))))
  (.seq (.region [
 oq 4 (.mov (.c (.int .i64 (-1))))] [] false)
  (.ret)))
def tf362:TFunc:={ np:=2,nt:=19,res:=[.tmp 4],own:=false,body:=tc362 }
noncomputable def S362_L1 (a0:(List Int)) (a1:Int) (x1:Int):Option (LR Int Int) :=
 br (decide (x1 < ((List.length a0:Nat):Int)))
 (bno (lookI a0 x1) fun y2 =>
 br (decide (a1=y2))
 (finO (some x1))
 (nxO (some (wi (x1+(1:Int))))))
 (dnO (some x1))
noncomputable def S362 (a0:(List Int)) (a1:Int):Option Int :=
 lp (S362_L1 a0 a1) (0:Int) fun x3 =>
 some (-1:Int)
theorem s362 (a0:(List Int)) (a1:Int):tf362.run [] [(.sl .int),.int] .int (a0,a1)=S362 a0 a1:=by kernel_rfl
noncomputable def P362 (a0:(List Int)) (a1:Int):Option Int:=S362 a0 a1
noncomputable def k362:CSpec:=⟨362,[(.sl .int),.int],.int,fun x=>P362 x.1 x.2,false,[]⟩
theorem r362 {S:Seat} (h:Ok1 S 362 tf362):Rt S k362:=fun x y hy =>
 Ok1.sound h (C:=[]) CSound.nil rfl rfl rfl ((s362 x.1 x.2).trans hy) rfl
def tc357:TCode :=
 .seq (.region [
 oq 4 (.mov (.c (.bool false)))] [] false)
  (.seq (.region [
 oq 5 (.mov (.t 0)),
 oq 6 (.mov (.t 1)),
 oq 7 (.call false [] 362 [(.t 5),(.t 6)]),
 oq 8 (.bin .int .geq (.t 7) (.c (.int .i64 0))),
 oq 4 (.mov (.t 8))] [] false)
  (.ret))
def tf357:TFunc:={ np:=2,nt:=9,res:=[.tmp 4],own:=false,body:=tc357 }
noncomputable def S357 (F362:(List Int)→Int→(Option Int)) (a0:(List Int)) (a1:Int):Option Bool :=
 bno (F362 a0 a1) fun y1 =>
 some (decide ((0:Int)≤y1))
theorem s357 (F362:(List Int)→Int→(Option Int)) (a0:(List Int)) (a1:Int):tf357.run [⟨362,[(.sl .int),.int],.int,fun x=>F362 x.1 x.2,false,[]⟩] [(.sl .int),.int] .bool (a0,a1)=S357 F362 a0 a1:=by kernel_rfl
noncomputable def P357 (a0:(List Int)) (a1:Int):Option Bool:=S357 P362 a0 a1
noncomputable def k357:CSpec:=⟨357,[(.sl .int),.int],.bool,fun x=>P357 x.1 x.2,false,[]⟩
theorem r357 {S:Seat} (h:Ok1 S 357 tf357) (h362:Rt S k362):Rt S k357:=fun x y hy =>
 Ok1.sound h (C:=[k362]) (CSound.cons h362 CSound.nil) rfl rfl rfl ((s357 P362 x.1 x.2).trans hy) rfl
def tc356:TCode :=
 .seq (.region [
 oq 3 (.box (.t 0)),
 oq 6 (.mov (.c (.slice none 0 0)))] [] false)
  (.seq (.seq (.region [
 oq 11 (.mov (.t 2)),
 oq 12 (.len false (.t 11)),
 oq 13 (.mov (.c (.int .i64 0)))] [] false)
  (.loop ⟨[.row 6 27 .int,.slot 13 .int],[8,14,15,16,17,18,19,20,21,22,23,24,25,26,27,28],[8,26],[]⟩ 0 (.seq (.region [
 oq 14 (.bin .int .lss (.t 13) (.t 12))] [] false)
    (.seq (.cond (.t 14)
     (.skip)
     (.exit 0))
    (.seq (.block 1 (.seq (.region [
 oq 15 (.ia 5 (.t 11) (.t 13)),
 oq 16 (.load (some 5) (.t 15)),
 oq 8 (.alloc [.int .i64 0,.int .i64 0,.string ⟨#[]⟩,.int .i64 0,.int .i64 0]),
  ⟨none,.store 5 (.t 8) (.t 16),none,[]⟩] [] false)
    (.seq (.region [
 oq 17 (.fa 0 (.t 8)),
 oq 18 (.load none (.t 17)),
 oq 19 (.bin .int .eql (.t 18) (.c (.int .i64 2)))] [] false)
   (.condJ ⟨[.row 6 27 .int],[20,21,22,23,24,25,26,27],[26],[]⟩ (.t 19)
    (.region [
 oq 20 (.mov (.t 6)),
 oq 21 (.fa 2 (.t 3)),
 oq 22 (.load none (.t 21)),
 oq 23 (.fa 2 (.t 8)),
 oq 24 (.load none (.t 23)),
 oq 25 (.call false [] 37 [(.t 22),(.t 24)]),
 oq 26 (.bslice false 1 [.int .i64 0] 1 [(0,(.t 25))]),
 oq 27 (.app 1 (.t 20) (.t 26)),
 oq 6 (.mov (.t 27))] [] false)
   (.skip)))))
    (.region [
 oq 28 (.bin .int .add (.t 13) (.c (.int .i64 1))),
 oq 13 (.mov (.t 28))] [] false))))))
  (.seq (.seq (.region [
 oq 29 (.mov (.t 2)),
 oq 30 (.eqn true false (.t 29))] [] false)
  (.condJ ⟨[.row 6 27 .int],[10,31,32,33,34,35,36,37,38,39,40,41,42,43,44,45,46,47,48,49,50],[48],[]⟩ (.t 30)
   (.seq (.region [
 oq 31 (.load (some 3) (.t 3)),
 oq 32 (.mov (.t 1)),
 oq 33 (.call true [] 47 [(.t 31),(.t 32)]),
 oq 34 (.len false (.t 33)),
 oq 35 (.mov (.c (.int .i64 0)))] [] false)
    (.loop ⟨[.row 6 27 .int,.slot 35 .int],[10,36,37,38,39,40,41,42,43,44,45,46,47,48,49,50],[48],[]⟩ 2 (.seq (.region [
 oq 36 (.bin .int .lss (.t 35) (.t 34))] [] false)
   (.seq (.cond (.t 36)
    (.skip)
    (.exit 2))
   (.seq (.block 3 (.seq (.region [
 oq 37 (.ia 1 (.t 33) (.t 35)),
 oq 38 (.load none (.t 37)),
 oq 10 (.mov (.t 38))] [] false)
   (.seq (.region [
 oq 39 (.fa 2 (.t 3)),
 oq 40 (.load none (.t 39)),
 oq 41 (.mov (.t 10)),
 oq 42 (.ia 4 (.t 40) (.t 41)),
 oq 43 (.fa 2 (.t 42)),
 oq 44 (.load none (.t 43)),
 oq 45 (.bin .int .neq (.t 44) (.c (.int .i64 0)))] [] false)
   (.condJ ⟨[.row 6 27 .int],[46,47,48,49],[48],[]⟩ (.t 45)
    (.region [
 oq 46 (.mov (.t 6)),
 oq 47 (.mov (.t 10)),
 oq 48 (.bslice false 1 [.int .i64 0] 1 [(0,(.t 47))]),
 oq 49 (.app 1 (.t 46) (.t 48)),
 oq 6 (.mov (.t 49))] [] false)
   (.skip)))))
      (.region [
 oq 50 (.bin .int .add (.t 35) (.c (.int .i64 1))),
 oq 35 (.mov (.t 50))] [] false))))))
    (.skip)))
  (.seq (.region [
 oq 51 (.mov (.t 6)),
 oq 52 (.call false [0] 213 [(.t 51)])] [] false)
  (.seq (.region [
 oq 53 (.mov (.t 6)),
 oq 54 (.call true [1000] 302 [(.t 53)]),
 oq 6 (.mov (.t 54))] [] false)
  (.ret)))))
def tf356:TFunc:={ np:=3,nt:=55,res:=[.tmp 6],own:=false,body:=tc356 }
noncomputable def S356_L1 (F37:(List Member)→ByteArray→(Option Int)) (a0:Dim) (a2:(Option (List Node))) (x1:((List Int)×Int)):Option (LR ((List Int)×Int) (List Int)) :=
 br (decide (x1.2 < ((List.length (Option.getD a2 ([])):Nat):Int)))
 (bno (lookI (Option.getD a2 ([])) x1.2) fun y2 =>
 jn (σ:=(List Int)) (α:=(LR ((List Int)×Int) (List Int))) (br (decide ((Node.op y2)=(2:Int)))
 (bno (F37 (Dim.members a0) (Node.name y2)) fun y3 =>
 ck (decide (List.length x1.1+List.length ([y3]:List Int)≤roomA)) <|
 inlO (some (x1.1++([y3]:List Int))))
 (inlO (some x1.1))) fun x4 =>
 nxO (some (x4,wi (x1.2+(1:Int)))))
 (dnO (some (x1.1,x1.2)))
noncomputable def S356_L2 (a0:Dim) (y6:(List Int)) (x7:((List Int)×Int)):Option (LR ((List Int)×Int) (Sum (List Int) (List Int))) :=
 br (decide (x7.2 < ((List.length y6:Nat):Int)))
 (bno (lookI y6 x7.2) fun y8 =>
 bno (lookI (Dim.members a0) y8) fun y9 =>
 jn (σ:=(List Int)) (α:=(LR ((List Int)×Int) (Sum (List Int) (List Int)))) (br (decide (¬ (Member.sign y9)=(0:Int)))
 (ck (decide (List.length x7.1+List.length ([y8]:List Int)≤roomA)) <|
 inlO (some (x7.1++([y8]:List Int))))
 (inlO (some x7.1))) fun x10 =>
 nxO (some (x10,wi (x7.2+(1:Int)))))
 (dnO (some (x7.1,x7.2)))
noncomputable def S356 (F213:(List Int)→(Option (List Int))) (F302:(List Int)→(Option (List Int))) (F37:(List Member)→ByteArray→(Option Int)) (F47:Dim→Int→(Option (List Int))) (a0:Dim) (a1:Int) (a2:(Option (List Node))):Option (List Int) :=
 lp (S356_L1 F37 a0 a2) (([]:List Int),(0:Int)) fun x5 =>
 ck (match (a2:Option (List Node)) with | some xs => !xs.isEmpty | none=>true) <|
 jn (σ:=(List Int)) (α:=(List Int)) (br (Option.isNone a2)
 (bno (F47 a0 a1) fun y6 =>
 lp (S356_L2 a0 y6) (x5.1,(0:Int)) fun x11 =>
 inlO (some x11.1))
 (inlO (some x5.1))) fun x12 =>
 bno (F213 x12) fun y13 =>
 ck (decide (List.length y13=List.length x12)) <|
 bno (F302 y13) fun y14 =>
 some y14
theorem s356 (F213:(List Int)→(Option (List Int))) (F302:(List Int)→(Option (List Int))) (F37:(List Member)→ByteArray→(Option Int)) (F47:Dim→Int→(Option (List Int))) (a0:Dim) (a1:Int) (a2:(Option (List Node))):tf356.run [⟨213,[(.own .int)],(.own .int),fun x=>F213 x,false,[0]⟩,
 ⟨302,[(.own .int)],(.own .int),fun x=>F302 x,false,[1000]⟩,
 ⟨37,[(.sl .member),.str],.int,fun x=>F37 x.1 x.2,false,[]⟩,
 ⟨47,[(.st .dim),.int],(.sl .int),fun x=>F47 x.1 x.2,false,[]⟩] [(.st .dim),.int,(.ns .node)] (.sl .int) (a0,a1,a2)=S356 F213 F302 F37 F47 a0 a1 a2:=by kernel_rfl
noncomputable def P356 (a0:Dim) (a1:Int) (a2:(Option (List Node))):Option (List Int):=S356 P213 P302 P37 P47 a0 a1 a2
noncomputable def k356:CSpec:=⟨356,[(.st .dim),.int,(.ns .node)],(.sl .int),fun x=>P356 x.1 x.2.1 x.2.2,false,[]⟩
theorem r356 {S:Seat} (h:Ok1 S 356 tf356) (h213:Rt S k213) (h302:Rt S k302) (h37:Rt S k37) (h47:Rt S k47):Rt S k356:=fun x y hy =>
 Ok1.sound h (C:=[k213,k302,k37,k47]) (CSound.cons h213 (CSound.cons h302 (CSound.cons h37 (CSound.cons h47 CSound.nil)))) rfl rfl rfl ((s356 P213 P302 P37 P47 x.1 x.2.1 x.2.2).trans hy) rfl
def tc340:TCode :=
 .seq (.region [
 oq 1 (.box (.t 0)),
 oq 2 (.mov (.c (.slice none 0 0))),
 oq 3 (.mov (.c (.int .i64 0))),
 oq 4 (.mov (.c (.nilIface)))] [] false)
  (.seq (.seq (.region [
 oq 14 (.load (some 3) (.t 1)),
 oq 15 (.call false [] 15 [(.t 14)]),
 oq 13 (.mov (.t 15)),
 oq 16 (.ext (.t 13) 0),
 oq 17 (.ext (.t 13) 1),
 oq 5 (.mov (.t 16)),
 oq 6 (.mov (.t 17))] [] false)
  (.seq (.region [
 oq 18 (.mov (.t 6)),
 oq 19 (.eqn false true (.t 18))] [] false)
  (.cond (.t 19)
   (.seq (.region [
 oq 20 (.mov (.t 5)),
 oq 21 (.mov (.t 6)),
 oq 2 (.mov (.c (.slice none 0 0))),
 oq 3 (.mov (.t 20)),
 oq 4 (.mov (.t 21))] [] false)
    (.ret))
    (.skip))))
  (.seq (.region [
 oq 7 (.mov (.c (.slice none 0 0)))] [] false)
  (.seq (.seq (.region [
 oq 22 (.fa 2 (.t 1)),
 oq 23 (.load none (.t 22)),
 oq 24 (.len false (.t 23)),
 oq 25 (.mov (.c (.int .i64 0)))] [] false)
  (.loop ⟨[.row 7 49 (.sl .int),.slot 25 .int],[8,9,10,11,26,27,28,29,30,31,32,33,34,35,38,39,40,41,42,43,46,47,48,49,50],[48],[]⟩ 0 (.seq (.region [
 oq 26 (.bin .int .lss (.t 25) (.t 24))] [] false)
    (.seq (.cond (.t 26)
     (.skip)
     (.exit 0))
    (.seq (.block 1 (.seq (.region [
 oq 27 (.mov (.t 25)),
 oq 8 (.mov (.t 27))] [] false)
      (.seq (.region [
 oq 29 (.load (some 3) (.t 1)),
 oq 30 (.mov (.t 8)),
 oq 31 (.call true [] 355 [(.t 29),(.t 30)]),
 oq 28 (.mov (.t 31)),
 oq 32 (.ext (.t 28) 0),
 oq 33 (.ext (.t 28) 1),
 oq 9 (.mov (.t 32)),
 oq 10 (.mov (.t 33))] [] false)
   (.seq (.seq (.region [
 oq 34 (.mov (.t 10)),
 oq 35 (.eqn false true (.t 34))] [] false)
   (.cond (.t 35)
    (.seq (.region [
 oq 36 (.mov (.t 8)),
 oq 37 (.mov (.t 10)),
 oq 2 (.mov (.c (.slice none 0 0))),
 oq 3 (.mov (.t 36)),
 oq 4 (.mov (.t 37))] [] false)
   (.ret))
   (.skip)))
      (.seq (.region [
 oq 38 (.load (some 3) (.t 1)),
 oq 39 (.mov (.t 8)),
 oq 40 (.mov (.t 9)),
 oq 41 (.call true [] 356 [(.t 38),(.t 39),(.t 40)]),
 oq 11 (.mov (.t 41))] [] false)
   (.seq (.seq (.region [
 oq 42 (.mov (.t 11)),
 oq 43 (.call false [] 357 [(.t 42),(.c (.int .i64 (-1)))])] [] false)
   (.cond (.t 43)
    (.seq (.region [
 oq 44 (.mov (.t 8)),
 oq 45 (.ifc 1 (.c (.int .i64 5))),
 oq 2 (.mov (.c (.slice none 0 0))),
 oq 3 (.mov (.t 44)),
 oq 4 (.mov (.t 45))] [] false)
   (.ret))
   (.skip)))
      (.region [
 oq 46 (.mov (.t 7)),
 oq 47 (.mov (.t 11)),
 oq 48 (.bslice true 1 [.slice none 0 0] 1 [(0,(.t 47))]),
 oq 49 (.app 1 (.t 46) (.t 48)),
 oq 7 (.mov (.t 49))] [.int,.int,(.sl .int),(.sl .int)] false)))))))
    (.region [
 oq 50 (.bin .int .add (.t 25) (.c (.int .i64 1))),
 oq 25 (.mov (.t 50))] [] false))))))
  (.seq (.seq (.region [
 oq 51 (.fa 2 (.t 1)),
 oq 52 (.load none (.t 51)),
 oq 53 (.len false (.t 52)),
 oq 54 (.mov (.c (.int .i64 0)))] [] false)
  (.loop ⟨[.slot 54 .int],[12,55,56,57,58,59,62],[],[]⟩ 2 (.seq (.region [
 oq 55 (.bin .int .lss (.t 54) (.t 53))] [] false)
    (.seq (.cond (.t 55)
     (.skip)
     (.exit 2))
    (.seq (.block 3 (.seq (.region [
 oq 56 (.mov (.t 54)),
 oq 12 (.mov (.t 56))] [] false)
   (.seq (.region [
 oq 57 (.mov (.t 7)),
 oq 58 (.mov (.t 12)),
 oq 59 (.call false [] 303 [(.t 57),(.t 58)])] [] false)
   (.cond (.t 59)
    (.seq (.region [
 oq 60 (.mov (.t 12)),
 oq 61 (.ifc 1 (.c (.int .i64 8))),
 oq 2 (.mov (.c (.slice none 0 0))),
 oq 3 (.mov (.t 60)),
 oq 4 (.mov (.t 61))] [] false)
   (.ret))
   (.skip)))))
    (.region [
 oq 62 (.bin .int .add (.t 54) (.c (.int .i64 1))),
 oq 54 (.mov (.t 62))] [] false))))))
  (.seq (.region [
 oq 63 (.mov (.t 7)),
 oq 2 (.mov (.t 63)),
 oq 3 (.mov (.c (.int .i64 (-1)))),
 oq 4 (.mov (.c (.nilIface)))] [] false)
  (.ret))))))
def tf340:TFunc:={ np:=1,nt:=64,res:=[.tmp 2,.tmp 3,.tmp 4],own:=false,body:=tc340 }
noncomputable def S340_L1 (F355:Dim→Int→(Option ((Option (List Node))×Err))) (F356:Dim→Int→(Option (List Node))→(Option (List Int))) (F357:(List Int)→Int→(Option Bool)) (a0:Dim) (x2:((List (List Int))×Int)):Option (LR ((List (List Int))×Int) ((List (List Int))×Int×Err)) :=
 br (decide (x2.2 < ((List.length (Dim.members a0):Nat):Int)))
 (bno (F355 a0 x2.2) fun y3 =>
 br (!(Err.isNil y3.2))
 (finO (some (([]:List (List Int)),x2.2,y3.2)))
 (bno (F356 a0 x2.2 y3.1) fun y4 =>
 bno (F357 y4 (-1:Int)) fun y5 =>
 br y5
 (finO (some (([]:List (List Int)),x2.2,Err.no (5:Int))))
 (ck (decide (List.length x2.1+List.length ([y4]:List (List Int))≤roomA)) <|
 nxO (some (x2.1++([y4]:List (List Int)),wi (x2.2+(1:Int)))))))
 (dnO (some (x2.1,x2.2)))
noncomputable def S340_L2 (F303:(List (List Int))→Int→(Option Bool)) (a0:Dim) (x6:((List (List Int))×Int)) (x7:Int):Option (LR Int ((List (List Int))×Int×Err)) :=
 br (decide (x7 < ((List.length (Dim.members a0):Nat):Int)))
 (bno (F303 x6.1 x7) fun y8 =>
 br y8
 (finO (some (([]:List (List Int)),x7,Err.no (8:Int))))
 (nxO (some (wi (x7+(1:Int))))))
 (dnO (some x7))
noncomputable def S340 (F15:Dim→(Option (Int×Err))) (F303:(List (List Int))→Int→(Option Bool)) (F355:Dim→Int→(Option ((Option (List Node))×Err))) (F356:Dim→Int→(Option (List Node))→(Option (List Int))) (F357:(List Int)→Int→(Option Bool)) (a0:Dim):Option ((List (List Int))×Int×Err) :=
 bno (F15 a0) fun y1 =>
 br (!(Err.isNil y1.2))
 (some (([]:List (List Int)),y1.1,y1.2))
 (lp (S340_L1 F355 F356 F357 a0) (([]:List (List Int)),(0:Int)) fun x6 =>
 lp (S340_L2 F303 a0 x6) (0:Int) fun x9 =>
 some (x6.1,(-1:Int),Err.nil))
theorem s340 (F15:Dim→(Option (Int×Err))) (F303:(List (List Int))→Int→(Option Bool)) (F355:Dim→Int→(Option ((Option (List Node))×Err))) (F356:Dim→Int→(Option (List Node))→(Option (List Int))) (F357:(List Int)→Int→(Option Bool)) (a0:Dim):tf340.run [⟨15,[(.st .dim)],(.tp [.int,.err]),fun x=>F15 x,false,[]⟩,
 ⟨303,[(.sl (.sl .int)),.int],.bool,fun x=>F303 x.1 x.2,false,[]⟩,
 ⟨355,[(.st .dim),.int],(.tp [(.ns .node),.err]),fun x=>F355 x.1 x.2,false,[]⟩,
 ⟨356,[(.st .dim),.int,(.ns .node)],(.sl .int),fun x=>F356 x.1 x.2.1 x.2.2,false,[]⟩,
 ⟨357,[(.sl .int),.int],.bool,fun x=>F357 x.1 x.2,false,[]⟩] [(.st .dim)] (.tp [(.sl (.sl .int)),.int,.err]) a0=S340 F15 F303 F355 F356 F357 a0:=by kernel_rfl
noncomputable def P340 (a0:Dim):Option ((List (List Int))×Int×Err):=S340 P15 P303 P355 P356 P357 a0
noncomputable def k340:CSpec:=⟨340,[(.st .dim)],(.tp [(.sl (.sl .int)),.int,.err]),fun x=>P340 x,false,[]⟩
theorem r340 {S:Seat} (h:Ok1 S 340 tf340) (h15:Rt S k15) (h303:Rt S k303) (h355:Rt S k355) (h356:Rt S k356) (h357:Rt S k357):Rt S k340:=fun x y hy =>
 Ok1.sound h (C:=[k15,k303,k355,k356,k357]) (CSound.cons h15 (CSound.cons h303 (CSound.cons h355 (CSound.cons h356 (CSound.cons h357 CSound.nil))))) rfl rfl rfl ((s340 P15 P303 P355 P356 P357 x).trans hy) rfl
def tc315:TCode :=
 .seq (.region [
 oq 1 (.box (.t 0)),
 oq 2 (.mov (.c (.int .i64 0))),
 oq 3 (.mov (.c (.nilIface)))] [] false)
  (.seq (.region [
 oq 8 (.load (some 3) (.t 1)),
 oq 9 (.call true [] 340 [(.t 8)]),
 oq 7 (.mov (.t 9)),
 oq 10 (.ext (.t 7) 0),
 oq 11 (.ext (.t 7) 1),
 oq 12 (.ext (.t 7) 2),
 oq 4 (.mov (.t 10)),
 oq 5 (.mov (.t 11)),
 oq 6 (.mov (.t 12))] [] false)
  (.seq (.region [
 oq 13 (.mov (.t 5)),
 oq 14 (.mov (.t 6)),
 oq 2 (.mov (.t 13)),
 oq 3 (.mov (.t 14))] [] false)
  (.ret)))
def tf315:TFunc:={ np:=1,nt:=15,res:=[.tmp 2,.tmp 3],own:=false,body:=tc315 }
noncomputable def S315 (F340:Dim→(Option ((List (List Int))×Int×Err))) (a0:Dim):Option (Int×Err) :=
 bno (F340 a0) fun y1 =>
 some (y1.2.1,y1.2.2)
theorem s315 (F340:Dim→(Option ((List (List Int))×Int×Err))) (a0:Dim):tf315.run [⟨340,[(.st .dim)],(.tp [(.sl (.sl .int)),.int,.err]),fun x=>F340 x,false,[]⟩] [(.st .dim)] (.tp [.int,.err]) a0=S315 F340 a0:=by kernel_rfl
noncomputable def P315 (a0:Dim):Option (Int×Err):=S315 P340 a0
noncomputable def k315:CSpec:=⟨315,[(.st .dim)],(.tp [.int,.err]),fun x=>P315 x,false,[]⟩
theorem r315 {S:Seat} (h:Ok1 S 315 tf315) (h340:Rt S k340):Rt S k315:=fun x y hy =>
 Ok1.sound h (C:=[k340]) (CSound.cons h340 CSound.nil) rfl rfl rfl ((s315 P340 x).trans hy) rfl
def tc320:TCode :=
 .seq (.region [
 oq 1 (.box (.t 0)),
 oq 2 (.mov (.c (.int .i64 0))),
 oq 3 (.mov (.c (.int .i64 0))),
 oq 4 (.mov (.c (.nilIface)))] [] false)
  (.seq (.seq (.region [
 oq 13 (.load (some 1) (.t 1)),
 oq 14 (.call false [] 14 [(.t 13)]),
 oq 12 (.mov (.t 14)),
 oq 15 (.ext (.t 12) 0),
 oq 16 (.ext (.t 12) 1),
 oq 17 (.ext (.t 12) 2),
 oq 5 (.mov (.t 15)),
 oq 6 (.mov (.t 16)),
 oq 7 (.mov (.t 17))] [] false)
  (.seq (.region [
 oq 18 (.mov (.t 7)),
 oq 19 (.eqn false true (.t 18))] [] false)
  (.cond (.t 19)
   (.seq (.region [
 oq 20 (.mov (.t 5)),
 oq 21 (.mov (.t 6)),
 oq 22 (.mov (.t 7)),
 oq 2 (.mov (.t 20)),
 oq 3 (.mov (.t 21)),
 oq 4 (.mov (.t 22))] [] false)
    (.ret))
    (.skip))))
  (.seq (.seq (.region [
 oq 23 (.fa 0 (.t 1)),
 oq 24 (.load none (.t 23)),
 oq 25 (.len false (.t 24)),
 oq 26 (.mov (.c (.int .i64 0)))] [] false)
  (.loop ⟨[.slot 26 .int],[8,9,10,11,27,28,29,30,31,32,33,34,35,36,37,41],[9],[]⟩ 0 (.seq (.region [
 oq 27 (.bin .int .lss (.t 26) (.t 25))] [] false)
    (.seq (.cond (.t 27)
     (.skip)
     (.exit 0))
    (.seq (.block 1 (.seq (.region [
 oq 28 (.mov (.t 26)),
 oq 29 (.ia 3 (.t 24) (.t 26)),
 oq 30 (.load (some 3) (.t 29)),
 oq 9 (.alloc [.string ⟨#[]⟩,.int .i64 0,.slice none 0 0]),
 oq 8 (.mov (.t 28)),
  ⟨none,.store 3 (.t 9) (.t 30),none,[]⟩] [] false)
    (.seq (.region [
 oq 32 (.load (some 3) (.t 9)),
 oq 33 (.call false [] 315 [(.t 32)]),
 oq 31 (.mov (.t 33)),
 oq 34 (.ext (.t 31) 0),
 oq 35 (.ext (.t 31) 1),
 oq 10 (.mov (.t 34)),
 oq 11 (.mov (.t 35))] [] false)
   (.seq (.region [
 oq 36 (.mov (.t 11)),
 oq 37 (.eqn false true (.t 36))] [] false)
   (.cond (.t 37)
    (.seq (.region [
 oq 38 (.mov (.t 8)),
 oq 39 (.mov (.t 10)),
 oq 40 (.mov (.t 11)),
 oq 2 (.mov (.t 38)),
 oq 3 (.mov (.t 39)),
 oq 4 (.mov (.t 40))] [] false)
   (.ret))
   (.skip))))))
    (.region [
 oq 41 (.bin .int .add (.t 26) (.c (.int .i64 1))),
 oq 26 (.mov (.t 41))] [] false))))))
  (.seq (.region [
 oq 2 (.mov (.c (.int .i64 (-1)))),
 oq 3 (.mov (.c (.int .i64 (-1)))),
 oq 4 (.mov (.c (.nilIface)))] [] false)
  (.ret))))
def tf320:TFunc:={ np:=1,nt:=42,res:=[.tmp 2,.tmp 3,.tmp 4],own:=false,body:=tc320 }
noncomputable def S320_L1 (F315:Dim→(Option (Int×Err))) (a0:(List Dim)) (x2:Int):Option (LR Int (Int×Int×Err)) :=
 br (decide (x2 < ((List.length a0:Nat):Int)))
 (bno (lookI a0 x2) fun y3 =>
 bno (F315 y3) fun y4 =>
 br (!(Err.isNil y4.2))
 (finO (some (x2,y4.1,y4.2)))
 (nxO (some (wi (x2+(1:Int))))))
 (dnO (some x2))
noncomputable def S320 (F14:(List Dim)→(Option (Int×Int×Err))) (F315:Dim→(Option (Int×Err))) (a0:(List Dim)):Option (Int×Int×Err) :=
 bno (F14 a0) fun y1 =>
 br (!(Err.isNil y1.2.2))
 (some (y1.1,y1.2.1,y1.2.2))
 (lp (S320_L1 F315 a0) (0:Int) fun x5 =>
 some ((-1:Int),(-1:Int),Err.nil))
theorem s320 (F14:(List Dim)→(Option (Int×Int×Err))) (F315:Dim→(Option (Int×Err))) (a0:(List Dim)):tf320.run [⟨14,[(.st .outl)],(.tp [.int,.int,.err]),fun x=>F14 x,false,[]⟩,
 ⟨315,[(.st .dim)],(.tp [.int,.err]),fun x=>F315 x,false,[]⟩] [(.st .outl)] (.tp [.int,.int,.err]) a0=S320 F14 F315 a0:=by kernel_rfl
noncomputable def P320 (a0:(List Dim)):Option (Int×Int×Err):=S320 P14 P315 a0
noncomputable def k320:CSpec:=⟨320,[(.st .outl)],(.tp [.int,.int,.err]),fun x=>P320 x,false,[]⟩
theorem r320 {S:Seat} (h:Ok1 S 320 tf320) (h14:Rt S k14) (h315:Rt S k315):Rt S k320:=fun x y hy =>
 Ok1.sound h (C:=[k14,k315]) (CSound.cons h14 (CSound.cons h315 CSound.nil)) rfl rfl rfl ((s320 P14 P315 x).trans hy) rfl
def tc352:TCode :=
 .seq (.region [
 oq 1 (.box (.t 0)),
 oq 2 (.mov (.c (.nilIface)))] [] false)
  (.seq (.region [
 oq 7 (.load (some 1) (.t 1)),
 oq 8 (.call false [] 320 [(.t 7)]),
 oq 6 (.mov (.t 8)),
 oq 9 (.ext (.t 6) 0),
 oq 10 (.ext (.t 6) 1),
 oq 11 (.ext (.t 6) 2),
 oq 3 (.mov (.t 9)),
 oq 4 (.mov (.t 10)),
 oq 5 (.mov (.t 11))] [] false)
  (.seq (.region [
 oq 12 (.mov (.t 5)),
 oq 2 (.mov (.t 12))] [] false)
  (.ret)))
def tf352:TFunc:={ np:=1,nt:=13,res:=[.tmp 2],own:=false,body:=tc352 }
noncomputable def S352 (F320:(List Dim)→(Option (Int×Int×Err))) (a0:(List Dim)):Option Err :=
 bno (F320 a0) fun y1 =>
 some y1.2.2
theorem s352 (F320:(List Dim)→(Option (Int×Int×Err))) (a0:(List Dim)):tf352.run [⟨320,[(.st .outl)],(.tp [.int,.int,.err]),fun x=>F320 x,false,[]⟩] [(.st .outl)] .err a0=S352 F320 a0:=by kernel_rfl
noncomputable def P352 (a0:(List Dim)):Option Err:=S352 P320 a0
noncomputable def k352:CSpec:=⟨352,[(.st .outl)],.err,fun x=>P352 x,false,[]⟩
theorem r352 {S:Seat} (h:Ok1 S 352 tf352) (h320:Rt S k320):Rt S k352:=fun x y hy =>
 Ok1.sound h (C:=[k320]) (CSound.cons h320 CSound.nil) rfl rfl rfl ((s352 P320 x).trans hy) rfl
end Ab
end
section
namespace Ab
open Go
set_option linter.unusedVariables false
set_option maxRecDepth 100000
def tc353:TCode :=
 .seq (.region [
 oq 2 (.box (.t 0)),
 oq 4 (.mov (.c (.int .i64 0)))] [] false)
  (.seq (.region [
 oq 5 (.mov (.c (.int .i64 (-1))))] [] false)
  (.seq (.seq (.region [
 oq 8 (.mov (.t 1)),
 oq 9 (.len false (.t 8)),
 oq 10 (.mov (.c (.int .i64 0)))] [] false)
  (.loop ⟨[.slot 5 .int,.slot 10 .int],[6,7,11,12,13,14,15,16,17,18,19,20,21,22,23,24,25,26,27,28,29,30,31,32,33,34,35,36,37,38,39,40,41,42,43],[],[]⟩ 0 (.seq (.region [
 oq 11 (.bin .int .lss (.t 10) (.t 9))] [] false)
    (.seq (.cond (.t 11)
     (.skip)
     (.exit 0))
    (.seq (.block 1 (.seq (.region [
 oq 12 (.mov (.t 10)),
 oq 13 (.ia 1 (.t 8) (.t 10)),
 oq 14 (.load none (.t 13)),
 oq 6 (.mov (.t 12)),
 oq 7 (.mov (.t 14))] [] false)
      (.seq (.regionJ ⟨[.slot 41 .bool],[15,16,17,18,19,20,21,22,23,24,25,26,27,28,29,30,31,32,33,34,35,36,37,38,39,40],[],[]⟩ [
 oq 15 (.fa 0 (.t 2)),
  ⟨some 16,.load none (.t 15),none,[0]⟩,
 oq 17 (.mov (.t 6)),
  ⟨some 18,.ia 3 (.t 16) (.t 17),none,[1,2]⟩,
  ⟨some 19,.load (some 3) (.t 18),none,[3]⟩,
 oq 20 (.mov (.t 7)),
  ⟨some 21,.call false [] 44 [(.t 19),(.t 20)],none,[4,5]⟩,
  ⟨some 22,.un .not (.t 21),none,[6]⟩,
  ⟨some 23,.mov (.t 22),none,[7,6]⟩,
  ⟨some 24,.mov (.t 5),(some (23,true)),[8]⟩,
  ⟨some 25,.bin .int .lss (.t 24) (.c (.int .i64 0)),(some (23,true)),[9,8]⟩,
  ⟨some 26,.mov (.t 25),(some (23,true)),[10,8,8]⟩,
  ⟨some 27,.fa 0 (.t 2),(some (26,false)),[11]⟩,
  ⟨some 28,.load none (.t 27),(some (26,false)),[12,11]⟩,
  ⟨some 29,.mov (.t 6),(some (26,false)),[11]⟩,
  ⟨some 30,.ia 3 (.t 28) (.t 29),(some (26,false)),[13,14,11]⟩,
  ⟨some 31,.fa 1 (.t 30),(some (26,false)),[15,11]⟩,
  ⟨some 32,.load none (.t 31),(some (26,false)),[16,11]⟩,
  ⟨some 33,.fa 0 (.t 2),(some (26,false)),[11]⟩,
  ⟨some 34,.load none (.t 33),(some (26,false)),[18,11]⟩,
  ⟨some 35,.mov (.t 5),(some (26,false)),[11]⟩,
  ⟨some 36,.ia 3 (.t 34) (.t 35),(some (26,false)),[19,20,11]⟩,
  ⟨some 37,.fa 1 (.t 36),(some (26,false)),[21,11]⟩,
  ⟨some 38,.load none (.t 37),(some (26,false)),[22,11]⟩,
  ⟨some 39,.bin .int .gtr (.t 32) (.t 38),(some (26,false)),[17,23,11]⟩,
  ⟨some 40,.pick (.t 26) (.c (.bool true)) (.t 39),(some (23,true)),[11,24,8]⟩,
  ⟨some 41,.pick (.t 23) (.t 40) (.c (.bool false)),none,[8,25]⟩] [] true)
    (.condJ ⟨[.slot 5 .int],[42],[],[]⟩ (.t 41)
     (.region [
 oq 42 (.mov (.t 6)),
 oq 5 (.mov (.t 42))] [] false)
   (.skip)))))
    (.region [
 oq 43 (.bin .int .add (.t 10) (.c (.int .i64 1))),
 oq 10 (.mov (.t 43))] [] false))))))
  (.seq (.region [
 oq 44 (.mov (.t 5)),
 oq 4 (.mov (.t 44))] [] false)
  (.ret))))
def tf353:TFunc:={ np:=2,nt:=45,res:=[.tmp 4],own:=false,body:=tc353 }
noncomputable def S353_L1 (F44:Dim→Int→(Option Bool)) (a0:(List Dim)) (a1:(List Int)) (x1:(Int×Int)):Option (LR (Int×Int) Int) :=
 br (decide (x1.2 < ((List.length a1:Nat):Int)))
 (bno (lookI a1 x1.2) fun y2 =>
 jn (σ:=Bool) (α:=(LR (Int×Int) Int)) (bno (lookI a0 x1.2) fun y3 =>
 bno (F44 y3 y2) fun y4 =>
 br (!y4)
 (br (decide (x1.1 < (0:Int)))
 (inlO (some true))
 (bno (lookI a0 x1.2) fun y5 =>
 bno (lookI a0 x1.1) fun y6 =>
 inlO (some (decide ((Dim.solve y6) < (Dim.solve y5))))))
 (inlO (some false))) fun x7 =>
 jn (σ:=Int) (α:=(LR (Int×Int) Int)) (br x7
 (inlO (some x1.2))
 (inlO (some x1.1))) fun x8 =>
 nxO (some (x8,wi (x1.2+(1:Int)))))
 (dnO (some (x1.1,x1.2)))
noncomputable def S353 (F44:Dim→Int→(Option Bool)) (a0:(List Dim)) (a1:(List Int)):Option Int :=
 lp (S353_L1 F44 a0 a1) ((-1:Int),(0:Int)) fun x9 =>
 some x9.1
theorem s353 (F44:Dim→Int→(Option Bool)) (a0:(List Dim)) (a1:(List Int)):tf353.run [⟨44,[(.st .dim),.int],.bool,fun x=>F44 x.1 x.2,false,[]⟩] [(.st .outl),(.sl .int)] .int (a0,a1)=S353 F44 a0 a1:=by kernel_rfl
noncomputable def P353 (a0:(List Dim)) (a1:(List Int)):Option Int:=S353 P44 a0 a1
noncomputable def k353:CSpec:=⟨353,[(.st .outl),(.sl .int)],.int,fun x=>P353 x.1 x.2,false,[]⟩
theorem r353 {S:Seat} (h:Ok1 S 353 tf353) (h44:Rt S k44):Rt S k353:=fun x y hy =>
 Ok1.sound h (C:=[k44]) (CSound.cons h44 CSound.nil) rfl rfl rfl ((s353 P44 x.1 x.2).trans hy) rfl
def tc331:TCode :=
 .seq (.region [
 oq 2 (.box (.t 0)),
 oq 4 (.mov (.c (.int .i64 0))),
 oq 5 (.mov (.c (.nilIface)))] [] false)
  (.seq (.seq (.region [
 oq 8 (.load (some 1) (.t 2)),
 oq 9 (.call false [] 352 [(.t 8)]),
 oq 6 (.mov (.t 9))] [] false)
  (.seq (.region [
 oq 10 (.mov (.t 6)),
 oq 11 (.eqn false true (.t 10))] [] false)
  (.cond (.t 11)
   (.seq (.region [
 oq 12 (.mov (.t 6)),
 oq 4 (.mov (.c (.int .i64 0))),
 oq 5 (.mov (.t 12))] [] false)
    (.ret))
    (.skip))))
  (.seq (.seq (.region [
 oq 13 (.load (some 1) (.t 2)),
 oq 14 (.mov (.t 1)),
 oq 15 (.call false [] 58 [(.t 13),(.t 14)]),
 oq 7 (.mov (.t 15))] [] false)
  (.seq (.region [
 oq 16 (.mov (.t 7)),
 oq 17 (.eqn false true (.t 16))] [] false)
  (.cond (.t 17)
   (.seq (.region [
 oq 18 (.mov (.t 7)),
 oq 4 (.mov (.c (.int .i64 0))),
 oq 5 (.mov (.t 18))] [] false)
    (.ret))
    (.skip))))
  (.seq (.region [
 oq 19 (.load (some 1) (.t 2)),
 oq 20 (.mov (.t 1)),
 oq 21 (.call false [] 353 [(.t 19),(.t 20)]),
 oq 4 (.mov (.t 21)),
 oq 5 (.mov (.c (.nilIface)))] [] false)
  (.ret))))
def tf331:TFunc:={ np:=2,nt:=22,res:=[.tmp 4,.tmp 5],own:=false,body:=tc331 }
noncomputable def S331 (F352:(List Dim)→(Option Err)) (F353:(List Dim)→(List Int)→(Option Int)) (F58:(List Dim)→(List Int)→(Option Err)) (a0:(List Dim)) (a1:(List Int)):Option (Int×Err) :=
 bno (F352 a0) fun y1 =>
 br (!(Err.isNil y1))
 (some ((0:Int),y1))
 (bno (F58 a0 a1) fun y2 =>
 br (!(Err.isNil y2))
 (some ((0:Int),y2))
 (bno (F353 a0 a1) fun y3 =>
 some (y3,Err.nil)))
theorem s331 (F352:(List Dim)→(Option Err)) (F353:(List Dim)→(List Int)→(Option Int)) (F58:(List Dim)→(List Int)→(Option Err)) (a0:(List Dim)) (a1:(List Int)):tf331.run [⟨352,[(.st .outl)],.err,fun x=>F352 x,false,[]⟩,
 ⟨353,[(.st .outl),(.sl .int)],.int,fun x=>F353 x.1 x.2,false,[]⟩,
 ⟨58,[(.st .outl),(.sl .int)],.err,fun x=>F58 x.1 x.2,false,[]⟩] [(.st .outl),(.sl .int)] (.tp [.int,.err]) (a0,a1)=S331 F352 F353 F58 a0 a1:=by kernel_rfl
noncomputable def P331 (a0:(List Dim)) (a1:(List Int)):Option (Int×Err):=S331 P352 P353 P58 a0 a1
noncomputable def k331:CSpec:=⟨331,[(.st .outl),(.sl .int)],(.tp [.int,.err]),fun x=>P331 x.1 x.2,false,[]⟩
theorem r331 {S:Seat} (h:Ok1 S 331 tf331) (h352:Rt S k352) (h353:Rt S k353) (h58:Rt S k58):Rt S k331:=fun x y hy =>
 Ok1.sound h (C:=[k352,k353,k58]) (CSound.cons h352 (CSound.cons h353 (CSound.cons h58 CSound.nil))) rfl rfl rfl ((s331 P352 P353 P58 x.1 x.2).trans hy) rfl
def tc349:TCode :=
 .seq (.region [
 oq 2 (.box (.t 0)),
 oq 4 (.mov (.c (.nilIface)))] [] false)
  (.seq (.seq (.region [
 oq 6 (.load (some 1) (.t 2)),
 oq 7 (.call false [] 352 [(.t 6)]),
 oq 5 (.mov (.t 7))] [] false)
  (.seq (.region [
 oq 8 (.mov (.t 5)),
 oq 9 (.eqn false true (.t 8))] [] false)
  (.cond (.t 9)
   (.seq (.region [
 oq 10 (.mov (.t 5)),
 oq 4 (.mov (.t 10))] [] false)
    (.ret))
    (.skip))))
  (.seq (.region [
 oq 11 (.load (some 1) (.t 2)),
 oq 12 (.mov (.t 1)),
 oq 13 (.call false [] 27 [(.t 11),(.t 12)]),
 oq 4 (.mov (.t 13))] [] false)
  (.ret)))
def tf349:TFunc:={ np:=2,nt:=14,res:=[.tmp 4],own:=false,body:=tc349 }
noncomputable def S349 (F27:(List Dim)→(List Entry)→(Option Err)) (F352:(List Dim)→(Option Err)) (a0:(List Dim)) (a1:(List Entry)):Option Err :=
 bno (F352 a0) fun y1 =>
 br (!(Err.isNil y1))
 (some y1)
 (bno (F27 a0 a1) fun y2 =>
 some y2)
theorem s349 (F27:(List Dim)→(List Entry)→(Option Err)) (F352:(List Dim)→(Option Err)) (a0:(List Dim)) (a1:(List Entry)):tf349.run [⟨27,[(.st .outl),(.sl .entry)],.err,fun x=>F27 x.1 x.2,false,[]⟩,
 ⟨352,[(.st .outl)],.err,fun x=>F352 x,false,[]⟩] [(.st .outl),(.sl .entry)] .err (a0,a1)=S349 F27 F352 a0 a1:=by kernel_rfl
noncomputable def P349 (a0:(List Dim)) (a1:(List Entry)):Option Err:=S349 P27 P352 a0 a1
noncomputable def k349:CSpec:=⟨349,[(.st .outl),(.sl .entry)],.err,fun x=>P349 x.1 x.2,false,[]⟩
theorem r349 {S:Seat} (h:Ok1 S 349 tf349) (h27:Rt S k27) (h352:Rt S k352):Rt S k349:=fun x y hy =>
 Ok1.sound h (C:=[k27,k352]) (CSound.cons h27 (CSound.cons h352 CSound.nil)) rfl rfl rfl ((s349 P27 P352 x.1 x.2).trans hy) rfl
end Ab
end
