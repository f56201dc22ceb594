import Derived.Test.YtchidgkpkhloeaaGreatDoorMLf
open List (getD_eq_getElem?_getD getElem?_eq_getElem length_map length_range length_set mem_cons mem_map mem_range)
open Nat (le_refl le_trans)
open Option (map_none map_some)
open Int (toNat_natCast)
set_option linter.unusedVariables false
set_option linter.unusedSimpArgs false
noncomputable section
namespace Ab
open Go
section
def RT (n:List (List Int)) (a b:Nat):Prop:=a=b∨Reach n a b
theorem RT.snoc {n:List (List Int)} {a b c:Nat} (h:RT n a b) (hc:c∈nd n b):RT n a c:=by
 rcases h with rfl | h
 ·exact .inr (.one hc)
 ·exact .inr (h.snoc hc)
theorem RT.cons {n:List (List Int)} {a b c:Nat} (hb:b∈nd n a) (h:RT n b c):RT n a c:=by
 rcases h with rfl | h
 ·exact .inr (.one hb)
 ·exact .inr (.more hb h)
theorem RT.closed {n:List (List Int)} {S:Nat->Prop} (hS:∀ j,S j->∀ k∈nd n j,S k) {a b:Nat} (h:RT n a b) (ha:S a):S b:=by
 rcases h with rfl | h
 ·exact ha
 ·exact zcd hS h (hS a ha)
theorem RT.back {n:List (List Int)} {S:Nat->Prop} (hS:∀ j k,k∈nd n j->S k->S j) {a b:Nat} (h:RT n a b) (hb:S b):S a:=by
 rcases h with rfl | h
 ·exact hb
 ·induction h with
  | one h=>exact hS _ _ h hb
  | more h _ ih=>exact hS _ _ h (ih hb)
theorem RT.lt {n:List (List Int)} (hr:Rng n) {a b:Nat} (h:RT n a b) (ha:a < n.length):b < n.length :=
 h.closed (S:=fun j=>j < n.length) (fun j _ k hk=>hr.nd hk) ha
theorem zeO {d:List Bool} {k:Nat} (hk:k < d.length) (j:Nat):(d.set k true).getD j false=true↔j=k∨d.getD j false=true:=by
 simp only[getD_eq_getElem?_getD,List.getElem?_set];by_cases hj:k=j
 ·subst hj;simp[hk]
 ·rw[if_neg hj];exact ⟨.inr,fun h=>h.elim (fun e=>absurd e.symm hj) id⟩
theorem zam {d:List Bool} {k:Nat} (hk:k < d.length):d[k]? = some (d.getD k false):=by rw[getD_eq_getElem?_getD,getElem?_eq_getElem hk];rfl
theorem zjf:∀ (d:List Bool) (i:Nat),d[i]? = some false->(d.set i true).count false+1=d.count false
 | [],i,h=>by simp at h
 | b :: d,0,h=>by
  simp only[List.getElem?_cons_zero,Option.some.injEq] at h;subst h;simp
 | b :: d,i+1,h=>by
  have:=zjf d i (by simpa using h);rw[List.set_cons_succ,List.count_cons,List.count_cons];omega
theorem lfN_ok {n:List (List Int)} (hr:Rng n) (lf:Nat->Bool) (a:Nat):∀ (f:Nat) (seen:List Bool) (out row:List Int),seen.length=n.length->(∀ k∈row,0<=k∧k < n.length∧RT n a k.toNat) ->
  (∀ j,seen.getD j false=true->RT n a j∧∀ k∈nd n j,seen.getD k false=true∨(k:Int)∈row)->(seen.getD a false=true∨(a:Int)∈row)->out.Nodup->(∀ x,x∈out↔∃ k:Nat,x=k∧seen.getD k false=true∧lf k=true) ->
  zaR n seen+row.length < f->∃ res,lfN n lf f seen out row=some res∧res.Nodup∧∀ x,x∈res↔∃ k:Nat,x=k∧RT n a k∧lf k=true
 | 0,_,_,_,_,_,_,_,_,_,h=>by omega
 | f+1,seen,out,[],hs,hk,hc,ha,hn,hm,h=>by
  refine ⟨out,rfl,hn,fun x=>(hm x).trans ?_⟩;have key:∀ k,RT n a k↔seen.getD k false=true:=fun k=>⟨fun h=>h.closed (S:=fun j=>seen.getD j false=true) (fun j hj k hk=>((hc j hj).2 k hk).elim id fun e=>by cases e) (ha.elim id fun e=>by cases e),fun h=>(hc k h).1⟩;simp only[key]
 | f+1,seen,out,k :: row,hs,hk,hc,ha,hn,hm,h=>by
  have hk0:=hk k (by simp);simp only[List.length_cons] at h;simp only[lfN];split
  ·rename_i e2;refine lfN_ok hr lf a f seen out row hs (fun x hx=>hk x (List.mem_cons_of_mem _ hx)) (fun j hj=>⟨(hc j hj).1,fun x hx => ?_⟩) ?_ hn hm (by omega)
   ·rcases (hc j hj).2 x hx with h1 | h1
    ·exact .inl h1
    ·rcases mem_cons.1 h1 with h1 | h1
     ·left;rw[← e2,← h1];simp
     ·exact .inr h1
   ·rcases ha with h1 | h1
    ·exact .inl h1
    ·rcases mem_cons.1 h1 with h1 | h1
     ·left;rw[← e2,← h1];simp
     ·exact .inr h1
  ·rename_i e2;have hkl:k.toNat < seen.length:=by omega
   have hg:=zeO hkl;have h2:=zbg (n:=n) hs (k:=k.toNat) (by omega) (Bool.eq_false_iff.2 e2);refine lfN_ok hr lf a f _ _ _ (by simpa using hs) (fun x hx => ?_) (fun j hj => ?_) ?_ ?_ (fun x => ?_) (by rw[List.length_append];omega)
   ·rcases List.mem_append.1 hx with hx | hx
    ·exact hk x (List.mem_cons_of_mem _ hx)
    ·have:=hr _ x hx;exact ⟨this.1,this.2,hk0.2.2.snoc (mem_map.2 ⟨x,hx,rfl⟩)⟩
   ·rcases (hg j).1 hj with rfl | hj
    ·refine ⟨hk0.2.2,fun x hx=>.inr ?_⟩;simp only[nd,mem_map] at hx;obtain ⟨y,hy,rfl⟩:=hx;have:=(hr _ y hy).1;rw[show ((y.toNat:Nat):Int)=y by omega];exact List.mem_append_right _ hy
    ·refine ⟨(hc j hj).1,fun x hx => ?_⟩;rcases (hc j hj).2 x hx with h1 | h1
     ·exact .inl ((hg x).2 (.inr h1))
     ·rcases mem_cons.1 h1 with h1 | h1
      ·left;exact (hg x).2 (.inl (by omega))
      ·exact .inr (List.mem_append_left _ h1)
   ·rcases ha with h1 | h1
    ·exact .inl ((hg a).2 (.inr h1))
    ·rcases mem_cons.1 h1 with h1 | h1
     ·left;exact (hg a).2 (.inl (by omega))
     ·exact .inr (List.mem_append_left _ h1)
   ·split
    ·refine List.pairwise_append.2 ⟨hn,by simp,fun x hx y hy e => ?_⟩;rw[List.mem_singleton] at hy;obtain ⟨j,hj,hj2,_⟩:=(hm x).1 hx;exact e2 (by rw[show k.toNat=j by omega];exact hj2)
    ·exact hn
   ·by_cases hlf:lf k.toNat=true
    ·rw[if_pos hlf,List.mem_append,hm,List.mem_singleton];constructor
     ·rintro (⟨j,h1,h2,h3⟩ | h1)
      ·exact ⟨j,h1,(hg j).2 (.inr h2),h3⟩
      ·exact ⟨k.toNat,by omega,(hg _).2 (.inl rfl),hlf⟩
     ·rintro ⟨j,h1,h2,h3⟩;rcases (hg j).1 h2 with rfl | h2
      ·exact .inr (by omega)
      ·exact .inl ⟨j,h1,h2,h3⟩
    ·rw[if_neg hlf,hm];constructor
     ·rintro ⟨j,h1,h2,h3⟩;exact ⟨j,h1,(hg j).2 (.inr h2),h3⟩
     ·rintro ⟨j,h1,h2,h3⟩;rcases (hg j).1 h2 with rfl | h2
      ·exact absurd h3 hlf
      ·exact ⟨j,h1,h2,h3⟩
section
variable {α:Type}
def Went (ag0:Bool) (d0:List Bool) (C:Prop) (ag:Bool) (d:List Bool):Prop:=(ag=ag0∧d=d0∧C)∨(ag=true∧d.count false < d0.count false)
theorem pass_loop {B:(Bool×Int×List Bool)->Option (LR (Bool×Int×List Bool) α)} {Inv:List Bool->Prop} {C:Nat->List Bool->Prop} (N:Nat)
  (h:∀ ag (i:Nat) d,i < N->Inv d->∃ ag' d',B (ag,(i:Int),d)=some (.nx (ag',((i+1:Nat):Int),d'))∧Inv d'∧Went ag d (C i d) ag' d')
  (hn:∀ ag d,Inv d->B (ag,(N:Int),d)=some (.dn (ag,(N:Int),d))) {d:List Bool} (hd:Inv d) :
  ∃ ag' d',lpO B (false,0,d)=some (.inl (ag',(N:Int),d'))∧Inv d'∧Went false d (∀ i,i < N->C i d) ag' d':=by
 have key:∀ m (i:Nat) ag d1,i+m=N->Inv d1->Went false d (∀ j,j < i->C j d) ag d1->∃ ag' d',lpO B (ag,(i:Int),d1)=some (.inl (ag',(N:Int),d'))∧Inv d'∧Went false d (∀ i,i < N->C i d) ag' d':=by
  intro m
  induction m with
  | zero =>
   intro i ag d1 hi h1 h2;obtain rfl:i=N:=by omega
   exact ⟨ag,d1,qw (hn ag d1 h1),h1,h2⟩
  | succ m ih =>
   intro i ag d1 hi h1 h2;obtain ⟨ag',d',hB,hI,hW⟩:=h ag i d1 (by omega) h1;rw[zci hB];refine ih (i+1) ag' d' (by omega) hI ?_;rcases h2 with ⟨rfl,rfl,hc⟩ | ⟨rfl,hlt⟩
   ·rcases hW with ⟨rfl,rfl,hc2⟩ | ⟨rfl,hlt2⟩
    ·refine .inl ⟨rfl,rfl,fun j hj => ?_⟩;by_cases e:j=i
     ·subst e;exact hc2
     ·exact hc j (by omega)
    ·exact .inr ⟨rfl,hlt2⟩
   ·rcases hW with ⟨rfl,rfl,_⟩ | ⟨rfl,hlt2⟩
    ·exact .inr ⟨rfl,hlt⟩
    ·exact .inr ⟨rfl,by omega⟩
 exact key N 0 false d (by omega) hd (.inl ⟨rfl,rfl,fun j hj=>by omega⟩)
theorem zkk {B:(Bool×List Bool)->Option (LR (Bool×List Bool) α)} {Inv C:List Bool->Prop}
  (h:∀ d,Inv d->∃ ag' d',B (true,d)=some (.nx (ag',d'))∧Inv d'∧Went false d (C d) ag' d')
  (hn:∀ d,B (false,d)=some (.dn (false,d))) {d:List Bool} (hd:Inv d):∃ d',lpO B (true,d)=some (.inl (false,d'))∧Inv d'∧C d':=by
 induction hm:d.count false using Nat.strongRecOn generalizing d with
 | _ m ih =>
  obtain ⟨ag',d',hB,hI,hW⟩:=h d hd;rw[zci hB];rcases hW with ⟨rfl,rfl,hc⟩ | ⟨rfl,hlt⟩
  ·exact ⟨d',qw (hn _),hI,hc⟩
  ·exact ih _ (by omega) hI rfl
theorem pick_loop {B:(List Int×Int)->Option (LR (List Int×Int) α)} (N:Nat) (f:Nat->Bool)
  (h:∀ (i:Nat) out,i < N->out.length<=i->B (out,(i:Int))=some (.nx (if f i=true then out++[(i:Int)] else out,((i+1:Nat):Int)))) (hn:∀ out,B (out,(N:Int))=some (.dn (out,(N:Int)))) :
  lpO B ([],0)=some (.inl (((List.range N).filter f).map fun (k:Nat)=>(k:Int),(N:Int))):=by
 have hs:=zU (B:=B) (fun i=>(((List.range i).filter f).map fun (k:Nat)=>(k:Int),(i:Int))) N (fun i hi=>by
  rw[h i _ hi (by rw[length_map];exact le_trans (List.length_filter_le ..) (by rw[length_range];exact le_refl _))];rw[List.range_succ,List.filter_append,List.map_append];by_cases e:f i=true
  ·rw[if_pos e];simp[e]
  ·rw[if_neg e];simp[e])
 exact hs.trans (qw (hn _))
end
end
section
theorem sort_set {l:List Int} (hn:l.Nodup) {m:List Int} (hm:m.Pairwise (· < ·)) (h:∀ x,x∈l↔x∈m):yN l=m:=by
 have hs:(yN l).Pairwise (·<=·):=zcS l;have hnd:(yN l).Nodup:=(List.mergeSort_perm l _).nodup_iff.2 hn;refine zcQ ?_ hm fun x=>by rw[sortI_mem];exact h x
 exact (hs.and hnd).imp fun {a b} h=>by have h1:=h.1;have h2:=h.2;omega
theorem zjT (N:Nat) (f:Nat->Bool):(((List.range N).filter f).map fun (k:Nat)=>(k:Int)).Pairwise (· < ·):=by rw[List.pairwise_map];exact (List.pairwise_lt_range.filter _).imp fun h=>by omega
theorem ze3 {N:Nat} {f:Nat->Bool} {x:Int}:x∈((List.range N).filter f).map (fun (k:Nat)=>(k:Int))↔∃ k:Nat,x=k∧k < N∧f k=true:=by simp only[mem_map,List.mem_filter,mem_range];exact ⟨fun ⟨k,⟨h1,h2⟩,h3⟩=>⟨k,h3.symm,h1,h2⟩,fun ⟨k,h1,h2,h3⟩=>⟨k,⟨h2,h3⟩,h1.symm⟩⟩
open Classical in
def zcj (o:List Dim) (a:Nat):List Int:=((List.range (sizeN o)).filter fun k=>decide (RT (ju o) a k) && jE o (qq o k).1).map fun (k:Nat)=>(k:Int)
open Classical in
def yB (o:List Dim) (at_:List Nat):List Int:=((List.range (sizeN o)).filter fun k=>decide (∃ a∈at_,RT (ju o) k a)).map fun (k:Nat)=>(k:Int)
section
variable {o:List Dim} (ok:CubeOk o)
include ok
theorem rngA:Rng (ju o):=zjk ok (by simp[ju]) zjn
theorem leafsN_eq {p:List Int} (hf:Fit o p):∃ out,zgF o p=some out∧yN out=zcj o (qA o p):=by
 have hA:(ju o).length=sizeN o:=by simp[ju]
 have hsm:=zeB ok hf;have hk:=yp hf;have hl:zgF o p=lfN (ju o) (fun k=>jE o (qq o k).1) 1000000 (List.replicate (ju o).length false) [] [((qA o p:Nat):Int)]:=by unfold zgF;rw[hA]
 have h30:zaR (ju o) (List.replicate (ju o).length false)<=622080:=by
  have key:∀ (l:List Nat) (f:Nat->Nat),(∀ x,f x<=30)->(l.map f).sum<=l.length * 30:=by
   intro l f hf
   induction l with
   | nil=>simp
   | cons a r ih=>have:=hf a;simp only[List.map_cons,List.sum_cons,List.length_cons];omega
  unfold zaR;refine le_trans (key _ _ fun x => ?_) (by rw[length_range];have:=hsm.len;omega);split
  ·omega
  ·exact hsm.rows x
 obtain ⟨res,h1,h2,h3⟩:=lfN_ok (rngA ok) (fun k=>jE o (qq o k).1) (qA o p) 1000000 (List.replicate (ju o).length false) [] [((qA o p:Nat):Int)] (by simp) (fun k hk'=>by
   rw[List.mem_singleton.1 hk'];exact ⟨by omega,by omega,.inl (by simp)⟩) (fun j hj=>by rw[za7] at hj;cases hj) (.inr (by simp)) .nil (fun x=>⟨fun h=>(by cases h),fun ⟨k,_,h,_⟩=>by rw[za7] at h;cases h⟩) (by simp only[List.length_singleton];omega)
 refine ⟨res,hl.trans h1,sort_set h2 (zjT _ _) fun x => ?_⟩;unfold zcj;rw[h3,ze3];constructor
 ·rintro ⟨k,e,hr,hp⟩;exact ⟨k,e,by have:=hr.lt (rngA ok) (by omega);omega,by simp only[Bool.and_eq_true,decide_eq_true_eq];exact ⟨hr,hp⟩⟩
 ·rintro ⟨k,e,_,hp⟩;simp only[Bool.and_eq_true,decide_eq_true_eq] at hp;exact ⟨k,e,hp⟩
end
section
variable {n:List (List Int)} (hr:Rng n) (hw:∀ i,(n.getD i []).length<=100000) {a:Nat}
include hr hw
end
section
variable {o:List Dim} (ok:CubeOk o)
include ok
end
end
section
theorem P346_eq {d:List Bool} {k:Int} (h0:0<=k) (h1:k < d.length):P346 k d=some (d.getD k.toNat false):=by obtain ⟨m,rfl⟩:∃ m:Nat,k=m:=⟨k.toNat,by omega⟩;simp only[P346,S346,zh,zam (show m < d.length by omega),zj,toNat_natCast]
theorem ziq {l:List Int} {d:List Bool} (h:∀ k∈l,0<=k∧k < d.length) (hl:l.length<=9223372036854775807):ww l d=some (l.any fun k=>d.getD k.toNat false):=by
 have:zf2 l d=some (idxOf (fun k=>d.getD k.toNat false) l):=by
  refine wO _ l (fun i y hy => ?_) (by simp[zaY]);have hi:=(List.getElem?_eq_some_iff.1 hy).1;obtain ⟨h0,h1⟩:=h y (List.mem_of_getElem? hy);have e:(((i:Nat):Int) < ((l.length:Nat):Int)):=by omega
  simp only[zaY,zh,hy,zj,e,decide_true,zl,P346_eq h0 h1];rw[jv (by omega) (by omega)];cases d.getD y.toNat false<;>rfl
 simp only[ww,zjp,this,zj];congr 1;exact zdG _ _
def DInv (n:List (List Int)) (xs:List Nat) (d:List Bool):Prop:=d.length=n.length∧(∀ a∈xs,d.getD a false=true)∧∀ j,d.getD j false=true->∃ a∈xs,RT n j a
def DClo (n:List (List Int)) (i:Nat) (d:List Bool):Prop:=(∃ k∈nd n i,d.getD k false=true)->d.getD i false=true
theorem DInv.set {n:List (List Int)} {xs:List Nat} {d:List Bool} (h:DInv n xs d) {i k:Nat} (hi:i < n.length) (hk:k∈nd n i) (hd:d.getD k false=true):DInv n xs (d.set i true):=by
 have hg:=zeO (d:=d) (k:=i) (by rw[h.1];exact hi);refine ⟨by rw[length_set];exact h.1,fun a ha=>(hg a).2 (.inr (h.2.1 a ha)),fun j hj => ?_⟩;rcases (hg j).1 hj with rfl | hj
 ·obtain ⟨a,h1,h2⟩:=h.2.2 k hd;exact ⟨a,h1,h2.cons hk⟩
 ·exact h.2.2 j hj
theorem DInv.end_ {n:List (List Int)} {xs:List Nat} {d:List Bool} (h:DInv n xs d) (hc:∀ i,i < n.length->DClo n i d) (j:Nat):d.getD j false=true↔∃ a∈xs,RT n j a:=by
 refine ⟨h.2.2 j,fun ⟨a,ha,hr⟩=>hr.back (S:=fun j=>d.getD j false=true) (fun i k hk hd => ?_) (h.2.1 a ha)⟩;by_cases hi:i < n.length
 ·exact hc i hi ⟨k,hk,hd⟩
 ·have:n.getD i []=[]:=by rw[getD_eq_getElem?_getD,List.getElem?_eq_none (by omega)];rfl
  unfold nd at hk;rw[this] at hk;cases hk
section
variable {n:List (List Int)} (hr:Rng n) (hw:∀ i,(n.getD i []).length<=100000) {xs:List Nat}
include hr hw
theorem dirt_loop {e:Err} (hn:n.length<=1000000) {d:List Bool} (hd:DInv n xs d):∃ d',lpO (zfV ww (n,e)) (true,d)=some (.inl (false,d'))∧d'.length=n.length∧∀ j,d'.getD j false=true↔∃ a∈xs,RT n j a:=by
 obtain ⟨d',h1,h2,h3⟩:=zkk (B:=zfV ww (n,e)) (Inv:=DInv n xs) (C:=fun d=>∀ i,i < n.length->DClo n i d) (fun d hd=>by
  obtain ⟨ag',d',hB,hI,hW⟩:=pass_loop (B:=zb0 ww (n,e)) (Inv:=DInv n xs) (C:=DClo n) n.length (fun ag i d hi hd=>by
   have hrow:=getElem?_eq_getElem hi;have hrow':n.getD i []=n[i]:=by rw[getD_eq_getElem?_getD,hrow];rfl
   have hlen:=hw i;rw[hrow'] at hlen;have hl1:=hd.1;have hdi:d[i]? = some (d.getD i false):=zam (by omega);have hcki:(0:Int)<=(i:Int)∧(i:Int) < ((d.length:Nat):Int):=by omega
   have e4:wi ((i:Int)+1)=((i+1:Nat):Int):=by rw[jv (by omega) (by omega)];omega
   have hany:=ziq (l:=n[i]) (d:=d) (fun k hk=>by have:=hr i k (by rw[hrow'];exact hk);omega) (by omega);cases hsi:d.getD i false with
   | true =>exact ⟨ag,d,by simp only[zb0];rw[zt,if_pos (by omega)];simp only[zh,hrow,zj,zw hcki,toNat_natCast,hdi,hsi,Bool.not_true,zg,zJ,q8,yG,e4],hd,.inl ⟨rfl,rfl,fun _=>hsi⟩⟩
   | false =>
    cases hs:(n[i]).any fun k=>d.getD k.toNat false with
    | false =>refine ⟨ag,d,by simp only[zb0];rw[zt,if_pos (by omega)];simp only[zh,hrow,zj,zw hcki,toNat_natCast,hdi,hsi,Bool.not_false,zl,hany,hs,zg,zJ,q8,yG,e4],hd,.inl ⟨rfl,rfl,fun ⟨k,hk,hdk⟩ => ?_⟩⟩;obtain ⟨x,hx,rfl⟩:=mem_map.1 hk;rw[hrow'] at hx;have:=List.any_eq_false.1 hs x hx;exact absurd hdk this
    | true =>
     obtain ⟨x,hx,hdx⟩:=List.any_eq_true.1 hs;refine ⟨true,d.set i true,by simp only[zb0];rw[zt,if_pos (by omega)];simp only[zh,hrow,zj,zw hcki,toNat_natCast,hdi,hsi,Bool.not_false,zl,hany,hs,zJ,q8,yG,e4],hd.set hi (mem_map.2 ⟨x,by rw[hrow'];exact hx,rfl⟩) hdx,.inr ⟨rfl, ?_⟩⟩;have hc:=zjf d i (by rw[hdi,hsi])
     omega) (fun ag d _=>by simp only[zb0];rw[zt,if_neg (by omega)];rfl) hd
  exact ⟨ag',d',by simp only[zfV,zl,jh,hB,q8,yG],hI,hW⟩) (fun d=>rfl) hd
 exact ⟨d',h1,h2.1,h2.end_ h3⟩
end
def marks (N:Nat) (xs:List Nat):List Bool:=xs.foldl (fun d a=>d.set a true) (List.replicate N false)
theorem zdc (N:Nat):∀ (xs:List Nat) (d:List Bool),d.length=N->(xs.foldl (fun d a=>d.set a true) d).length=N
 | [],d,h=>h
 | a :: xs,d,h=>zdc N xs _ (by rw[length_set];exact h)
theorem zgC {N:Nat}:∀ (xs:List Nat) (d:List Bool),d.length=N->(∀ a∈xs,a < N)->∀ j,(xs.foldl (fun d a=>d.set a true) d).getD j false=true↔j∈xs∨d.getD j false=true
 | [],d,h,_,j=>by simp
 | a :: xs,d,h,ha,j=>by
  rw[List.foldl_cons,zgC xs _ (by rw[length_set];exact h) (fun x hx=>ha x (List.mem_cons_of_mem _ hx)),zeO (by have:=ha a (by simp);omega),mem_cons];constructor
  ·rintro (h | h | h)
   ·exact .inl (.inr h)
   ·exact .inl (.inl h)
   ·exact .inr h
  ·rintro ((h | h) | h)
   ·exact .inr (.inl h)
   ·exact .inl h
   ·exact .inr (.inr h)
theorem marks_inv {n:List (List Int)} {xs:List Nat} (ha:∀ a∈xs,a < n.length):DInv n xs (marks n.length xs):=by
 have hg:=zgC (N:=n.length) xs (List.replicate n.length false) (by simp) ha;refine ⟨zdc _ _ _ (by simp),fun a h=>(hg a).2 (.inl h),fun j hj => ?_⟩;rcases (hg j).1 hj with h | h
 ·exact ⟨j,h,.inl rfl⟩
 ·rw[za7] at h;cases h
section
variable {o:List Dim} (ok:CubeOk o)
include ok
end
def atF (o:List Dim) (p:List Int):Int:=if ja o p=0 then (if jE o p=true then 0 else 6) else ja o p
def atE (o:List Dim) (ps:List (List Int)):Int:=match (List.range ps.length).findSome? fun i=>if atF o (ps.getD i [])=0 then none else some (atF o (ps.getD i [])) with | some e=>e | none=>0
theorem zfI {o:List Dim} {ps:List (List Int)}:atE o ps=0↔∀ p∈ps,atF o p=0:=by
 unfold atE;cases h:(List.range ps.length).findSome? fun i=>if atF o (ps.getD i [])=0 then none else some (atF o (ps.getD i [])) with
 | some e =>
  obtain ⟨i,hi,hr⟩:=List.exists_of_findSome?_eq_some h;have hi:=mem_range.1 hi;split at hr
  ·cases hr
  ·rename_i hne;cases hr;refine ⟨fun h=>absurd h hne,fun h=>absurd (h _ ?_) hne⟩;rw[getD_eq_getElem?_getD,getElem?_eq_getElem hi];exact List.getElem_mem hi
 | none =>
  refine ⟨fun _ p hp => ?_,fun _=>rfl⟩;obtain ⟨i,hi,rfl⟩:=List.mem_iff_getElem.1 hp;have:=List.findSome?_eq_none_iff.1 h i (mem_range.2 hi);rw[getD_eq_getElem?_getD,getElem?_eq_getElem hi] at this;by_cases e:atF o ps[i]=0
  ·exact e
  ·simp[e] at this
theorem atF_fit {o:List Dim} {p:List Int} (h:atF o p=0):Fit o p∧jE o p=true:=by
 unfold atF at h;split at h
 ·rename_i h1;refine ⟨q9.1 h1, ?_⟩;split at h
  ·rename_i h2;exact h2
  ·cases h
 ·rename_i h1;exact absurd h h1
section
variable {o:List Dim}
theorem P318_eq (ps:List (List Int)) (hl:ps.length<=9223372036854775807) (hp:∀ p∈ps,p.length<=9223372036854775807) :
  P318 o ps=some (if (zaD o).2.2=0 then (if atE o ps=0 then (yB o (ps.map (qA o)),.nil) else ([],zm (atE o ps))) else ([],zm (zaD o).2.2)):=by
 simp only[P318,S318,P344_eq,zj];rcases Classical.em (¬ (zaD o).2.2=0) with h | h
 ·rw[if_neg h,if_neg h];simp only[zB,decide_eq_false h,Bool.not_false,zl]
 replace h:=Classical.not_not.1 h;have ok:=je.1 h;obtain ⟨_,h2⟩:=ok.out.sizeN;have hol:=ok.out.len;have hA:(ju o).length=sizeN o:=by simp[ju]
 rw[if_pos h,if_pos h];have hck1:(0:Int)<=(((ju o).length:Nat):Int)∧(((ju o).length:Nat):Int)<=(((ju o).length:Nat):Int)∧(((ju o).length:Nat):Int)<=zH:=by unfold zH;omega
 have hfirst:=jx (B:=zfW P49 P58 P59 o ps) (fun i=>((i:Int),marks (ju o).length ((ps.take i).map (qA o)))) ps.length (fun i=>(if atF o (ps.getD i [])=0 then none else some (atF o (ps.getD i []))).map fun e=>(([]:List Int),zm e)) (d:=((ps.length:Int),marks (ju o).length ((ps.take ps.length).map (qA o)))) (fun i hi hbef=>by
  have hx:=getElem?_eq_getElem hi;have hgx:ps.getD i []=ps[i]:=by rw[getD_eq_getElem?_getD,hx];rfl
  have hpl:=hp _ (List.getElem_mem hi);have e4:wi ((i:Int)+1)=((i+1:Nat):Int):=by rw[jv (by omega) (by omega)];omega
  simp only[zfW];rw[zt,if_pos (by omega)];simp only[zh,hx,zj,zeF o _ hpl,zB,hgx];unfold atF;by_cases hf0:ja o ps[i]=0
  ·have hf:=q9.1 hf0;simp only[hf0,decide_true,Bool.not_true,zg,if_true,zjv hf hpl (fun d hd=>by have:=((ok.out.dims d hd).len);omega),zj];cases hlf:jE o ps[i] with
   | false =>simp only[Bool.not_false,zl];rfl
   | true =>
    have hml:(marks (ju o).length ((ps.take i).map (qA o))).length=(ju o).length:=zdc _ _ _ (by simp);have hk:=yp hf;have hg:=zam (d:=marks (ju o).length ((ps.take i).map (qA o))) (k:=qA o ps[i]) (by omega);have hmx:(ps.map (qA o))[i]? = some (qA o ps[i]):=by rw[List.getElem?_map,hx];rfl
    have e5:marks (ju o).length ((ps.take (i+1)).map (qA o))=(marks (ju o).length ((ps.take i).map (qA o))).set (qA o ps[i]) true:=(by unfold marks;rw[List.map_take,List.map_take,yU _ _ _ hmx]);simp only[Bool.not_true,zg,zhh hf.len hpl,zc5 ok.out hf,zj,if_true,map_none];rw[zw (show (0:Int)<=((qA o ps[i]:Nat):Int)∧((qA o ps[i]:Nat):Int) < (((marks (ju o).length ((ps.take i).map (qA o))).length:Nat):Int) by omega),toNat_natCast,hg,e5];simp only[zj,yG,e4]
  ·simp only[hf0,decide_false,Bool.not_false,zl,if_false,map_some]
   rfl) (fun _=>by simp only[zfW];rw[zt,if_neg (by omega)];rfl)
 rw[z6] at hfirst;have hst:((0:Int),List.replicate (ju o).length false)=(((0:Nat):Int),marks (ju o).length ((ps.take 0).map (qA o))):=rfl;simp only[qZ,Bool.not_true,zg,zw hck1,toNat_natCast];rw[jh,hst,hfirst];have hat:atE o ps=match (List.range ps.length).findSome? fun i=>if atF o (ps.getD i [])=0 then none else some (atF o (ps.getD i [])) with | some e=>e | none=>0:=rfl;cases hs:(List.range ps.length).findSome? fun i=>if atF o (ps.getD i [])=0 then none else some (atF o (ps.getD i [])) with
 | some e =>
  rw[hs] at hat;obtain ⟨i,hi,hr⟩:=List.exists_of_findSome?_eq_some hs;have hne:e≠0:=by
   split at hr
   ·cases hr
   ·rename_i hne;cases hr;exact hne
  simp only[map_some,jn_r];rw[hat,if_neg hne]
 | none =>
  rw[hs] at hat;have hz:=zfI.1 hat;rw[hat,if_pos rfl];simp only[map_none,q8];rw[List.take_length];obtain ⟨d,hB,hld,hd⟩:=dirt_loop (e:=.nil) (rngA ok) (allA_w ok) (by omega) (marks_inv (n:=ju o) (xs:=ps.map (qA o)) (fun a ha=>by
   obtain ⟨p,hp,rfl⟩:=mem_map.1 ha;rw[hA];exact yp (atF_fit (hz p hp)).1))
  have hlast:=pick_loop (B:=zfU (false,d)) (sizeN o) (fun k=>d.getD k false) (fun i out hi ho=>by
   have e4:wi ((i:Int)+1)=((i+1:Nat):Int):=by rw[jv (by omega) (by omega)];omega
   have hdi:d[i]? = some (d.getD i false):=zam (by omega);have hck:out.length+[(i:Int)].length<=zH:=by simp only[List.length_singleton];unfold zH;omega
   simp only[zfU];rw[zt,if_pos (by omega),zw (show (0:Int)<=(i:Int)∧(i:Int) < ((d.length:Nat):Int) by omega),toNat_natCast,hdi];cases d.getD i false<;>simp only[zj,zl,zg,zJ,q8,zw hck,yG,e4]<;>rfl) (fun out=>by simp only[zfU];rw[zt,if_neg (by omega)];rfl)
  simp only[jh,hB,q8,hlast];congr 3;refine List.filter_congr fun k hk => ?_;rw[Bool.eq_iff_iff];simp only[decide_eq_true_eq,hd]
end
theorem zj4 (o:List Dim) (a:Nat):(zcj o a).length<=sizeN o:=by unfold zcj;rw[length_map];exact le_trans (List.length_filter_le ..) (by rw[length_range];exact le_refl _)
theorem zkc (o:List Dim) (xs:List Nat):(yB o xs).length<=sizeN o:=by unfold yB;rw[length_map];exact le_trans (List.length_filter_le ..) (by rw[length_range];exact le_refl _)
theorem P317_eq (o:List Dim) (p:List Int) (hp:p.length<=9223372036854775807):P317 o p=some (if (zaD o).2.2=0 then (if ja o p=0 then (zcj o (qA o p),.nil) else ([],zm (ja o p))) else ([],zm (zaD o).2.2)):=by
 unfold P317;rw[if_pos hp];by_cases h:(zaD o).2.2=0
 ·rw[if_pos h,if_pos h];by_cases hf0:ja o p=0
  ·obtain ⟨out,h1,h2⟩:=leafsN_eq (je.1 h) (q9.1 hf0);rw[if_pos hf0,if_pos hf0,h1];simp only[h2]
  ·rw[if_neg hf0,if_neg hf0]
 ·rw[if_neg h,if_neg h]
end
end Ab
