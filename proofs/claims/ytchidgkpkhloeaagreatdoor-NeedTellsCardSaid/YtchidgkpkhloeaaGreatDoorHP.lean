import Derived.Test.YtchidgkpkhloeaaGreatDoorMLf
open List (filter_congr getD_eq_getElem?_getD getElem?_eq_getElem getElem_mem length_map length_range length_set length_singleton mem_cons mem_map mem_of_getElem? mem_range)
open Nat (le_refl le_trans)
open Option (map_none map_some)
open Int (toNat_natCast)
open Bool (and_eq_true)
set_option linter.unusedVariables false
set_option linter.unusedSimpArgs false
noncomputable section
namespace Ab
open Go
section
def RT (n:List (List Int)) (a b:Nat):Prop:=a=b∨Reach n a b
theorem RT.snoc {n:List (List Int)} {a b c:Nat} (h:RT n a b) (hc:c∈nd n b):RT n a c:=by
 rcases h with rfl | h
 ·exact .inr (.one hc)
 ·exact .inr (h.snoc hc)
theorem RT.cons {n:List (List Int)} {a b c:Nat} (hb:b∈nd n a) (h:RT n b c):RT n a c:=by
 rcases h with rfl | h
 ·exact .inr (.one hb)
 ·exact .inr (.more hb h)
theorem RT.closed {n:List (List Int)} {S:Nat->Prop} (hS:∀ j,S j->∀ k∈nd n j,S k) {a b:Nat} (h:RT n a b) (ha:S a):S b:=by
 rcases h with rfl | h
 ·exact ha
 ·exact wM hS h (hS a ha)
theorem RT.back {n:List (List Int)} {S:Nat->Prop} (hS:∀ j k,k∈nd n j->S k->S j) {a b:Nat} (h:RT n a b) (hb:S b):S a:=by
 rcases h with rfl | h
 ·exact hb
 ·induction h with
  | one h=>exact hS _ _ h hb
  | more h _ ih=>exact hS _ _ h (ih hb)
theorem RT.mono {n m:List (List Int)} (h:∀ i k,k∈nd n i->k∈nd m i) {a b:Nat} (hr:RT n a b):RT m a b:=by
 rcases hr with rfl | hr
 ·exact .inl rfl
 ·induction hr with
  | one h1=>exact .inr (.one (h _ _ h1))
  | more h1 _ ih=>exact .cons (h _ _ h1) ih
theorem RT.lt {n:List (List Int)} (hr:Rng n) {a b:Nat} (h:RT n a b) (ha:a < n.length):b < n.length :=
 h.closed (S:=fun j=>j < n.length) (fun j _ k hk=>hr.nd hk) ha
theorem za2 {d:List Bool} {k:Nat} (hk:k < d.length) (j:Nat):(d.set k true).getD j false=true↔j=k∨d.getD j false=true:=by
 simp only[getD_eq_getElem?_getD,List.getElem?_set];by_cases hj:k=j
 ·subst hj;simp[hk]
 ·rw[if_neg hj];exact ⟨.inr,fun h=>h.elim (fun e=>absurd e.symm hj) id⟩
theorem qy {d:List Bool} {k:Nat} (hk:k < d.length):d[k]? = some (d.getD k false):=by rw[getD_eq_getElem?_getD,getElem?_eq_getElem hk];rfl
theorem zcH:∀ (d:List Bool) (i:Nat),d[i]? = some false->(d.set i true).count false+1=d.count false
 | [],i,h=>by simp at h
 | b :: d,0,h=>by
  simp only[List.getElem?_cons_zero,Option.some.injEq] at h;subst h;simp
 | b :: d,i+1,h=>by
  have:=zcH d i (by simpa using h);rw[List.set_cons_succ,List.count_cons,List.count_cons];omega
theorem lfN_ok {n:List (List Int)} (hr:Rng n) (lf:Nat->Bool) (a:Nat):∀ (f:Nat) (seen:List Bool) (out row:List Int),seen.length=n.length->(∀ k∈row,0<=k∧k < n.length∧RT n a k.toNat) ->
  (∀ j,seen.getD j false=true->RT n a j∧∀ k∈nd n j,seen.getD k false=true∨(k:Int)∈row)->(seen.getD a false=true∨(a:Int)∈row)->out.Nodup->(∀ x,x∈out↔∃ k:Nat,x=k∧seen.getD k false=true∧lf k=true) ->
  zaM n seen+row.length < f->∃ res,lfN n lf f seen out row=some res∧res.Nodup∧∀ x,x∈res↔∃ k:Nat,x=k∧RT n a k∧lf k=true
 | 0,_,_,_,_,_,_,_,_,_,h=>by omega
 | f+1,seen,out,[],hs,hk,hc,ha,hn,hm,h=>by
  refine ⟨out,rfl,hn,fun x=>(hm x).trans ?_⟩;have key:∀ k,RT n a k↔seen.getD k false=true:=fun k=>⟨fun h=>h.closed (S:=fun j=>seen.getD j false=true) (fun j hj k hk=>((hc j hj).2 k hk).elim id fun e=>by cases e) (ha.elim id fun e=>by cases e),fun h=>(hc k h).1⟩;simp only[key]
 | f+1,seen,out,k :: row,hs,hk,hc,ha,hn,hm,h=>by
  have hk0:=hk k (by simp);simp only[List.length_cons] at h;simp only[lfN];split
  ·rename_i e2;refine lfN_ok hr lf a f seen out row hs (fun x hx=>hk x (List.mem_cons_of_mem _ hx)) (fun j hj=>⟨(hc j hj).1,fun x hx => ?_⟩) ?_ hn hm (by omega)
   ·rcases (hc j hj).2 x hx with h1 | h1
    ·exact .inl h1
    ·rcases mem_cons.1 h1 with h1 | h1
     ·left;rw[← e2,← h1];simp
     ·exact .inr h1
   ·rcases ha with h1 | h1
    ·exact .inl h1
    ·rcases mem_cons.1 h1 with h1 | h1
     ·left;rw[← e2,← h1];simp
     ·exact .inr h1
  ·rename_i e2;have hkl:k.toNat < seen.length:=by omega
   have hg:=za2 hkl;have h2:=zbd (n:=n) hs (k:=k.toNat) (by omega) (Bool.eq_false_iff.2 e2);refine lfN_ok hr lf a f _ _ _ (by simpa using hs) (fun x hx => ?_) (fun j hj => ?_) ?_ ?_ (fun x => ?_) (by rw[List.length_append];omega)
   ·rcases List.mem_append.1 hx with hx | hx
    ·exact hk x (List.mem_cons_of_mem _ hx)
    ·have:=hr _ x hx;exact ⟨this.1,this.2,hk0.2.2.snoc (mem_map.2 ⟨x,hx,rfl⟩)⟩
   ·rcases (hg j).1 hj with rfl | hj
    ·refine ⟨hk0.2.2,fun x hx=>.inr ?_⟩;simp only[nd,mem_map] at hx;obtain ⟨y,hy,rfl⟩:=hx;have:=(hr _ y hy).1;rw[show ((y.toNat:Nat):Int)=y by omega];exact List.mem_append_right _ hy
    ·refine ⟨(hc j hj).1,fun x hx => ?_⟩;rcases (hc j hj).2 x hx with h1 | h1
     ·exact .inl ((hg x).2 (.inr h1))
     ·rcases mem_cons.1 h1 with h1 | h1
      ·left;exact (hg x).2 (.inl (by omega))
      ·exact .inr (List.mem_append_left _ h1)
   ·rcases ha with h1 | h1
    ·exact .inl ((hg a).2 (.inr h1))
    ·rcases mem_cons.1 h1 with h1 | h1
     ·left;exact (hg a).2 (.inl (by omega))
     ·exact .inr (List.mem_append_left _ h1)
   ·split
    ·refine List.pairwise_append.2 ⟨hn,by simp,fun x hx y hy e => ?_⟩;rw[List.mem_singleton] at hy;obtain ⟨j,hj,hj2,_⟩:=(hm x).1 hx;exact e2 (by rw[show k.toNat=j by omega];exact hj2)
    ·exact hn
   ·by_cases hlf:lf k.toNat=true
    ·rw[if_pos hlf,List.mem_append,hm,List.mem_singleton];constructor
     ·rintro (⟨j,h1,h2,h3⟩ | h1)
      ·exact ⟨j,h1,(hg j).2 (.inr h2),h3⟩
      ·exact ⟨k.toNat,by omega,(hg _).2 (.inl rfl),hlf⟩
     ·rintro ⟨j,h1,h2,h3⟩;rcases (hg j).1 h2 with rfl | h2
      ·exact .inr (by omega)
      ·exact .inl ⟨j,h1,h2,h3⟩
    ·rw[if_neg hlf,hm];constructor
     ·rintro ⟨j,h1,h2,h3⟩;exact ⟨j,h1,(hg j).2 (.inr h2),h3⟩
     ·rintro ⟨j,h1,h2,h3⟩;rcases (hg j).1 h2 with rfl | h2
      ·exact absurd h3 hlf
      ·exact ⟨j,h1,h2,h3⟩
section
variable {α:Type}
def Went (ag0:Bool) (d0:List Bool) (C:Prop) (ag:Bool) (d:List Bool):Prop:=(ag=ag0∧d=d0∧C)∨(ag=true∧d.count false < d0.count false)
theorem zcY {B:(Bool×Int×List Bool)->Option (LR (Bool×Int×List Bool) α)} {Inv:List Bool->Prop} {C:Nat->List Bool->Prop} (N:Nat)
  (h:∀ ag (i:Nat) d,i < N->Inv d->∃ ag' d',B (ag,(i:Int),d)=some (.nx (ag',((i+1:Nat):Int),d'))∧Inv d'∧Went ag d (C i d) ag' d')
  (hn:∀ ag d,Inv d->B (ag,(N:Int),d)=some (.dn (ag,(N:Int),d))) {d:List Bool} (hd:Inv d) :
  ∃ ag' d',lpO B (false,0,d)=some (.inl (ag',(N:Int),d'))∧Inv d'∧Went false d (∀ i,i < N->C i d) ag' d':=by
 have key:∀ m (i:Nat) ag d1,i+m=N->Inv d1->Went false d (∀ j,j < i->C j d) ag d1->∃ ag' d',lpO B (ag,(i:Int),d1)=some (.inl (ag',(N:Int),d'))∧Inv d'∧Went false d (∀ i,i < N->C i d) ag' d':=by
  intro m
  induction m with
  | zero =>
   intro i ag d1 hi h1 h2;obtain rfl:i=N:=by omega
   exact ⟨ag,d1,zS (hn ag d1 h1),h1,h2⟩
  | succ m ih =>
   intro i ag d1 hi h1 h2;obtain ⟨ag',d',hB,hI,hW⟩:=h ag i d1 (by omega) h1;rw[wu hB];refine ih (i+1) ag' d' (by omega) hI ?_;rcases h2 with ⟨rfl,rfl,hc⟩ | ⟨rfl,hlt⟩
   ·rcases hW with ⟨rfl,rfl,hc2⟩ | ⟨rfl,hlt2⟩
    ·refine .inl ⟨rfl,rfl,fun j hj => ?_⟩;by_cases e:j=i
     ·subst e;exact hc2
     ·exact hc j (by omega)
    ·exact .inr ⟨rfl,hlt2⟩
   ·rcases hW with ⟨rfl,rfl,_⟩ | ⟨rfl,hlt2⟩
    ·exact .inr ⟨rfl,hlt⟩
    ·exact .inr ⟨rfl,by omega⟩
 exact key N 0 false d (by omega) hd (.inl ⟨rfl,rfl,fun j hj=>by omega⟩)
theorem zb0 {B:(Bool×List Bool)->Option (LR (Bool×List Bool) α)} {Inv C:List Bool->Prop}
  (h:∀ d,Inv d->∃ ag' d',B (true,d)=some (.nx (ag',d'))∧Inv d'∧Went false d (C d) ag' d')
  (hn:∀ d,B (false,d)=some (.dn (false,d))) {d:List Bool} (hd:Inv d):∃ d',lpO B (true,d)=some (.inl (false,d'))∧Inv d'∧C d':=by
 induction hm:d.count false using Nat.strongRecOn generalizing d with
 | _ m ih =>
  obtain ⟨ag',d',hB,hI,hW⟩:=h d hd;rw[wu hB];rcases hW with ⟨rfl,rfl,hc⟩ | ⟨rfl,hlt⟩
  ·exact ⟨d',zS (hn _),hI,hc⟩
  ·exact ih _ (by omega) hI rfl
theorem zcX {B:(List Int×Int)->Option (LR (List Int×Int) α)} (N:Nat) (f:Nat->Bool)
  (h:∀ (i:Nat) out,i < N->out.length<=i->B (out,(i:Int))=some (.nx (if f i=true then out++[(i:Int)] else out,((i+1:Nat):Int)))) (hn:∀ out,B (out,(N:Int))=some (.dn (out,(N:Int)))) :
  lpO B ([],0)=some (.inl (((List.range N).filter f).map fun (k:Nat)=>(k:Int),(N:Int))):=by
 have hs:=zR (B:=B) (fun i=>(((List.range i).filter f).map fun (k:Nat)=>(k:Int),(i:Int))) N (fun i hi=>by
  rw[h i _ hi (by rw[length_map];exact le_trans (List.length_filter_le ..) (by rw[length_range];exact le_refl _))];rw[List.range_succ,List.filter_append,List.map_append];by_cases e:f i=true
  ·rw[if_pos e];simp[e]
  ·rw[if_neg e];simp[e])
 exact hs.trans (zS (hn _))
end
end
section
theorem zii {l:List Int} (hn:l.Nodup) {m:List Int} (hm:m.Pairwise (· < ·)) (h:∀ x,x∈l↔x∈m):jA l=m:=by
 have hs:(jA l).Pairwise (·<=·):=zcQ l;have hnd:(jA l).Nodup:=(List.mergeSort_perm l _).nodup_iff.2 hn;refine zaF ?_ hm fun x=>by rw[sortI_mem];exact h x
 exact (hs.and hnd).imp fun {a b} h=>by have h1:=h.1;have h2:=h.2;omega
theorem zjr (N:Nat) (f:Nat->Bool):(((List.range N).filter f).map fun (k:Nat)=>(k:Int)).Pairwise (· < ·):=by rw[List.pairwise_map];exact (List.pairwise_lt_range.filter _).imp fun h=>by omega
theorem pick_mem {N:Nat} {f:Nat->Bool} {x:Int}:x∈((List.range N).filter f).map (fun (k:Nat)=>(k:Int))↔∃ k:Nat,x=k∧k < N∧f k=true:=by simp only[mem_map,List.mem_filter,mem_range];exact ⟨fun ⟨k,⟨h1,h2⟩,h3⟩=>⟨k,h3.symm,h1,h2⟩,fun ⟨k,h1,h2,h3⟩=>⟨k,⟨h2,h3⟩,h1.symm⟩⟩
theorem nd_of {n:List (List Int)} {i j:Nat} {x:Int} (hi:(n.getD i [])[j]? = some x):x.toNat∈nd n i:=mem_map.2 ⟨x,mem_of_getElem? hi,rfl⟩
theorem nd_all {n:List (List Int)} {i:Nat} {P:Nat->Prop} (h:∀ j,j < (n.getD i []).length->∀ x,(n.getD i [])[j]? = some x->P x.toNat):∀ k∈nd n i,P k:=fun k hk=>by
 obtain ⟨x,hx,rfl⟩:=mem_map.1 hk;obtain ⟨j,hj,e⟩:=List.mem_iff_getElem.1 hx;exact h j hj x (by rw[← e];exact getElem?_eq_getElem hj)
open Classical in
def zci (o:List Dim) (a:Nat):List Int:=((List.range (sizeN o)).filter fun k=>decide (RT (jV o) a k) && wy o (qL o k).1).map fun (k:Nat)=>(k:Int)
open Classical in
def zdj (o:List Dim) (at_:List Nat):List Int:=((List.range (sizeN o)).filter fun k=>decide (∃ a∈at_,RT (jV o) k a)).map fun (k:Nat)=>(k:Int)
section
variable {o:List Dim} (ok:CubeOk o)
include ok
theorem rngA:Rng (jV o):=zfq ok (by simp[jV]) ziV
theorem rngT:Rng (yX o):=zfq ok (by simp[yX]) allT_mem
theorem leafsN_eq {p:List Int} (hf:Fit o p):∃ out,zgq o p=some out∧jA out=zci o (qE o p):=by
 have hA:(jV o).length=sizeN o:=by simp[jV]
 have hsm:=zeB ok hf;have hk:=zaz hf;have hl:zgq o p=lfN (jV o) (fun k=>wy o (qL o k).1) 1000000 (List.replicate (jV o).length false) [] [((qE o p:Nat):Int)]:=by unfold zgq;rw[hA]
 have h30:zaM (jV o) (List.replicate (jV o).length false)<=622080:=by
  have key:∀ (l:List Nat) (f:Nat->Nat),(∀ x,f x<=30)->(l.map f).sum<=l.length * 30:=by
   intro l f hf
   induction l with
   | nil=>simp
   | cons a r ih=>have:=hf a;simp only[List.map_cons,List.sum_cons,List.length_cons];omega
  unfold zaM;refine le_trans (key _ _ fun x => ?_) (by rw[length_range];have:=hsm.len;omega);split
  ·omega
  ·exact hsm.rows x
 obtain ⟨res,h1,h2,h3⟩:=lfN_ok (rngA ok) (fun k=>wy o (qL o k).1) (qE o p) 1000000 (List.replicate (jV o).length false) [] [((qE o p:Nat):Int)] (by simp) (fun k hk'=>by
   rw[List.mem_singleton.1 hk'];exact ⟨by omega,by omega,.inl (by simp)⟩) (fun j hj=>by rw[wJ] at hj;cases hj) (.inr (by simp)) .nil (fun x=>⟨fun h=>(by cases h),fun ⟨k,_,h,_⟩=>by rw[wJ] at h;cases h⟩) (by simp only[length_singleton];omega)
 refine ⟨res,hl.trans h1,zii h2 (zjr _ _) fun x => ?_⟩;unfold zci;rw[h3,pick_mem];constructor
 ·rintro ⟨k,e,hr,hp⟩;exact ⟨k,e,by have:=hr.lt (rngA ok) (by omega);omega,by simp only[and_eq_true,decide_eq_true_eq];exact ⟨hr,hp⟩⟩
 ·rintro ⟨k,e,_,hp⟩;simp only[and_eq_true,decide_eq_true_eq] at hp;exact ⟨k,e,hp⟩
end
section
variable {n:List (List Int)} (hr:Rng n) (hw:∀ i,(n.getD i []).length<=100000) {a:Nat}
include hr hw
theorem zhP {i:Nat} {row:List Int} (hrow:n[i]? = some row) (ag:Bool) {d:List Bool} (hd:d.length=n.length∧d.getD a false=true∧∀ j,d.getD j false=true->RT n a j) :
  ∃ ag' k' d',lpO (zaV n (ag,(i:Int),d)) (ag,0,d)=some (.inl (ag',k',d'))∧(d'.length=n.length∧d'.getD a false=true∧∀ j,d'.getD j false=true->RT n a j)∧Went ag d (d.getD i false=true->∀ k∈nd n i,d.getD k false=true) ag' d':=by
 have hi:i < n.length:=(List.getElem?_eq_some_iff.1 hrow).1;have hrow':n.getD i []=row:=by rw[getD_eq_getElem?_getD,hrow];rfl
 have hlen:=hw i;rw[hrow'] at hlen
 have key:∀ m (k:Nat) ag1 d1,k+m=row.length->(d1.length=n.length∧d1.getD a false=true∧∀ j,d1.getD j false=true->RT n a j)->Went ag d (d.getD i false=true->∀ j,j < k->∀ x,row[j]? = some x->d.getD x.toNat false=true) ag1 d1 ->
   ∃ ag' k' d',lpO (zaV n (ag,(i:Int),d)) (ag1,(k:Int),d1)=some (.inl (ag',k',d'))∧(d'.length=n.length∧d'.getD a false=true∧∀ j,d'.getD j false=true->RT n a j)∧Went ag d (d.getD i false=true->∀ k∈nd n i,d.getD k false=true) ag' d':=by
  intro m
  induction m with
  | zero =>
   intro k ag1 d1 hk h1 h2;refine ⟨ag1,k,d1,zS (by simp only[zaV,zd,hrow,zl];rw[zj,if_neg (by omega)];rfl),h1, ?_⟩;rcases h2 with ⟨e1,e2,hc⟩ | h2
   ·refine .inl ⟨e1,e2,fun hsi=>nd_all fun j hj x hx => ?_⟩;rw[hrow'] at hj hx;exact hc hsi j (by omega) x hx
   ·exact .inr h2
  | succ m ih =>
   intro k ag1 d1 hk h1 h2;have hdi:d1[i]? = some (d1.getD i false):=qy (by omega);have e4:wi ((k:Int)+1)=((k+1:Nat):Int):=by rw[qV (by omega) (by omega)];omega
   cases hsi:d1.getD i false with
   | false =>
    refine ⟨ag1,k,d1,zS (by simp only[zaV,zd,hrow,zl];rw[zj,if_pos (by omega),zp (by omega),toNat_natCast,hdi,hsi];rfl),h1, ?_⟩;rcases h2 with ⟨e1,rfl,hc⟩ | h2
    ·exact .inl ⟨e1,rfl,fun e=>by rw[hsi] at e;cases e⟩
    ·exact .inr h2
   | true =>
    have hxk:=getElem?_eq_getElem (l:=row) (i:=k) (by omega);generalize row[k]=x at hxk;have hx:=hr i x (by rw[hrow'];exact mem_of_getElem? hxk);have hxm:x.toNat∈nd n i:=nd_of (by rw[hrow'];exact hxk);have hdx:d1[x.toNat]? = some (d1.getD x.toNat false):=qy (by omega);have hck:0<=x∧x < ((d1.length:Nat):Int):=by omega
    cases hsx:d1.getD x.toNat false with
    | true =>
     rw[wu (y:=(ag1,((k+1:Nat):Int),d1)) (by simp only[zaV,zd,hrow,zl];rw[zj,if_pos (by omega),zp (by omega),toNat_natCast,hdi,hsi];simp only[zl,zD,qG,zn,hxk,zp hck,hdx,hsx,Bool.not_true,zk,qB,e4])];refine ih (k+1) ag1 d1 (by omega) h1 ?_;rcases h2 with ⟨e1,rfl,hc⟩ | h2
     ·refine .inl ⟨e1,rfl,fun hs j hj y hy => ?_⟩;by_cases e:j=k
      ·subst e;rw[hxk] at hy;cases hy;exact hsx
      ·exact hc hs j (by omega) y hy
     ·exact .inr h2
    | false =>
     rw[wu (y:=(true,((k+1:Nat):Int),d1.set x.toNat true)) (by simp only[zaV,zd,hrow,zl];rw[zj,if_pos (by omega),zp (by omega),toNat_natCast,hdi,hsi];simp only[zl,zD,qG,zn,hxk,zp hck,hdx,hsx,Bool.not_false,qB,e4])];have hg:=za2 (d:=d1) (k:=x.toNat) (by omega);refine ih (k+1) true _ (by omega) ⟨by rw[length_set];exact h1.1,(hg _).2 (.inr h1.2.1),fun j hj => ?_⟩ ?_
     ·rcases (hg j).1 hj with rfl | hj
      ·exact (h1.2.2 i hsi).snoc hxm
      ·exact h1.2.2 j hj
     ·have hc:=zcH d1 x.toNat (by rw[hdx,hsx]);rcases h2 with ⟨_,rfl,_⟩ | ⟨_,h2⟩
      ·exact .inr ⟨rfl,by omega⟩
      ·exact .inr ⟨rfl,by omega⟩
 exact key row.length 0 ag d (by omega) hd (.inl ⟨rfl,rfl,fun _ j hj=>by omega⟩)
theorem zjP (hn:n.length<=1000000) (ha:a < n.length):∃ d,lpO (zfG n) (true,(List.replicate n.length false).set a true)=some (.inl (false,d))∧d.length=n.length∧∀ j,d.getD j false=true↔RT n a j:=by
 obtain ⟨d,h1,h2,h3⟩:=zb0 (B:=zfG n) (Inv:=fun d=>d.length=n.length∧d.getD a false=true∧∀ j,d.getD j false=true->RT n a j) (C:=fun d=>∀ i,i < n.length->d.getD i false=true->∀ k∈nd n i,d.getD k false=true) (fun d hd=>by
  obtain ⟨ag',d',hB,hI,hW⟩:=zcY (B:=zfH n) (Inv:=fun d=>d.length=n.length∧d.getD a false=true∧∀ j,d.getD j false=true->RT n a j) (C:=fun i d=>d.getD i false=true->∀ k∈nd n i,d.getD k false=true) n.length (fun ag i d hi hd=>by
   have hrow:=getElem?_eq_getElem hi;obtain ⟨ag',k',d',hB,hI,hW⟩:=zhP hr hw hrow ag hd;have e4:wi ((i:Int)+1)=((i+1:Nat):Int):=by rw[qV (by omega) (by omega)];omega
   exact ⟨ag',d',by simp only[zfH];rw[zj,if_pos (by omega),qx,hB];simp only[qG,qB,e4],hI,hW⟩) (fun ag d _=>by simp only[zfH];rw[zj,if_neg (by omega)];rfl) hd
  exact ⟨ag',d',by simp only[zfG,zn,qx,hB,qG,qB],hI,hW⟩) (fun d=>rfl) (d:=(List.replicate n.length false).set a true) (by
   have hg:=za2 (d:=List.replicate n.length false) (k:=a) (by simpa using ha);exact ⟨by simp,(hg _).2 (.inl rfl),fun j hj=>by
    rcases (hg j).1 hj with rfl | hj
    ·exact .inl rfl
    ·rw[wJ] at hj;cases hj⟩)
 refine ⟨d,h1,h2.1,fun j=>⟨h2.2.2 j,fun h=>(h.closed (S:=fun j=>j < n.length∧d.getD j false=true) (fun j hj k hk=>⟨hr.nd hk,h3 j hj.1 hj.2 k hk⟩) ⟨ha,h2.2.1⟩).2⟩⟩
end
section
variable {o:List Dim} (ok:CubeOk o)
include ok
omit ok in
theorem RT_same {a b:Nat}:RT (yX o) a b↔RT (jV o) a b:=⟨RT.mono fun i k=>(ziU i k).2,RT.mono fun i k=>(ziU i k).1⟩
theorem P327_eq {p:List Int} (hf:Fit o p):P327 o p=some (zci o (qE o p)):=by
 obtain ⟨_,h2⟩:=ok.out.sizeN;have hol:=ok.out.len;have hT:(yX o).length=sizeN o:=by simp[yX]
 have hk:=zaz hf;obtain ⟨d,hB,hl,hd⟩:=zjP (rngT ok) (allT_w ok) (by omega) (a:=qE o p) (by omega);have hck1:(0:Int)<=(((yX o).length:Nat):Int)∧(((yX o).length:Nat):Int)<=(((yX o).length:Nat):Int)∧(((yX o).length:Nat):Int)<=zA:=by unfold zA;omega
 have hck2:(0:Int)<=((qE o p:Nat):Int)∧((qE o p:Nat):Int) < (((List.replicate (yX o).length false).length:Nat):Int):=by rw[List.length_replicate];omega
 have hrep:(List.replicate (yX o).length false)[qE o p]? = some false:=by rw[List.getElem?_replicate,if_pos (by omega)]
 have hlast:=zcX (B:=zfF P130 P142 o (false,d)) (sizeN o) (fun k=>d.getD k false && wy o (qL o k).1) (fun i out hi ho=>by
  have e4:wi ((i:Int)+1)=((i+1:Nat):Int):=by rw[qV (by omega) (by omega)];omega
  have hfi:Fit o (qL o i).1:=zal ok.out i;have hdi:d[i]? = some (d.getD i false):=qy (by omega);simp only[zfF];rw[zj,if_pos (by omega)];simp only[P142_eq o i (by omega) (by omega) (fun d hd=>⟨((ok.out.dims d hd).len).1,by have:=((ok.out.dims d hd).len);omega⟩),zl,P130_eq hfi (by rw[hfi.len];omega) (fun d hd=>by have:=((ok.out.dims d hd).len);omega)];rw[zp (show (0:Int)<=(i:Int)∧(i:Int) < ((d.length:Nat):Int) by omega),toNat_natCast,hdi];have hck:out.length+[(i:Int)].length<=zA:=by simp only[length_singleton];unfold zA;omega
  cases d.getD i false<;>cases wy o (qL o i).1<;>simp only[zl,zn,zk,zD,qG,zp hck,qB,e4,Bool.and_true,Bool.and_false,Bool.true_and,Bool.false_and]<;>rfl) (fun out=>by simp only[zfF];rw[zj,if_neg (by omega)];rfl)
 simp only[P327,S327,P338_eq ok,zl,zp hck1,zh7 ok.out hf,toNat_natCast,zp hck2,hrep,qx,hB,qG,hlast];congr 2;refine filter_congr fun k hk => ?_;rw[Bool.eq_iff_iff];simp only[and_eq_true,decide_eq_true_eq,hd,RT_same]
end
end
section
theorem P346_eq {d:List Bool} {k:Int} (h0:0<=k) (h1:k < d.length):P346 k d=some (d.getD k.toNat false):=by obtain ⟨m,rfl⟩:∃ m:Nat,k=m:=⟨k.toNat,by omega⟩;simp only[P346,S346,zd,qy (show m < d.length by omega),zl,toNat_natCast]
theorem zh3 {l:List Int} {d:List Bool} (h:∀ k∈l,0<=k∧k < d.length) (hl:l.length<=9223372036854775807):ws l d=some (l.any fun k=>d.getD k.toNat false):=by
 have:zfV l d=some (idxOf (fun k=>d.getD k.toNat false) l):=by
  refine yU _ l (fun i y hy => ?_) (by simp[zaT]);have hi:=(List.getElem?_eq_some_iff.1 hy).1;obtain ⟨h0,h1⟩:=h y (mem_of_getElem? hy);have e:(((i:Nat):Int) < ((l.length:Nat):Int)):=by omega
  simp only[zaT,zd,hy,zl,e,decide_true,zn,P346_eq h0 h1];rw[qV (by omega) (by omega)];cases d.getD y.toNat false<;>rfl
 simp only[ws,ziZ,this,zl];congr 1;exact zdC _ _
def zg6 (n:List (List Int)) (xs:List Nat) (d:List Bool):Prop:=d.length=n.length∧(∀ a∈xs,d.getD a false=true)∧∀ j,d.getD j false=true->∃ a∈xs,RT n j a
def DClo (n:List (List Int)) (i:Nat) (d:List Bool):Prop:=(∃ k∈nd n i,d.getD k false=true)->d.getD i false=true
theorem zg6.set {n:List (List Int)} {xs:List Nat} {d:List Bool} (h:zg6 n xs d) {i k:Nat} (hi:i < n.length) (hk:k∈nd n i) (hd:d.getD k false=true):zg6 n xs (d.set i true):=by
 have hg:=za2 (d:=d) (k:=i) (by rw[h.1];exact hi);refine ⟨by rw[length_set];exact h.1,fun a ha=>(hg a).2 (.inr (h.2.1 a ha)),fun j hj => ?_⟩;rcases (hg j).1 hj with rfl | hj
 ·obtain ⟨a,h1,h2⟩:=h.2.2 k hd;exact ⟨a,h1,h2.cons hk⟩
 ·exact h.2.2 j hj
theorem zg6.end_ {n:List (List Int)} {xs:List Nat} {d:List Bool} (h:zg6 n xs d) (hc:∀ i,i < n.length->DClo n i d) (j:Nat):d.getD j false=true↔∃ a∈xs,RT n j a:=by
 refine ⟨h.2.2 j,fun ⟨a,ha,hr⟩=>hr.back (S:=fun j=>d.getD j false=true) (fun i k hk hd => ?_) (h.2.1 a ha)⟩;by_cases hi:i < n.length
 ·exact hc i hi ⟨k,hk,hd⟩
 ·have:n.getD i []=[]:=by rw[getD_eq_getElem?_getD,List.getElem?_eq_none (by omega)];rfl
  unfold nd at hk;rw[this] at hk;cases hk
section
variable {n:List (List Int)} (hr:Rng n) (hw:∀ i,(n.getD i []).length<=100000) {xs:List Nat}
include hr hw
theorem zje {i:Nat} {row:List Int} (hrow:n[i]? = some row) (ag:Bool) {d:List Bool} (hd:zg6 n xs d) :
  ∃ ag' k' d',lpO (zaU n (ag,(i:Int),d)) (ag,0,d)=some (.inl (ag',k',d'))∧zg6 n xs d'∧Went ag d (DClo n i d) ag' d':=by
 have hi:i < n.length:=(List.getElem?_eq_some_iff.1 hrow).1;have hrow':n.getD i []=row:=by rw[getD_eq_getElem?_getD,hrow];rfl
 have hlen:=hw i;rw[hrow'] at hlen
 have key:∀ m (k:Nat) ag1 d1,k+m=row.length->zg6 n xs d1->Went ag d (d.getD i false=false->∀ j,j < k->∀ x,row[j]? = some x->d.getD x.toNat false=false) ag1 d1 ->
   ∃ ag' k' d',lpO (zaU n (ag,(i:Int),d)) (ag1,(k:Int),d1)=some (.inl (ag',k',d'))∧zg6 n xs d'∧Went ag d (DClo n i d) ag' d':=by
  intro m
  induction m with
  | zero =>
   intro k ag1 d1 hk h1 h2;refine ⟨ag1,k,d1,zS (by simp only[zaU,zd,hrow,zl];rw[zj,if_neg (by omega)];rfl),h1, ?_⟩;rcases h2 with ⟨e1,e2,hc⟩ | h2
   ·refine .inl ⟨e1,e2,fun ⟨y,hy,hdy⟩ => ?_⟩;cases hsi:d.getD i false with
    | true=>rfl
    | false =>
     have:=nd_all (n:=n) (i:=i) (P:=fun y=>d.getD y false=false) (fun j hj x hx=>by
      rw[hrow'] at hj hx;exact hc hsi j (by omega) x hx) y hy
     rw[this] at hdy;exact hdy
   ·exact .inr h2
  | succ m ih =>
   intro k ag1 d1 hk h1 h2;have hl1:=h1.1;have hdi:d1[i]? = some (d1.getD i false):=qy (by omega);have e4:wi ((k:Int)+1)=((k+1:Nat):Int):=by rw[qV (by omega) (by omega)];omega
   have hcki:(0:Int)<=(i:Int)∧(i:Int) < ((d1.length:Nat):Int):=by omega
   cases hsi:d1.getD i false with
   | true =>
    refine ⟨ag1,k,d1,zS (by simp only[zaU,zd,hrow,zl];rw[zj,if_pos (by omega),zp hcki,toNat_natCast,hdi,hsi];rfl),h1, ?_⟩;rcases h2 with ⟨e1,rfl,hc⟩ | h2
    ·exact .inl ⟨e1,rfl,fun _=>hsi⟩
    ·exact .inr h2
   | false =>
    have hxk:=getElem?_eq_getElem (l:=row) (i:=k) (by omega);generalize row[k]=x at hxk;have hx:=hr i x (by rw[hrow'];exact mem_of_getElem? hxk);have hxm:x.toNat∈nd n i:=nd_of (by rw[hrow'];exact hxk);have hdx:d1[x.toNat]? = some (d1.getD x.toNat false):=qy (by omega);have hck:0<=x∧x < ((d1.length:Nat):Int):=by omega
    cases hsx:d1.getD x.toNat false with
    | false =>
     rw[wu (y:=(ag1,((k+1:Nat):Int),d1)) (by simp only[zaU,zd,hrow,zl];rw[zj,if_pos (by omega),zp hcki,toNat_natCast,hdi,hsi];simp only[zl,Bool.not_false,zD,qG,zn,hxk,zp hck,hdx,hsx,zk,qB,e4])];refine ih (k+1) ag1 d1 (by omega) h1 ?_;rcases h2 with ⟨e1,rfl,hc⟩ | h2
     ·refine .inl ⟨e1,rfl,fun hs j hj y hy => ?_⟩;by_cases e:j=k
      ·subst e;rw[hxk] at hy;cases hy;exact hsx
      ·exact hc hs j (by omega) y hy
     ·exact .inr h2
    | true =>
     rw[wu (y:=(true,((k+1:Nat):Int),d1.set i true)) (by simp only[zaU,zd,hrow,zl];rw[zj,if_pos (by omega),zp hcki,toNat_natCast,hdi,hsi];simp only[zl,Bool.not_false,zD,qG,zn,hxk,zp hck,hdx,hsx,zp hcki,toNat_natCast,hdi,qB,e4])];refine ih (k+1) true _ (by omega) (h1.set hi hxm hsx) ?_;have hc:=zcH d1 i (by rw[hdi,hsi]);rcases h2 with ⟨_,rfl,_⟩ | ⟨_,h2⟩
     ·exact .inr ⟨rfl,by omega⟩
     ·exact .inr ⟨rfl,by omega⟩
 exact key row.length 0 ag d (by omega) hd (.inl ⟨rfl,rfl,fun _ j hj=>by omega⟩)
theorem soil_loop (hn:n.length<=1000000) {d:List Bool} (hd:zg6 n xs d):∃ d',lpO (zfD n) (true,d)=some (.inl (false,d'))∧d'.length=n.length∧∀ j,d'.getD j false=true↔∃ a∈xs,RT n j a:=by
 obtain ⟨d',h1,h2,h3⟩:=zb0 (B:=zfD n) (Inv:=zg6 n xs) (C:=fun d=>∀ i,i < n.length->DClo n i d) (fun d hd=>by
  obtain ⟨ag',d',hB,hI,hW⟩:=zcY (B:=zfE n) (Inv:=zg6 n xs) (C:=DClo n) n.length (fun ag i d hi hd=>by
   have hrow:=getElem?_eq_getElem hi;obtain ⟨ag',k',d',hB,hI,hW⟩:=zje hr hw hrow ag hd;have e4:wi ((i:Int)+1)=((i+1:Nat):Int):=by rw[qV (by omega) (by omega)];omega
   exact ⟨ag',d',by simp only[zfE];rw[zj,if_pos (by omega),qx,hB];simp only[qG,qB,e4],hI,hW⟩) (fun ag d _=>by simp only[zfE];rw[zj,if_neg (by omega)];rfl) hd
  exact ⟨ag',d',by simp only[zfD,zn,qx,hB,qG,qB],hI,hW⟩) (fun d=>rfl) hd
 exact ⟨d',h1,h2.1,h2.end_ h3⟩
theorem dirt_loop {e:Err} (hn:n.length<=1000000) {d:List Bool} (hd:zg6 n xs d):∃ d',lpO (zfP ws (n,e)) (true,d)=some (.inl (false,d'))∧d'.length=n.length∧∀ j,d'.getD j false=true↔∃ a∈xs,RT n j a:=by
 obtain ⟨d',h1,h2,h3⟩:=zb0 (B:=zfP ws (n,e)) (Inv:=zg6 n xs) (C:=fun d=>∀ i,i < n.length->DClo n i d) (fun d hd=>by
  obtain ⟨ag',d',hB,hI,hW⟩:=zcY (B:=zb2 ws (n,e)) (Inv:=zg6 n xs) (C:=DClo n) n.length (fun ag i d hi hd=>by
   have hrow:=getElem?_eq_getElem hi;have hrow':n.getD i []=n[i]:=by rw[getD_eq_getElem?_getD,hrow];rfl
   have hlen:=hw i;rw[hrow'] at hlen;have hl1:=hd.1;have hdi:d[i]? = some (d.getD i false):=qy (by omega);have hcki:(0:Int)<=(i:Int)∧(i:Int) < ((d.length:Nat):Int):=by omega
   have e4:wi ((i:Int)+1)=((i+1:Nat):Int):=by rw[qV (by omega) (by omega)];omega
   have hany:=zh3 (l:=n[i]) (d:=d) (fun k hk=>by have:=hr i k (by rw[hrow'];exact hk);omega) (by omega);cases hsi:d.getD i false with
   | true =>exact ⟨ag,d,by simp only[zb2];rw[zj,if_pos (by omega)];simp only[zd,hrow,zl,zp hcki,toNat_natCast,hdi,hsi,Bool.not_true,zk,zD,qG,qB,e4],hd,.inl ⟨rfl,rfl,fun _=>hsi⟩⟩
   | false =>
    cases hs:(n[i]).any fun k=>d.getD k.toNat false with
    | false =>refine ⟨ag,d,by simp only[zb2];rw[zj,if_pos (by omega)];simp only[zd,hrow,zl,zp hcki,toNat_natCast,hdi,hsi,Bool.not_false,zn,hany,hs,zk,zD,qG,qB,e4],hd,.inl ⟨rfl,rfl,fun ⟨k,hk,hdk⟩ => ?_⟩⟩;obtain ⟨x,hx,rfl⟩:=mem_map.1 hk;rw[hrow'] at hx;have:=List.any_eq_false.1 hs x hx;exact absurd hdk this
    | true =>
     obtain ⟨x,hx,hdx⟩:=List.any_eq_true.1 hs;refine ⟨true,d.set i true,by simp only[zb2];rw[zj,if_pos (by omega)];simp only[zd,hrow,zl,zp hcki,toNat_natCast,hdi,hsi,Bool.not_false,zn,hany,hs,zD,qG,qB,e4],hd.set hi (mem_map.2 ⟨x,by rw[hrow'];exact hx,rfl⟩) hdx,.inr ⟨rfl, ?_⟩⟩;have hc:=zcH d i (by rw[hdi,hsi])
     omega) (fun ag d _=>by simp only[zb2];rw[zj,if_neg (by omega)];rfl) hd
  exact ⟨ag',d',by simp only[zfP,zn,qx,hB,qG,qB],hI,hW⟩) (fun d=>rfl) hd
 exact ⟨d',h1,h2.1,h2.end_ h3⟩
end
def marks (N:Nat) (xs:List Nat):List Bool:=xs.foldl (fun d a=>d.set a true) (List.replicate N false)
theorem zba (N:Nat):∀ (xs:List Nat) (d:List Bool),d.length=N->(xs.foldl (fun d a=>d.set a true) d).length=N
 | [],d,h=>h
 | a :: xs,d,h=>zba N xs _ (by rw[length_set];exact h)
theorem zgn {N:Nat}:∀ (xs:List Nat) (d:List Bool),d.length=N->(∀ a∈xs,a < N)->∀ j,(xs.foldl (fun d a=>d.set a true) d).getD j false=true↔j∈xs∨d.getD j false=true
 | [],d,h,_,j=>by simp
 | a :: xs,d,h,ha,j=>by
  rw[List.foldl_cons,zgn xs _ (by rw[length_set];exact h) (fun x hx=>ha x (List.mem_cons_of_mem _ hx)),za2 (by have:=ha a (by simp);omega),mem_cons];constructor
  ·rintro (h | h | h)
   ·exact .inl (.inr h)
   ·exact .inl (.inl h)
   ·exact .inr h
  ·rintro ((h | h) | h)
   ·exact .inr (.inl h)
   ·exact .inl h
   ·exact .inr (.inr h)
theorem zgm {n:List (List Int)} {xs:List Nat} (ha:∀ a∈xs,a < n.length):zg6 n xs (marks n.length xs):=by
 have hg:=zgn (N:=n.length) xs (List.replicate n.length false) (by simp) ha;refine ⟨zba _ _ _ (by simp),fun a h=>(hg a).2 (.inl h),fun j hj => ?_⟩;rcases (hg j).1 hj with h | h
 ·exact ⟨j,h,.inl rfl⟩
 ·rw[wJ] at h;cases h
section
variable {o:List Dim} (ok:CubeOk o)
include ok
theorem P329_eq {xs:List Nat} (hl:xs.length<=9223372036854775807) (ha:∀ a∈xs,a < sizeN o):P329 o (xs.map fun (a:Nat)=>(a:Int))=some (zdj o xs):=by
 obtain ⟨_,h2⟩:=ok.out.sizeN;have hT:(yX o).length=sizeN o:=by simp[yX]
 have hck1:(0:Int)<=(((yX o).length:Nat):Int)∧(((yX o).length:Nat):Int)<=(((yX o).length:Nat):Int)∧(((yX o).length:Nat):Int)<=zA:=by unfold zA;omega
 have hfirst:=zR (B:=zdL (xs.map fun (a:Nat)=>(a:Int))) (fun i=>((i:Int),marks (yX o).length (xs.take i))) xs.length (fun i hi=>by
  have hx:=getElem?_eq_getElem hi;have hai:=ha _ (getElem_mem hi);have hm:(xs.map fun (a:Nat)=>(a:Int))[i]? = some ((xs[i]:Nat):Int):=by rw[List.getElem?_map,hx];rfl
  have hml:(marks (yX o).length (xs.take i)).length=(yX o).length:=zba _ _ _ (by simp);have hg:=qy (d:=marks (yX o).length (xs.take i)) (k:=xs[i]) (by omega);have e4:wi ((i:Int)+1)=((i+1:Nat):Int):=by rw[qV (by omega) (by omega)];omega
  have e5:marks (yX o).length (xs.take (i+1))=(marks (yX o).length (xs.take i)).set xs[i] true:=by unfold marks;rw[yc _ _ _ hx]
  simp only[zdL];rw[zj,if_pos (by rw[length_map];omega)];simp only[zd,hm,zl];rw[zp (show (0:Int)<=((xs[i]:Nat):Int)∧((xs[i]:Nat):Int) < (((marks (yX o).length (xs.take i)).length:Nat):Int) by omega),toNat_natCast,hg,e5];simp only[zl,qB,e4])
 have hend:lpO (zdL (xs.map fun (a:Nat)=>(a:Int))) ((0:Int),List.replicate (yX o).length false)=some (.inl ((xs.length:Int),marks (yX o).length xs)):=(by rw[show ((0:Int),List.replicate (yX o).length false)=(((0:Nat):Int),marks (yX o).length (xs.take 0)) from rfl,hfirst,zS (y:=((xs.length:Int),marks (yX o).length (xs.take xs.length))) (by simp only[zdL];rw[zj,if_neg (by rw[length_map];omega)];rfl),List.take_length]);obtain ⟨d,hB,hld,hd⟩:=soil_loop (rngT ok) (allT_w ok) (by omega) (zgm (n:=yX o) (xs:=xs) (by rw[hT];exact ha));have hlast:=zcX (B:=zfC (false,d)) (sizeN o) (fun k=>d.getD k false) (fun i out hi ho=>by
  have e4:wi ((i:Int)+1)=((i+1:Nat):Int):=by rw[qV (by omega) (by omega)];omega
  have hdi:d[i]? = some (d.getD i false):=qy (by omega);have hck:out.length+[(i:Int)].length<=zA:=by simp only[length_singleton];unfold zA;omega
  simp only[zfC];rw[zj,if_pos (by omega),zp (show (0:Int)<=(i:Int)∧(i:Int) < ((d.length:Nat):Int) by omega),toNat_natCast,hdi];cases d.getD i false<;>simp only[zl,zn,zk,zD,qG,zp hck,qB,e4]<;>rfl) (fun out=>by simp only[zfC];rw[zj,if_neg (by omega)];rfl)
 simp only[P329,S329,P338_eq ok,zl,zp hck1,toNat_natCast,qx,hend,hB,qG,hlast];congr 2;refine filter_congr fun k hk => ?_;rw[Bool.eq_iff_iff];simp only[decide_eq_true_eq,hd,RT_same]
end
def atF (o:List Dim) (p:List Int):Int:=if ym o p=0 then (if wy o p=true then 0 else 6) else ym o p
def atE (o:List Dim) (ps:List (List Int)):Int:=match (List.range ps.length).findSome? fun i=>if atF o (ps.getD i [])=0 then none else some (atF o (ps.getD i [])) with | some e=>e | none=>0
theorem zfp {o:List Dim} {ps:List (List Int)}:atE o ps=0↔∀ p∈ps,atF o p=0:=by
 unfold atE;cases h:(List.range ps.length).findSome? fun i=>if atF o (ps.getD i [])=0 then none else some (atF o (ps.getD i [])) with
 | some e =>
  obtain ⟨i,hi,hr⟩:=List.exists_of_findSome?_eq_some h;have hi:=mem_range.1 hi;split at hr
  ·cases hr
  ·rename_i hne;cases hr;refine ⟨fun h=>absurd h hne,fun h=>absurd (h _ ?_) hne⟩;rw[getD_eq_getElem?_getD,getElem?_eq_getElem hi];exact getElem_mem hi
 | none =>
  refine ⟨fun _ p hp => ?_,fun _=>rfl⟩;obtain ⟨i,hi,rfl⟩:=List.mem_iff_getElem.1 hp;have:=List.findSome?_eq_none_iff.1 h i (mem_range.2 hi);rw[getD_eq_getElem?_getD,getElem?_eq_getElem hi] at this;by_cases e:atF o ps[i]=0
  ·exact e
  ·simp[e] at this
theorem atF_fit {o:List Dim} {p:List Int} (h:atF o p=0):Fit o p∧wy o p=true:=by
 unfold atF at h;split at h
 ·rename_i h1;refine ⟨zaP.1 h1, ?_⟩;split at h
  ·rename_i h2;exact h2
  ·cases h
 ·rename_i h1;exact absurd h h1
section
variable {o:List Dim}
theorem P318_eq (ps:List (List Int)) (hl:ps.length<=9223372036854775807) (hp:∀ p∈ps,p.length<=9223372036854775807) :
  P318 o ps=some (if (zbr o).2.2=0 then (if atE o ps=0 then (zdj o (ps.map (qE o)),.nil) else ([],zE (atE o ps))) else ([],zE (zbr o).2.2)):=by
 simp only[P318,S318,P344_eq,zl];rcases Classical.em (¬ (zbr o).2.2=0) with h | h
 ·rw[if_neg h,if_neg h];simp only[qe,decide_eq_false h,Bool.not_false,zn]
 replace h:=Classical.not_not.1 h;have ok:=yi.1 h;obtain ⟨_,h2⟩:=ok.out.sizeN;have hol:=ok.out.len;have hA:(jV o).length=sizeN o:=by simp[jV]
 rw[if_pos h,if_pos h];have hck1:(0:Int)<=(((jV o).length:Nat):Int)∧(((jV o).length:Nat):Int)<=(((jV o).length:Nat):Int)∧(((jV o).length:Nat):Int)<=zA:=by unfold zA;omega
 have hfirst:=qN (B:=zfQ P49 P58 P59 o ps) (fun i=>((i:Int),marks (jV o).length ((ps.take i).map (qE o)))) ps.length (fun i=>(if atF o (ps.getD i [])=0 then none else some (atF o (ps.getD i []))).map fun e=>(([]:List Int),zE e)) (d:=((ps.length:Int),marks (jV o).length ((ps.take ps.length).map (qE o)))) (fun i hi hbef=>by
  have hx:=getElem?_eq_getElem hi;have hgx:ps.getD i []=ps[i]:=by rw[getD_eq_getElem?_getD,hx];rfl
  have hpl:=hp _ (getElem_mem hi);have e4:wi ((i:Int)+1)=((i+1:Nat):Int):=by rw[qV (by omega) (by omega)];omega
  simp only[zfQ];rw[zj,if_pos (by omega)];simp only[zd,hx,zl,zi3 o _ hpl,qe,hgx];unfold atF;by_cases hf0:ym o ps[i]=0
  ·have hf:=zaP.1 hf0;simp only[hf0,decide_true,Bool.not_true,zk,if_true,P59_eq hf hpl (fun d hd=>by have:=((ok.out.dims d hd).len);omega),zl];cases hlf:wy o ps[i] with
   | false =>simp only[Bool.not_false,zn];rfl
   | true =>
    have hml:(marks (jV o).length ((ps.take i).map (qE o))).length=(jV o).length:=zba _ _ _ (by simp);have hk:=zaz hf;have hg:=qy (d:=marks (jV o).length ((ps.take i).map (qE o))) (k:=qE o ps[i]) (by omega);have hmx:(ps.map (qE o))[i]? = some (qE o ps[i]):=by rw[List.getElem?_map,hx];rfl
    have e5:marks (jV o).length ((ps.take (i+1)).map (qE o))=(marks (jV o).length ((ps.take i).map (qE o))).set (qE o ps[i]) true:=(by unfold marks;rw[List.map_take,List.map_take,yc _ _ _ hmx]);simp only[Bool.not_true,zk,zi4 hf.len hpl,zeT ok.out hf,zl,if_true,map_none];rw[zp (show (0:Int)<=((qE o ps[i]:Nat):Int)∧((qE o ps[i]:Nat):Int) < (((marks (jV o).length ((ps.take i).map (qE o))).length:Nat):Int) by omega),toNat_natCast,hg,e5];simp only[zl,qB,e4]
  ·simp only[hf0,decide_false,Bool.not_false,zn,if_false,map_some]
   rfl) (fun _=>by simp only[zfQ];rw[zj,if_neg (by omega)];rfl)
 rw[z8] at hfirst;have hst:((0:Int),List.replicate (jV o).length false)=(((0:Nat):Int),marks (jV o).length ((ps.take 0).map (qE o))):=rfl;simp only[yQ,Bool.not_true,zk,zp hck1,toNat_natCast];rw[qx,hst,hfirst];have hat:atE o ps=match (List.range ps.length).findSome? fun i=>if atF o (ps.getD i [])=0 then none else some (atF o (ps.getD i [])) with | some e=>e | none=>0:=rfl;cases hs:(List.range ps.length).findSome? fun i=>if atF o (ps.getD i [])=0 then none else some (atF o (ps.getD i [])) with
 | some e =>
  rw[hs] at hat;obtain ⟨i,hi,hr⟩:=List.exists_of_findSome?_eq_some hs;have hne:e≠0:=by
   split at hr
   ·cases hr
   ·rename_i hne;cases hr;exact hne
  simp only[map_some,jn_r];rw[hat,if_neg hne]
 | none =>
  rw[hs] at hat;have hz:=zfp.1 hat;rw[hat,if_pos rfl];simp only[map_none,qG];rw[List.take_length];obtain ⟨d,hB,hld,hd⟩:=dirt_loop (e:=.nil) (rngA ok) (allA_w ok) (by omega) (zgm (n:=jV o) (xs:=ps.map (qE o)) (fun a ha=>by
   obtain ⟨p,hp,rfl⟩:=mem_map.1 ha;rw[hA];exact zaz (atF_fit (hz p hp)).1))
  have hlast:=zcX (B:=zfO (false,d)) (sizeN o) (fun k=>d.getD k false) (fun i out hi ho=>by
   have e4:wi ((i:Int)+1)=((i+1:Nat):Int):=by rw[qV (by omega) (by omega)];omega
   have hdi:d[i]? = some (d.getD i false):=qy (by omega);have hck:out.length+[(i:Int)].length<=zA:=by simp only[length_singleton];unfold zA;omega
   simp only[zfO];rw[zj,if_pos (by omega),zp (show (0:Int)<=(i:Int)∧(i:Int) < ((d.length:Nat):Int) by omega),toNat_natCast,hdi];cases d.getD i false<;>simp only[zl,zn,zk,zD,qG,zp hck,qB,e4]<;>rfl) (fun out=>by simp only[zfO];rw[zj,if_neg (by omega)];rfl)
  simp only[qx,hB,qG,hlast];congr 3;refine filter_congr fun k hk => ?_;rw[Bool.eq_iff_iff];simp only[decide_eq_true_eq,hd]
end
theorem atE_first {o:List Dim} {ps:List (List Int)} {i:Nat} (hi:i < ps.length) (hb:∀ j,j < i->atF o (ps.getD j [])=0) (hn:atF o (ps.getD i [])≠0):atE o ps=atF o (ps.getD i []):=by have hf:(List.range ps.length).findSome? (fun i=>if atF o (ps.getD i [])=0 then none else some (atF o (ps.getD i [])))=some (atF o (ps.getD i [])):=(by refine List.findSome?_eq_some_iff.2 ⟨List.range i,i,List.range' (i+1) (ps.length - i - 1), ?_,if_neg hn,fun a ha=>if_pos (hb a (mem_range.1 ha))⟩;rw[List.range_eq_range',List.range_eq_range',show i :: List.range' (i+1) (ps.length - i - 1)=List.range' (0+1 * i) (ps.length - i) from by rw[show ps.length - i=(ps.length - i - 1)+1 by omega,List.range'_succ];simp,List.range'_append];congr 1;omega);unfold atE;rw[hf]
theorem zjB (o:List Dim) (a:Nat):(zci o a).length<=sizeN o:=by unfold zci;rw[length_map];exact le_trans (List.length_filter_le ..) (by rw[length_range];exact le_refl _)
theorem zjK (o:List Dim) (xs:List Nat):(zdj o xs).length<=sizeN o:=by unfold zdj;rw[length_map];exact le_trans (List.length_filter_le ..) (by rw[length_range];exact le_refl _)
theorem P317_eq (o:List Dim) (p:List Int) (hp:p.length<=9223372036854775807):P317 o p=some (if (zbr o).2.2=0 then (if ym o p=0 then (zci o (qE o p),.nil) else ([],zE (ym o p))) else ([],zE (zbr o).2.2)):=by
 unfold P317;rw[if_pos hp];by_cases h:(zbr o).2.2=0
 ·rw[if_pos h,if_pos h];by_cases hf0:ym o p=0
  ·obtain ⟨out,h1,h2⟩:=leafsN_eq (yi.1 h) (zaP.1 hf0);rw[if_pos hf0,if_pos hf0,h1];simp only[h2]
  ·rw[if_neg hf0,if_neg hf0]
 ·rw[if_neg h,if_neg h]
theorem zf2 {o:List Dim} (ok:CubeOk o) {p:List Int} (hf:Fit o p):jA (zbx o p)=zdX o p:=by
 have hm:=zbl (zbx o p) [] .nil;refine zii ?_ hm.1 fun x=>by rw[zcL,zcJ]
 unfold zbx;by_cases hb:byL o p < 0
 ·rw[if_pos hb];exact .nil
 rw[if_neg hb];obtain ⟨d,i,hd,hi,_⟩:=byL_is (show 0<=byL o p by omega);obtain ⟨b,hbn⟩:∃ b:Nat,byL o p=b:=⟨(byL o p).toNat,by omega⟩;rw[hbn] at hd hi ⊢;simp only[toNat_natCast] at hd hi ⊢;have hr:=hf.mem _ _ _ hi hd;obtain ⟨j,rfl⟩:∃ j:Nat,i=j:=⟨i.toNat,by omega⟩;have hru:=ok.rules d (mem_of_getElem? hd);have hbp:b < p.length:=(List.getElem?_eq_some_iff.1 hi).1;simp only[hd,hi,toNat_natCast];refine List.pairwise_map.2 (((jB _).1:(qC d j).Pairwise (· < ·)).imp_of_mem fun {x y} hx hy hlt e => ?_);obtain ⟨k,rfl,hk2,_⟩:=zgK hru (by omega) ((jB _).2 _ |>.1 hx);obtain ⟨m,rfl,hm2,_⟩:=zgK hru (by omega) ((jB _).2 _ |>.1 hy);have hpos:=fun d (hd:d∈o)=>((ok.out.dims d hd).len).1;have e1:=zeR hpos (zdd hf hd hk2);have e2:=zeR hpos (zdd hf hd hm2);have e3:qE o (p.set b (k:Int))=qE o (p.set b (m:Int)):=by omega
 rw[e3,e2] at e1;have e4:=congrArg (fun (z:List Int×Nat)=>z.1[b]?) e1;simp[hbp] at e4;omega
end
end Ab
