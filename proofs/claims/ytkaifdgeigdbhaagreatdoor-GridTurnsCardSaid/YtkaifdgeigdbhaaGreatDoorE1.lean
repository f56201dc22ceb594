import Derived.Test.YtkaifdgeigdbhaaGreatDoorHM
open List (contains_iff_mem getElem?_set mem_append mem_cons mem_cons_of_mem mem_map mem_range nodup_cons)
set_option linter.unusedVariables false
set_option linter.unusedSimpArgs false
namespace Ab
section
def nd (n:List (List Int)) (i:Nat):List Nat:=(n.getD i []).map Int.toNat
def Rng (n:List (List Int)):Prop:=∀ i k,k∈n.getD i []->0<=k∧k < n.length
def Acyc (n:List (List Int)):Prop:=∀ i,i < n.length->∃ S:Nat->Prop,(∀ k∈nd n i,S k)∧(∀ j,S j->∀ k∈nd n j,S k)∧¬ S i
theorem Rng.nd {n:List (List Int)} (h:Rng n) {i k:Nat} (hk:k∈nd n i):k < n.length:=by simp only[Ab.nd,mem_map] at hk;obtain ⟨x,hx,rfl⟩:=hk;have:=h i x hx;omega
theorem wI:∀ (l l':List Nat),l.Nodup->(∀ x∈l,x∈l')->l.length<=l'.length
 | [],_,_,_=>Nat.zero_le _
 | a :: r,l',h,hs=>by
  have ha:=hs a (by simp);rw[nodup_cons] at h;have ih:=wI r (l'.erase a) h.2 fun x hx=>(List.mem_erase_of_ne (by rintro rfl;exact h.1 hx)).2 (hs x (mem_cons_of_mem _ hx));rw[List.length_erase_of_mem ha] at ih;have:0 < l'.length:=List.length_pos_of_mem ha;simp only[List.length_cons];omega
theorem pigeonN (m:Nat) (f:Nat->Nat) (h:∀ j,f j < m):∃ a b,a < b∧f a=f b:=by refine Classical.byContradiction fun hc => ?_;have hinj:∀ a b,a < b->f a≠f b:=fun a b hab e=>hc ⟨a,b,hab,e⟩;have hn:((List.range (m+1)).map f).Nodup:=(by rw[List.nodup_iff_pairwise_ne,List.pairwise_map];exact List.pairwise_lt_range.imp fun {a b} hab=>hinj a b hab);have:=wI _ (List.range m) hn fun x hx=>(by obtain ⟨j,_,rfl⟩:=mem_map.1 hx;exact mem_range.2 (h j));simp at this;omega
theorem pickN {n:List (List Int)} (hr:Rng n) (ha:Acyc n) (done:Nat->Prop) {i0:Nat} (h0:i0 < n.length) (hu:¬ done i0) :
  ∃ i,i < n.length∧¬ done i∧∀ k∈nd n i,done k:=by
 refine Classical.byContradiction fun hc => ?_;have hnext:∀ i:{i // i < n.length∧¬ done i},∃ k:{i // i < n.length∧¬ done i},k.1∈nd n i.1:=(by rintro ⟨i,h1,h2⟩;refine Classical.byContradiction fun hn=>hc ⟨i,h1,h2,fun k hk=>Classical.byContradiction fun hd=>hn ⟨⟨k,hr.nd hk,hd⟩,hk⟩⟩)
 let nx:=fun i=>Classical.choose (hnext i)
 have hnx:∀ i,(nx i).1∈nd n i.1:=fun i=>Classical.choose_spec (hnext i)
 let f:Nat->{i // i < n.length∧¬ done i}:=fun j=>Nat.rec ⟨i0,h0,hu⟩ (fun _ x=>nx x) j
 have hf:∀ j,f (j+1)=nx (f j):=fun _=>rfl;obtain ⟨a,b,hab,he⟩:=pigeonN n.length (fun j=>(f j).1) fun j=>(f j).2.1;obtain ⟨S,s1,s2,s3⟩:=ha (f a).1 (f a).2.1;have hS:∀ d,S (f (a+1+d)).1:=by
  intro d
  induction d with
  | zero=>exact s1 _ (by rw[Nat.add_zero,hf];exact hnx _)
  | succ d ih=>exact s2 _ ih _ (by rw[show a+1+(d+1)=(a+1+d)+1 by omega,hf];exact hnx _)
 have h3:=hS (b - a - 1);rw[show a+1+(b - a - 1)=b by omega] at h3;rw[← he] at h3;exact s3 h3
def nextB (n:List (List Int)) (out:List Nat):Option Nat:=(List.range n.length).find? fun i => !out.contains i && (nd n i).all fun k=>out.contains k
def zbh (n:List (List Int)):Nat->List Nat->List Nat
 | 0,out=>out
 | f+1,out=>match nextB n out with | some i=>zbh n f (out++[i]) | none=>out
def yU (n:List (List Int)) (out:List Nat):Prop:=out.Nodup∧(∀ i∈out,i < n.length)∧∀ j i,out[j]? = some i->∀ k∈nd n i,k∈out.take j
theorem ziS {n:List (List Int)} {out:List Nat} {i:Nat} (h:nextB n out=some i):i < n.length∧i ∉ out∧∀ k∈nd n i,k∈out:=by
 have h1:=List.find?_some h;have h2:=List.mem_of_find?_eq_some h;simp only[Bool.and_eq_true,Bool.not_eq_true',List.all_eq_true] at h1;refine ⟨mem_range.1 h2,fun hm => ?_,fun k hk => ?_⟩
 ·have:=h1.1;rw[contains_iff_mem.2 hm] at this;cases this
 ·exact contains_iff_mem.1 (h1.2 k hk)
theorem ziT {n:List (List Int)} (hr:Rng n) (ha:Acyc n) {out:List Nat} (ho:yU n out) (hl:out.length < n.length):∃ i,nextB n out=some i:=by
 have hx:∃ i0,i0 < n.length∧i0 ∉ out:=(by refine Classical.byContradiction fun hc => ?_;have:=wI (List.range n.length) out List.nodup_range fun x hx=>Classical.byContradiction fun hn=>hc ⟨x,mem_range.1 hx,hn⟩;rw[List.length_range] at this;omega);obtain ⟨i0,h0,hu⟩:=hx;obtain ⟨i,h1,h2,h3⟩:=pickN hr ha (·∈out) h0 hu;cases hn:nextB n out with
 | some i=>exact ⟨i,rfl⟩
 | none =>have:=List.find?_eq_none.1 hn i (mem_range.2 h1);refine absurd ?_ this;simp only[Bool.and_eq_true,Bool.not_eq_true',List.all_eq_true];refine ⟨?_,fun k hk=>contains_iff_mem.2 (h3 k hk)⟩;rw[Bool.eq_false_iff];exact fun hc=>h2 (contains_iff_mem.1 hc)
theorem yU.add {n:List (List Int)} {out:List Nat} (ho:yU n out) {i:Nat} (h:nextB n out=some i):yU n (out++[i]):=by
 obtain ⟨h1,h2,h3⟩:=ziS h;refine ⟨?_,fun x hx => ?_,fun j x hj k hk => ?_⟩
 ·rw[List.nodup_append];exact ⟨ho.1,by simp,fun a ha b hb e=>h2 (by rw[List.mem_singleton.1 hb] at e;rw[← e];exact ha)⟩
 ·rcases mem_append.1 hx with hx | hx
  ·exact ho.2.1 x hx
  ·rw[List.mem_singleton.1 hx];exact h1
 ·by_cases hj':j < out.length
  ·rw[List.getElem?_append_left hj'] at hj;rw[List.take_append_of_le_length (by omega)];exact ho.2.2 j x hj k hk
  ·rw[List.getElem?_append_right (by omega)] at hj;have hj0:j=out.length:=(by have:=(List.getElem?_eq_some_iff.1 hj).1;simp at this;omega);subst hj0;simp at hj;subst hj;rw[List.take_left];exact h3 k hk
theorem yU.nil (n:List (List Int)):yU n []:=⟨List.nodup_nil,(fun _ h=>by cases h),fun j i h=>by simp at h⟩
theorem zd1 {n:List (List Int)} (hr:Rng n) (ha:Acyc n):∀ (f:Nat) (out:List Nat),yU n out->out.length+f=n.length->yU n (zbh n f out)∧(zbh n f out).length=n.length
 | 0,out,ho,hl=>⟨ho,by simpa[zbh] using hl⟩
 | f+1,out,ho,hl=>by
  obtain ⟨i,hi⟩:=ziT hr ha ho (by omega);simp only[zbh,hi];exact zd1 hr ha f _ (ho.add hi) (by simp;omega)
def zhq (n:List (List Int)):List Nat:=zbh n n.length []
theorem zjd {n:List (List Int)} (hr:Rng n) (ha:Acyc n):yU n (zhq n)∧(zhq n).length=n.length:=zd1 hr ha _ _ (.nil n) (by simp)
theorem rank_of {n:List (List Int)} (hr:Rng n) (ha:Acyc n):∃ r:Nat->Nat,(∀ i,i < n.length->r i < n.length)∧∀ i,i < n.length->∀ k∈nd n i,r k < r i:=by
 obtain ⟨ho,hl⟩:=zjd hr ha;generalize zhq n=out at *;have hall:∀ i,i < n.length->i∈out:=fun i hi=>by
  refine Classical.byContradiction fun hn => ?_;have:=wI (i :: out) (List.range n.length) (nodup_cons.2 ⟨hn,ho.1⟩) fun x hx=>by
   rcases mem_cons.1 hx with rfl | hx
   ·exact mem_range.2 hi
   ·exact mem_range.2 (ho.2.1 x hx)
  simp at this;omega
 refine ⟨fun i=>out.idxOf i,fun i hi=>by rw[← hl];exact List.idxOf_lt_length_of_mem (hall i hi),fun i hi k hk => ?_⟩;have h1:=List.idxOf_lt_length_of_mem (hall i hi);have h2:out[out.idxOf i]? = some i:=(by rw[List.getElem?_eq_getElem h1];simp);have h3:=ho.2.2 _ _ h2 k hk;have h4:=List.idxOf_lt_length_of_mem h3;rw[List.length_take] at h4;have h5:out.idxOf k=(out.take (out.idxOf i)).idxOf k:=by
  conv=>lhs;rw[← List.take_append_drop (out.idxOf i) out]
  rw[List.idxOf_append,if_pos h3]
 show out.idxOf k < out.idxOf i;omega
end
section
def zji (n:List (List Int)) (i:Nat):Nat->List Bool->List Int->Option Bool
 | 0,_,_=>none
 | f+1,seen,[]=>some false
 | f+1,seen,k :: row=>if k=i then some true else if seen.getD k.toNat false=true then zji n i f seen row else zji n i f (seen.set k.toNat true) (row++n.getD k.toNat [])
def zey (n:List (List Int)) (seen:List Bool):Nat:=((List.range n.length).map fun k=>if seen.getD k false=true then 0 else (n.getD k []).length).sum
theorem zdv:∀ (l:List Nat) (f g:Nat->Nat) (k d:Nat),l.Nodup->k∈l->(∀ j,j≠k->f j=g j)->f k=g k+d->(l.map f).sum=(l.map g).sum+d
 | [],_,_,_,_,_,h,_,_=>by cases h
 | a :: r,f,g,k,d,hn,hk,h1,h2=>by
  rw[nodup_cons] at hn;simp only[List.map_cons,List.sum_cons];by_cases e:a=k
  ·subst e;have:r.map f=r.map g:=List.map_congr_left fun x hx=>h1 x (by rintro rfl;exact hn.1 hx);rw[this,h2];omega
  ·have hk':k∈r:=by
    rcases mem_cons.1 hk with rfl | h
    ·exact absurd rfl e
    ·exact h
   rw[h1 a e,zdv r f g k d hn.2 hk' h1 h2];omega
theorem zfS {n:List (List Int)} {seen:List Bool} (hs:seen.length=n.length) {k:Nat} (hk:k < n.length) (h:seen.getD k false=false):zey n seen=zey n (seen.set k true)+(n.getD k []).length:=by
 unfold zey;refine zdv _ _ _ k _ List.nodup_range (mem_range.2 hk) (fun j hj => ?_) ?_
 ·have h1:(seen.set k true).getD j false=seen.getD j false:=(by simp only[List.getD_eq_getElem?_getD,getElem?_set];rw[if_neg (fun e:k=j=>hj e.symm)]);show (if seen.getD j false=true then _ else _)=if (seen.set k true).getD j false=true then _ else _
  rw[h1]
 ·have h1:(seen.set k true).getD k false=true:=(by simp only[List.getD_eq_getElem?_getD,getElem?_set];simp[hs,hk]);show (if seen.getD k false=true then 0 else _)=(if (seen.set k true).getD k false=true then 0 else _)+_
  rw[h,h1];simp
theorem zcY {n:List (List Int)} (hr:Rng n) (i:Nat):∀ (f:Nat) (seen:List Bool) (row:List Int),seen.length=n.length->(∀ k∈row,0<=k∧k < n.length)->zey n seen+row.length < f->∃ b,zji n i f seen row=some b
 | 0,_,_,_,_,h=>by omega
 | f+1,seen,[],_,_,_=>⟨false,rfl⟩
 | f+1,seen,k :: row,hs,hk,h=>by
  have hk0:=hk k (by simp);simp only[List.length_cons] at h;simp only[zji];split
  ·exact ⟨true,rfl⟩
  split
  ·exact zcY hr i f seen row hs (fun x hx=>hk x (mem_cons_of_mem _ hx)) (by omega)
  ·rename_i h1;have h2:=zfS (n:=n) hs (k:=k.toNat) (by omega) (Bool.eq_false_iff.2 h1);refine zcY hr i f _ _ (by simpa using hs) (fun x hx => ?_) (by rw[List.length_append];omega);rcases mem_append.1 hx with hx | hx
   ·exact hk x (mem_cons_of_mem _ hx)
   ·exact hr _ x hx
inductive Reach (n:List (List Int)):Nat->Nat->Prop
 | one {a b:Nat}:b∈nd n a->Reach n a b
 | more {a b c:Nat}:b∈nd n a->Reach n b c->Reach n a c
theorem Reach.snoc {n:List (List Int)} {a b c:Nat} (h:Reach n a b) (hc:c∈nd n b):Reach n a c:=by
 induction h with
 | one h=>exact .more h (.one hc)
 | more h _ ih=>exact .more h (ih hc)
theorem zcX {n:List (List Int)} (hr:Rng n) (a i:Nat):∀ (f:Nat) (seen:List Bool) (row:List Int),(∀ k∈row,0<=k∧Reach n a k.toNat)->zji n i f seen row=some true->Reach n a i
 | 0,_,_,_,h=>by cases h
 | f+1,seen,[],_,h=>by cases h
 | f+1,seen,k :: row,hk,h=>by
  have hk0:=hk k (by simp);simp only[zji] at h;split at h
  ·rename_i e;have:k.toNat=i:=by omega
   rw[← this];exact hk0.2
  split at h
  ·exact zcX hr a i f seen row (fun x hx=>hk x (mem_cons_of_mem _ hx)) h
  ·refine zcX hr a i f _ _ (fun x hx => ?_) h;rcases mem_append.1 hx with hx | hx
   ·exact hk x (mem_cons_of_mem _ hx)
   ·exact ⟨(hr _ x hx).1,hk0.2.snoc (mem_map.2 ⟨x,hx,rfl⟩)⟩
theorem zbg {n:List (List Int)} (hr:Rng n) (i:Nat):∀ (f:Nat) (seen:List Bool) (row:List Int),seen.length=n.length->(∀ k∈row,0<=k∧k < n.length) ->
  (∀ j,seen.getD j false=true->j≠i∧∀ k∈nd n j,seen.getD k false=true∨(k:Int)∈row)->zji n i f seen row=some false ->
  ∃ S:Nat->Prop,(∀ j,seen.getD j false=true->S j)∧(∀ k∈row,S k.toNat)∧(∀ j,S j->∀ k∈nd n j,S k)∧¬ S i
 | 0,_,_,_,_,_,h=>by cases h
 | f+1,seen,[],hs,_,hc,_=>⟨fun j=>seen.getD j false=true,fun j hj=>hj,fun k hk=>(by cases hk),fun j hj k hk=>((hc j hj).2 k hk).elim id (fun e=>by cases e),fun hi=>(hc i hi).1 rfl⟩
 | f+1,seen,k :: row,hs,hk,hc,h=>by
  have hk0:=hk k (by simp);simp only[zji] at h;split at h
  ·cases h
  rename_i e;split at h
  ·rename_i e2;obtain ⟨S,s1,s2,s3,s4⟩:=zbg hr i f seen row hs (fun x hx=>hk x (mem_cons_of_mem _ hx)) (fun j hj=>⟨(hc j hj).1,fun x hx=>by
    rcases (hc j hj).2 x hx with h1 | h1
    ·exact .inl h1
    ·rcases mem_cons.1 h1 with h1 | h1
     ·left;rw[← e2,← h1];simp
     ·exact .inr h1⟩) h
   refine ⟨S,s1,fun x hx => ?_,s3,s4⟩;rcases mem_cons.1 hx with rfl | hx
   ·exact s1 _ e2
   ·exact s2 x hx
  ·rename_i e2;have hg:∀ j,(seen.set k.toNat true).getD j false=true↔j=k.toNat∨seen.getD j false=true:=by
    intro j;simp only[List.getD_eq_getElem?_getD,getElem?_set];by_cases hj:k.toNat=j
    ·subst hj;simp[show k.toNat < seen.length by omega]
    ·rw[if_neg hj];constructor
     ·exact .inr
     ·rintro (h1 | h1)
      ·exact absurd h1.symm hj
      ·exact h1
   obtain ⟨S,s1,s2,s3,s4⟩:=zbg hr i f (seen.set k.toNat true) (row++n.getD k.toNat []) (by simpa using hs) (fun x hx=>by
     rcases mem_append.1 hx with hx | hx
     ·exact hk x (mem_cons_of_mem _ hx)
     ·exact hr _ x hx) (fun j hj=>by
     rcases (hg j).1 hj with rfl | hj
     ·refine ⟨by omega,fun x hx=>.inr ?_⟩;simp only[nd,mem_map] at hx;obtain ⟨y,hy,rfl⟩:=hx;have:=(hr _ y hy).1;rw[show ((y.toNat:Nat):Int)=y by omega];exact List.mem_append_right _ hy
     ·refine ⟨(hc j hj).1,fun x hx => ?_⟩;rcases (hc j hj).2 x hx with h1 | h1
      ·exact .inl ((hg x).2 (.inr h1))
      ·rcases mem_cons.1 h1 with h1 | h1
       ·left;exact (hg x).2 (.inl (by omega))
       ·exact .inr (List.mem_append_left _ h1)) h
   refine ⟨S,fun j hj=>s1 j ((hg j).2 (.inr hj)),fun x hx => ?_,s3,s4⟩;rcases mem_cons.1 hx with rfl | hx
   ·exact s1 _ ((hg _).2 (.inl rfl))
   ·exact s2 x (List.mem_append_left _ hx)
def zeb (n:List (List Int)) (i:Nat):Option Bool:=zji n i (zey n (List.replicate n.length false)+(n.getD i []).length+1) (List.replicate n.length false) (n.getD i [])
theorem rep_false (m j:Nat):(List.replicate m false).getD j false=false:=by
 simp only[List.getD_eq_getElem?_getD,List.getElem?_replicate]
 split<;>rfl
theorem zaU {n:List (List Int)} (hr:Rng n) (i:Nat):∃ b,zeb n i=some b:=zcY hr i _ _ _ (by simp) (fun k hk=>hr i k hk) (by omega)
theorem ziI {n:List (List Int)} (hr:Rng n) {i:Nat} (h:zeb n i=some true):Reach n i i :=
 zcX hr i i _ _ _ (fun k hk=>⟨(hr i k hk).1,.one (mem_map.2 ⟨k,hk,rfl⟩)⟩) h
theorem zce {n:List (List Int)} (hr:Rng n) {i:Nat} (h:zeb n i=some false):∃ S:Nat->Prop,(∀ k∈nd n i,S k)∧(∀ j,S j->∀ k∈nd n j,S k)∧¬ S i:=by obtain ⟨S,_,s2,s3,s4⟩:=zbg hr i _ _ _ (by simp) (fun k hk=>hr i k hk) (fun j hj=>by rw[rep_false] at hj;cases hj) h;refine ⟨S,fun k hk => ?_,s3,s4⟩;simp only[nd,mem_map] at hk;obtain ⟨x,hx,rfl⟩:=hk;exact s2 x hx
theorem zfw {n:List (List Int)} {S:Nat->Prop} (hS:∀ j,S j->∀ k∈nd n j,S k) {a b:Nat} (h:Reach n a b):(∀ k∈nd n a,S k)->S b:=by
 induction h with
 | one h=>exact fun h1=>h1 _ h
 | more h _ ih=>exact fun h1=>ih fun k hk=>hS _ (h1 _ h) k hk
theorem selfN_iff {n:List (List Int)} (hr:Rng n) (i:Nat):zeb n i=some true↔Reach n i i:=by
 constructor
 ·exact ziI hr
 ·intro h;obtain ⟨b,hb⟩:=zaU hr i;cases b with
  | true=>exact hb
  | false =>obtain ⟨S,s1,s2,s3⟩:=zce hr hb;exact absurd (zfw s2 h s1) s3
end
end Ab
