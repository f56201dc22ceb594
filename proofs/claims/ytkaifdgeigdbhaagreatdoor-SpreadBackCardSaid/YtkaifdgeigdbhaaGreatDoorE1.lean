import Derived.Test.YtkaifdgeigdbhaaGreatDoorHM
set_option linter.all false
namespace Ab
section
def nd (n:List (List Int)) (i:Nat):List Nat:=(n.getD i []).map Int.toNat
def Rng (n:List (List Int)):Prop:=∀ i k,k∈n.getD i []->0<=k∧k < n.length
def Rng.nd {n:List (List Int)} (h:Rng n) {i k:Nat} (hk:k∈nd n i):k < n.length:=by simp only[Ab.nd,Am] at hk;obtain ⟨x,hx,rfl⟩:=hk;have:=h i x hx;omega
def zed:∀ (l l':List Nat),l.Nodup->(∀ x∈l,x∈l')->l.length<=l'.length
 | [],_,_,_=>Bx _
 | a :: r,l',h,hs=>by
  have ha:=hs a (by simp);rw[CO] at h;have ih:=zed r (l'.erase a) h.2 fun x hx=>(CS (by rintro rfl;exact h.1 hx)).2 (hs x (Ae _ hx));rw[CD ha] at ih;have:0 < l'.length:=CL ha;simp only[Au];omega
def nextB (n:List (List Int)) (out:List Nat):Option Nat:=(List.range n.length).find? fun i => !out.contains i && (nd n i).all fun k=>out.contains k
def zaG (n:List (List Int)) (out:List Nat):Prop:=out.Nodup∧(∀ i∈out,i < n.length)∧∀ j i,out[j]? = some i->∀ k∈nd n i,k∈out.take j
def zjr {n:List (List Int)} {out:List Nat} {i:Nat} (h:nextB n out=some i):i < n.length∧i ∉ out∧∀ k∈nd n i,k∈out:=by
 have h1:=List.find?_some h;have h2:=List.mem_of_find?_eq_some h;simp only[Al,AN,Af] at h1;refine ⟨AR.1 h2,fun hm => ?_,fun k hk => ?_⟩
 ·have:=h1.1;rw[List.contains_iff_mem.2 hm] at this;cases this
 ·exact List.contains_iff_mem.1 (h1.2 k hk)
def zaG.add {n:List (List Int)} {out:List Nat} (ho:zaG n out) {i:Nat} (h:nextB n out=some i):zaG n (out++[i]):=by
 obtain ⟨h1,h2,h3⟩:=zjr h;refine ⟨?_,fun x hx => ?_,fun j x hj k hk => ?_⟩
 ·rw[List.nodup_append];exact ⟨ho.1,by simp,fun a ha b hb e=>h2 (by rw[Ah.1 hb] at e;rw[← e];exact ha)⟩
 ·rcases Ak.1 hx with hx | hx
  ·exact ho.2.1 x hx
  ·rw[Ah.1 hx];exact h1
 ·by_cases ba:j < out.length
  ·rw[Ax ba] at hj;rw[List.take_append_of_le_length (by omega)];exact ho.2.2 j x hj k hk
  ·rw[AF (by omega)] at hj;have mn:j=out.length:=(by have:=(Ac.1 hj).1;simp at this;omega);subst mn;simp at hj;subst hj;rw[List.take_left];exact h3 k hk
def zaG.nil (n:List (List Int)):zaG n []:=⟨List.nodup_nil,(fun _ h=>by cases h),fun j i h=>by simp at h⟩
def zaG.le {n:List (List Int)} {out:List Nat} (ho:zaG n out):out.length<=n.length:=by
 have:=zed out (List.range n.length) ho.1 fun x hx=>AR.2 (ho.2.1 x hx)
 rwa [Bp] at this
end
section
def zjO (n:List (List Int)) (i:Nat):Nat->List Bool->List Int->Option Bool
 | 0,_,_=>none
 | f+1,seen,[]=>some false
 | f+1,seen,k :: row=>if k=i then some true else if seen.getD k.toNat false=true then zjO n i f seen row else zjO n i f (seen.set k.toNat true) (row++n.getD k.toNat [])
def eP (n:List (List Int)) (seen:List Bool):Nat:=((List.range n.length).map fun k=>if seen.getD k false=true then 0 else (n.getD k []).length).sum
def nH:∀ (l:List Nat) (f g:Nat->Nat) (k d:Nat),l.Nodup->k∈l->(∀ j,j≠k->f j=g j)->f k=g k+d->(l.map f).sum=(l.map g).sum+d
 | [],_,_,_,_,_,h,_,_=>by cases h
 | a :: r,f,g,k,d,hn,hk,h1,h2=>by
  rw[CO] at hn;simp only[Ar,B6];by_cases e:a=k
  ·subst e;have:r.map f=r.map g:=Aj fun x hx=>h1 x (by rintro rfl;exact hn.1 hx);rw[this,h2];omega
  ·have au:k∈r:=by
    rcases Ap.1 hk with rfl | h
    ·exact absurd rfl e
    ·exact h
   rw[h1 a e,nH r f g k d hn.2 au h1 h2];omega
def zgq {n:List (List Int)} {seen:List Bool} (hs:seen.length=n.length) {k:Nat} (hk:k < n.length) (h:seen.getD k false=false):eP n seen=eP n (seen.set k true)+(n.getD k []).length:=by
 unfold eP;refine nH _ _ _ k _ List.nodup_range (AR.2 hk) (fun j hj => ?_) ?_
 ·have h1:(seen.set k true).getD j false=seen.getD j false:=(by simp only[Aw,BO];rw[if_neg (fun e:k=j=>hj e.symm)]);show (if seen.getD j false=true then _ else _)=if (seen.set k true).getD j false=true then _ else _
  rw[h1]
 ·have h1:(seen.set k true).getD k false=true:=(by simp only[Aw,BO];simp[hs,hk]);show (if seen.getD k false=true then 0 else _)=(if (seen.set k true).getD k false=true then 0 else _)+_
  rw[h,h1];simp
def zdw {n:List (List Int)} (hr:Rng n) (i:Nat):∀ (f:Nat) (seen:List Bool) (row:List Int),seen.length=n.length->(∀ k∈row,0<=k∧k < n.length)->eP n seen+row.length < f->∃ b,zjO n i f seen row=some b
 | 0,_,_,_,_,h=>by omega
 | f+1,seen,[],_,_,_=>⟨false,rfl⟩
 | f+1,seen,k :: row,hs,hk,h=>by
  have cC:=hk k (by simp);simp only[Au] at h;simp only[zjO];split
  ·exact ⟨true,rfl⟩
  split
  ·exact zdw hr i f seen row hs (fun x hx=>hk x (Ae _ hx)) (by omega)
  ·rename_i h1;have h2:=zgq (n:=n) hs (k:=k.toNat) (by omega) (Bool.eq_false_iff.2 h1);refine zdw hr i f _ _ (by simpa using hs) (fun x hx => ?_) (by rw[AQ];omega);rcases Ak.1 hx with hx | hx
   ·exact hk x (Ae _ hx)
   ·exact hr _ x hx
inductive Reach (n:List (List Int)):Nat->Nat->Prop
 | one {a b:Nat}:b∈nd n a->Reach n a b
 | more {a b c:Nat}:b∈nd n a->Reach n b c->Reach n a c
def Reach.snoc {n:List (List Int)} {a b c:Nat} (h:Reach n a b) (hc:c∈nd n b):Reach n a c:=by
 induction h with
 | one h=>exact .more h (.one hc)
 | more h _ ih=>exact .more h (ih hc)
def zdv {n:List (List Int)} (hr:Rng n) (a i:Nat):∀ (f:Nat) (seen:List Bool) (row:List Int),(∀ k∈row,0<=k∧Reach n a k.toNat)->zjO n i f seen row=some true->Reach n a i
 | 0,_,_,_,h=>by cases h
 | f+1,seen,[],_,h=>by cases h
 | f+1,seen,k :: row,hk,h=>by
  have cC:=hk k (by simp);simp only[zjO] at h;split at h
  ·rename_i e;have:k.toNat=i:=by omega
   rw[← this];exact cC.2
  split at h
  ·exact zdv hr a i f seen row (fun x hx=>hk x (Ae _ hx)) h
  ·refine zdv hr a i f _ _ (fun x hx => ?_) h;rcases Ak.1 hx with hx | hx
   ·exact hk x (Ae _ hx)
   ·exact ⟨(hr _ x hx).1,cC.2.snoc (Am.2 ⟨x,hx,rfl⟩)⟩
def zbB {n:List (List Int)} (hr:Rng n) (i:Nat):∀ (f:Nat) (seen:List Bool) (row:List Int),seen.length=n.length->(∀ k∈row,0<=k∧k < n.length) ->
  (∀ j,seen.getD j false=true->j≠i∧∀ k∈nd n j,seen.getD k false=true∨(k:Int)∈row)->zjO n i f seen row=some false ->
  ∃ S:Nat->Prop,(∀ j,seen.getD j false=true->S j)∧(∀ k∈row,S k.toNat)∧(∀ j,S j->∀ k∈nd n j,S k)∧¬ S i
 | 0,_,_,_,_,_,h=>by cases h
 | f+1,seen,[],hs,_,hc,_=>⟨fun j=>seen.getD j false=true,fun j hj=>hj,fun k hk=>(by cases hk),fun j hj k hk=>((hc j hj).2 k hk).elim id (fun e=>by cases e),fun hi=>(hc i hi).1 rfl⟩
 | f+1,seen,k :: row,hs,hk,hc,h=>by
  have cC:=hk k (by simp);simp only[zjO] at h;split at h
  ·cases h
  rename_i e;split at h
  ·rename_i e2;obtain ⟨S,s1,s2,s3,s4⟩:=zbB hr i f seen row hs (fun x hx=>hk x (Ae _ hx)) (fun j hj=>⟨(hc j hj).1,fun x hx=>by
    rcases (hc j hj).2 x hx with h1 | h1
    ·exact .inl h1
    ·rcases Ap.1 h1 with h1 | h1
     ·left;rw[← e2,← h1];simp
     ·exact .inr h1⟩) h
   refine ⟨S,s1,fun x hx => ?_,s3,s4⟩;rcases Ap.1 hx with rfl | hx
   ·exact s1 _ e2
   ·exact s2 x hx
  ·rename_i e2;have hg:∀ j,(seen.set k.toNat true).getD j false=true↔j=k.toNat∨seen.getD j false=true:=by
    intro j;simp only[Aw,BO];by_cases hj:k.toNat=j
    ·subst hj;simp[show k.toNat < seen.length by omega]
    ·rw[if_neg hj];constructor
     ·exact .inr
     ·rintro (h1 | h1)
      ·exact absurd h1.symm hj
      ·exact h1
   obtain ⟨S,s1,s2,s3,s4⟩:=zbB hr i f (seen.set k.toNat true) (row++n.getD k.toNat []) (by simpa using hs) (fun x hx=>by
     rcases Ak.1 hx with hx | hx
     ·exact hk x (Ae _ hx)
     ·exact hr _ x hx) (fun j hj=>by
     rcases (hg j).1 hj with rfl | hj
     ·refine ⟨by omega,fun x hx=>.inr ?_⟩;simp only[nd,Am] at hx;obtain ⟨y,hy,rfl⟩:=hx;have:=(hr _ y hy).1;rw[show ((y.toNat:Nat):Int)=y by omega];exact List.mem_append_right _ hy
     ·refine ⟨(hc j hj).1,fun x hx => ?_⟩;rcases (hc j hj).2 x hx with h1 | h1
      ·exact .inl ((hg x).2 (.inr h1))
      ·rcases Ap.1 h1 with h1 | h1
       ·left;exact (hg x).2 (.inl (by omega))
       ·exact .inr (List.mem_append_left _ h1)) h
   refine ⟨S,fun j hj=>s1 j ((hg j).2 (.inr hj)),fun x hx => ?_,s3,s4⟩;rcases Ap.1 hx with rfl | hx
   ·exact s1 _ ((hg _).2 (.inl rfl))
   ·exact s2 x (List.mem_append_left _ hx)
def zeC (n:List (List Int)) (i:Nat):Option Bool:=zjO n i (eP n (List.replicate n.length false)+(n.getD i []).length+1) (List.replicate n.length false) (n.getD i [])
def rep_false (m j:Nat):(List.replicate m false).getD j false=false:=by
 simp only[Aw,CH]
 split<;>rfl
def nD {n:List (List Int)} (hr:Rng n) (i:Nat):∃ b,zeC n i=some b:=zdw hr i _ _ _ (by simp) (fun k hk=>hr i k hk) (by omega)
def zjg {n:List (List Int)} (hr:Rng n) {i:Nat} (h:zeC n i=some true):Reach n i i :=
 zdv hr i i _ _ _ (fun k hk=>⟨(hr i k hk).1,.one (Am.2 ⟨k,hk,rfl⟩)⟩) h
def zho {n:List (List Int)} (hr:Rng n) {i:Nat} (h:zeC n i=some false):∃ S:Nat->Prop,(∀ k∈nd n i,S k)∧(∀ j,S j->∀ k∈nd n j,S k)∧¬ S i:=by obtain ⟨S,_,s2,s3,s4⟩:=zbB hr i _ _ _ (by simp) (fun k hk=>hr i k hk) (fun j hj=>by rw[rep_false] at hj;cases hj) h;refine ⟨S,fun k hk => ?_,s3,s4⟩;simp only[nd,Am] at hk;obtain ⟨x,hx,rfl⟩:=hk;exact s2 x hx
def zf4 {n:List (List Int)} {S:Nat->Prop} (hS:∀ j,S j->∀ k∈nd n j,S k) {a b:Nat} (h:Reach n a b):(∀ k∈nd n a,S k)->S b:=by
 induction h with
 | one h=>exact fun h1=>h1 _ h
 | more h _ ih=>exact fun h1=>ih fun k hk=>hS _ (h1 _ h) k hk
def selfN_iff {n:List (List Int)} (hr:Rng n) (i:Nat):zeC n i=some true↔Reach n i i:=by
 constructor
 ·exact zjg hr
 ·intro h;obtain ⟨b,hb⟩:=nD hr i;cases b with
  | true=>exact hb
  | false =>obtain ⟨S,s1,s2,s3⟩:=zho hr hb;exact absurd (zf4 s2 h s1) s3
end
end Ab
