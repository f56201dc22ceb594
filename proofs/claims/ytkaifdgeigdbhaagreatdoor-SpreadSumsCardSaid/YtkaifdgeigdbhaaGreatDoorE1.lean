import Derived.Test.YtkaifdgeigdbhaaGreatDoorHM
set_option linter.all false
namespace Ab
section
def nd (n:List (List Int)) (i:Nat):List Nat:=(n.getD i []).map Int.toNat
def Rng (n:List (List Int)):Prop:=∀ i k,k∈n.getD i []->0<=k∧k < n.length
def Rng.nd {n:List (List Int)} (h:Rng n) {i k:Nat} (hk:k∈nd n i):k < n.length:=by simp only[Ab.nd,Al] at hk;obtain ⟨x,hx,rfl⟩:=hk;have:=h i x hx;omega
def zeY:∀ (l l':List Nat),l.Nodup->(∀ x∈l,x∈l')->l.length<=l'.length
 | [],_,_,_=>BE _
 | a :: r,l',h,hs=>by
  have ha:=hs a (by simp);rw[BM] at h;have ih:=zeY r (l'.erase a) h.2 fun x hx=>(C4 (by rintro rfl;exact h.1 hx)).2 (hs x (Ae _ hx));rw[CS ha] at ih;have:0 < l'.length:=CW ha;simp only[As];omega
def nextB (n:List (List Int)) (out:List Nat):Option Nat:=(List.range n.length).find? fun i => !out.contains i && (nd n i).all fun k=>out.contains k
def gj (n:List (List Int)) (out:List Nat):Prop:=out.Nodup∧(∀ i∈out,i < n.length)∧∀ j i,out[j]? = some i->∀ k∈nd n i,k∈out.take j
def zj8 {n:List (List Int)} {out:List Nat} {i:Nat} (h:nextB n out=some i):i < n.length∧i ∉ out∧∀ k∈nd n i,k∈out:=by
 have h1:=List.find?_some h;have h2:=List.mem_of_find?_eq_some h;simp only[Am,AR,Af] at h1;refine ⟨A9.1 h2,fun hm => ?_,fun k hk => ?_⟩
 ·have:=h1.1;rw[List.contains_iff_mem.2 hm] at this;cases this
 ·exact List.contains_iff_mem.1 (h1.2 k hk)
def gj.add {n:List (List Int)} {out:List Nat} (ho:gj n out) {i:Nat} (h:nextB n out=some i):gj n (out++[i]):=by
 obtain ⟨h1,h2,h3⟩:=zj8 h;refine ⟨?_,fun x hx => ?_,fun j x hj k hk => ?_⟩
 ·rw[Di];exact ⟨ho.1,by simp,fun a ha b hb e=>h2 (by rw[Ah.1 hb] at e;rw[← e];exact ha)⟩
 ·rcases Aj.1 hx with hx | hx
  ·exact ho.2.1 x hx
  ·rw[Ah.1 hx];exact h1
 ·by_cases bo:j < out.length
  ·rw[Aw bo] at hj;rw[List.take_append_of_le_length (by omega)];exact ho.2.2 j x hj k hk
  ·rw[AM (by omega)] at hj;have nP:j=out.length:=(by have:=(Ac.1 hj).1;simp at this;omega);subst nP;simp at hj;subst hj;rw[List.take_left];exact h3 k hk
def gj.nil (n:List (List Int)):gj n []:=⟨List.nodup_nil,(fun _ h=>by cases h),fun j i h=>by simp at h⟩
def gj.le {n:List (List Int)} {out:List Nat} (ho:gj n out):out.length<=n.length:=by
 have:=zeY out (List.range n.length) ho.1 fun x hx=>A9.2 (ho.2.1 x hx)
 rwa [BV] at this
end
section
def bfsN (n:List (List Int)) (i:Nat):Nat->List Bool->List Int->Option Bool
 | 0,_,_=>none
 | f+1,seen,[]=>some false
 | f+1,seen,k :: row=>if k=i then some true else if seen.getD k.toNat false=true then bfsN n i f seen row else bfsN n i f (seen.set k.toNat true) (row++n.getD k.toNat [])
def zfM (n:List (List Int)) (seen:List Bool):Nat:=((List.range n.length).map fun k=>if seen.getD k false=true then 0 else (n.getD k []).length).sum
def zeO:∀ (l:List Nat) (f g:Nat->Nat) (k d:Nat),l.Nodup->k∈l->(∀ j,j≠k->f j=g j)->f k=g k+d->(l.map f).sum=(l.map g).sum+d
 | [],_,_,_,_,_,h,_,_=>by cases h
 | a :: r,f,g,k,d,hn,hk,h1,h2=>by
  rw[BM] at hn;simp only[Aq,B4];by_cases e:a=k
  ·subst e;have:r.map f=r.map g:=Ak fun x hx=>h1 x (by rintro rfl;exact hn.1 hx);rw[this,h2];omega
  ·have ay:k∈r:=by
    rcases Ar.1 hk with rfl | h
    ·exact absurd rfl e
    ·exact h
   rw[h1 a e,zeO r f g k d hn.2 ay h1 h2];omega
def zhb {n:List (List Int)} {seen:List Bool} (hs:seen.length=n.length) {k:Nat} (hk:k < n.length) (h:seen.getD k false=false):zfM n seen=zfM n (seen.set k true)+(n.getD k []).length:=by
 unfold zfM;refine zeO _ _ _ k _ List.nodup_range (A9.2 hk) (fun j hj => ?_) ?_
 ·have h1:(seen.set k true).getD j false=seen.getD j false:=(by simp only[AL,B6];rw[if_neg (fun e:k=j=>hj e.symm)]);show (if seen.getD j false=true then _ else _)=if (seen.set k true).getD j false=true then _ else _
  rw[h1]
 ·have h1:(seen.set k true).getD k false=true:=(by simp only[AL,B6];simp[hs,hk]);show (if seen.getD k false=true then 0 else _)=(if (seen.set k true).getD k false=true then 0 else _)+_
  rw[h,h1];simp
def zef {n:List (List Int)} (hr:Rng n) (i:Nat):∀ (f:Nat) (seen:List Bool) (row:List Int),seen.length=n.length->(∀ k∈row,0<=k∧k < n.length)->zfM n seen+row.length < f->∃ b,bfsN n i f seen row=some b
 | 0,_,_,_,_,h=>by omega
 | f+1,seen,[],_,_,_=>⟨false,rfl⟩
 | f+1,seen,k :: row,hs,hk,h=>by
  have dA:=hk k (by simp);simp only[As] at h;simp only[bfsN];split
  ·exact ⟨true,rfl⟩
  split
  ·exact zef hr i f seen row hs (fun x hx=>hk x (Ae _ hx)) (by omega)
  ·rename_i h1;have h2:=zhb (n:=n) hs (k:=k.toNat) (by omega) (Bool.eq_false_iff.2 h1);refine zef hr i f _ _ (by simpa using hs) (fun x hx => ?_) (by rw[Ax];omega);rcases Aj.1 hx with hx | hx
   ·exact hk x (Ae _ hx)
   ·exact hr _ x hx
inductive Reach (n:List (List Int)):Nat->Nat->Prop
 | one {a b:Nat}:b∈nd n a->Reach n a b
 | more {a b c:Nat}:b∈nd n a->Reach n b c->Reach n a c
def zjW (n:List (List Int)) (i:Nat):Option Bool:=bfsN n i (zfM n (List.replicate n.length false)+(n.getD i []).length+1) (List.replicate n.length false) (n.getD i [])
def zjV {n:List (List Int)} (hr:Rng n) (i:Nat):∃ b,zjW n i=some b:=zef hr i _ _ _ (by simp) (fun k hk=>hr i k hk) (by omega)
end
end Ab
