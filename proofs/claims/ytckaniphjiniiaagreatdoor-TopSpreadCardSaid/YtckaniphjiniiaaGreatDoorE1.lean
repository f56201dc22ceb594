import Derived.Test.YtckaniphjiniiaaGreatDoorHM
set_option linter.all false
namespace Ab
section
def nd (n:List (List Int)) (i:Nat):List Nat:=(n.getD i []).map Int.toNat
def Rng (n:List (List Int)):Prop:=∀i k,k∈n.getD i []->0<=k∧k<n.length
def Acyc (n:List (List Int)):Prop:=∀i,i<n.length->∃S:Nat->Prop,(∀k∈nd n i,S k)∧(∀j,S j->∀k∈nd n j,S k)∧¬S i
def Rng.nd {n:List (List Int)} (h:Rng n) {i k:Nat} (hk:k∈nd n i):k<n.length:=by simp only[Ab.nd,Al] at hk;obtain⟨x,hx,rfl⟩:=hk;have:=h i x hx;omega
def zaV:∀(l l':List Nat),l.Nodup->(∀x∈l,x∈l')->l.length<=l'.length
 | [],_,_,_=>BM _
 | a::r,l',h,hs=>by
  have ha:=hs a (by simp);rw[BS] at h;have ih:=zaV r (l'.erase a) h.2 fun x hx=>(Dt (by rintro rfl;exact h.1 hx)).2 (hs x (Ad _ hx));rw[Da ha] at ih;have:0<l'.length:=Dg ha;simp only[Ax];omega
def pigeonN (m:Nat) (f:Nat->Nat) (h:∀j,f j<m):∃a b,a<b∧f a=f b:=by refine Ba fun hc => ?_;have ay:∀a b,a<b->f a≠f b:=fun a b gh e=>hc ⟨a,b,gh,e⟩;have hn:((List.range (m+1)).map f).Nodup:=(by rw[List.nodup_iff_pairwise_ne,CA];exact Df.imp fun {a b} gh=>ay a b gh);have:=zaV _ (List.range m) hn fun x hx=>(by obtain⟨j,_,rfl⟩:=Al.1 hx;exact AR.2 (h j));simp at this;omega
def pickN {n:List (List Int)} (hr:Rng n) (ha:Acyc n) (done:Nat->Prop) {i0:Nat} (h0:i0<n.length) (hu:¬done i0) :
  ∃i,i<n.length∧¬done i∧∀k∈nd n i,done k:=by
 refine Ba fun hc => ?_;have gX:∀i:{i // i<n.length∧¬done i},∃k:{i // i<n.length∧¬done i},k.1∈nd n i.1:=(by rintro⟨i,h1,h2⟩;refine Ba fun hn=>hc ⟨i,h1,h2,fun k hk=>Ba fun hd=>hn ⟨⟨k,hr.nd hk,hd⟩,hk⟩⟩)
 let nx:=fun i=>Classical.choose (gX i)
 have iQ:∀i,(nx i).1∈nd n i.1:=fun i=>Dn (gX i)
 let f:Nat->{i // i<n.length∧¬done i}:=fun j=>Nat.rec ⟨i0,h0,hu⟩ (fun _ x=>nx x) j
 have hf:∀j,f (j+1)=nx (f j):=fun _=>rfl;obtain⟨a,b,gh,he⟩:=pigeonN n.length (fun j=>(f j).1) fun j=>(f j).2.1;obtain⟨S,s1,s2,s3⟩:=ha (f a).1 (f a).2.1;have hS:∀d,S (f (a+1+d)).1:=by
  intro d
  induction d with
  | zero=>exact s1 _ (by rw[BF,hf];exact iQ _)
  | succ d ih=>exact s2 _ ih _ (by rw[show a+1+(d+1)=(a+1+d)+1 by omega,hf];exact iQ _)
 have h3:=hS (b-a-1);rw[show a+1+(b-a-1)=b by omega] at h3;rw[←he] at h3;exact s3 h3
def nextB (n:List (List Int)) (out:List Nat):Option Nat:=(List.range n.length).find? fun i => !out.contains i && (nd n i).all fun k=>out.contains k
def zcQ (n:List (List Int)):Nat->List Nat->List Nat
 | 0,out=>out
 | f+1,out=>match nextB n out with|some i=>zcQ n f (out++[i])|none=>out
def zao (n:List (List Int)) (out:List Nat):Prop:=out.Nodup∧(∀i∈out,i<n.length)∧∀j i,out[j]? = some i->∀k∈nd n i,k∈out.take j
def zmm {n:List (List Int)} {out:List Nat} {i:Nat} (h:nextB n out=some i):i<n.length∧i∉out∧∀k∈nd n i,k∈out:=by
 have h1:=List.find?_some h;have h2:=List.mem_of_find?_eq_some h;simp only[Ai,AU,Af] at h1;refine⟨AR.1 h2,fun hm => ?_,fun k hk => ?_⟩
 ·have:=h1.1;rw[CF.2 hm] at this;cases this
 ·exact CF.1 (h1.2 k hk)
def zmn {n:List (List Int)} (hr:Rng n) (ha:Acyc n) {out:List Nat} (ho:zao n out) (hl:out.length<n.length):∃i,nextB n out=some i:=by
 have hx:∃i0,i0<n.length∧i0∉out:=(by refine Ba fun hc => ?_;have:=zaV (List.range n.length) out Dc fun x hx=>Ba fun hn=>hc ⟨x,AR.1 hx,hn⟩;rw[BQ] at this;omega);obtain⟨i0,h0,hu⟩:=hx;obtain⟨i,h1,h2,h3⟩:=pickN hr ha (·∈out) h0 hu;cases hn:nextB n out with
 | some i=>exact⟨i,rfl⟩
 | none =>have:=List.find?_eq_none.1 hn i (AR.2 h1);refine absurd ?_ this;simp only[Ai,AU,Af];refine⟨?_,fun k hk=>CF.2 (h3 k hk)⟩;rw[DL];exact fun hc=>h2 (CF.1 hc)
def zao.add {n:List (List Int)} {out:List Nat} (ho:zao n out) {i:Nat} (h:nextB n out=some i):zao n (out++[i]):=by
 obtain⟨h1,h2,h3⟩:=zmm h;refine⟨?_,fun x hx => ?_,fun j x hj k hk => ?_⟩
 ·rw[DH];exact⟨ho.1,by simp,fun a ha b hb e=>h2 (by rw[Ah.1 hb] at e;rw[←e];exact ha)⟩
 ·rcases Aj.1 hx with hx|hx
  ·exact ho.2.1 x hx
  ·rw[Ah.1 hx];exact h1
 ·by_cases bA:j<out.length
  ·rw[AG bA] at hj;rw[List.take_append_of_le_length (by omega)];exact ho.2.2 j x hj k hk
  ·rw[AM (by omega)] at hj;have pM:j=out.length:=(by have:=(Ac.1 hj).1;simp at this;omega);subst pM;simp at hj;subst hj;rw[List.take_left];exact h3 k hk
def zao.nil (n:List (List Int)):zao n []:=⟨List.nodup_nil,(fun _ h=>by cases h),fun j i h=>by simp at h⟩
def zgh {n:List (List Int)} (hr:Rng n) (ha:Acyc n):∀(f:Nat) (out:List Nat),zao n out->out.length+f=n.length->zao n (zcQ n f out)∧(zcQ n f out).length=n.length
 | 0,out,ho,hl=>⟨ho,by simpa[zcQ] using hl⟩
 | f+1,out,ho,hl=>by
  obtain⟨i,hi⟩:=zmn hr ha ho (by omega);simp only[zcQ,hi];exact zgh hr ha f _ (ho.add hi) (by simp;omega)
def zkx (n:List (List Int)):List Nat:=zcQ n n.length []
def zmJ {n:List (List Int)} (hr:Rng n) (ha:Acyc n):zao n (zkx n)∧(zkx n).length=n.length:=zgh hr ha _ _ (.nil n) (by simp)
def rank_of {n:List (List Int)} (hr:Rng n) (ha:Acyc n):∃r:Nat->Nat,(∀i,i<n.length->r i<n.length)∧∀i,i<n.length->∀k∈nd n i,r k<r i:=by
 obtain⟨ho,hl⟩:=zmJ hr ha;generalize zkx n=out at *;have hall:∀i,i<n.length->i∈out:=fun i hi=>by
  refine Ba fun hn => ?_;have:=zaV (i::out) (List.range n.length) (BS.2 ⟨hn,ho.1⟩) fun x hx=>by
   rcases Ar.1 hx with rfl|hx
   ·exact AR.2 hi
   ·exact AR.2 (ho.2.1 x hx)
  simp at this;omega
 refine⟨fun i=>out.idxOf i,fun i hi=>by rw[←hl];exact CR (hall i hi),fun i hi k hk => ?_⟩;have h1:=CR (hall i hi);have h2:out[out.idxOf i]? = some i:=(by rw[Aa h1];simp);have h3:=ho.2.2 _ _ h2 k hk;have h4:=CR h3;rw[A3] at h4;have h5:out.idxOf k=(out.take (out.idxOf i)).idxOf k:=by
  conv=>lhs;rw[←Cp (out.idxOf i) out]
  rw[List.idxOf_append,if_pos h3]
 show out.idxOf k<out.idxOf i;omega
end
section
def zmP (n:List (List Int)) (i:Nat):Nat->List Bool->List Int->Option Bool
 | 0,_,_=>none
 | f+1,seen,[]=>some false
 | f+1,seen,k::row=>if k=i then some true else if seen.getD k.toNat false=true then zmP n i f seen row else zmP n i f (seen.set k.toNat true) (row++n.getD k.toNat [])
def gj (n:List (List Int)) (seen:List Bool):Nat:=((List.range n.length).map fun k=>if seen.getD k false=true then 0 else (n.getD k []).length).sum
def zfI:∀(l:List Nat) (f g:Nat->Nat) (k d:Nat),l.Nodup->k∈l->(∀j,j≠k->f j=g j)->f k=g k+d->(l.map f).sum=(l.map g).sum+d
 | [],_,_,_,_,_,h,_,_=>by cases h
 | a::r,f,g,k,d,hn,hk,h1,h2=>by
  rw[BS] at hn;simp only[Aw,B6];by_cases e:a=k
  ·subst e;have:r.map f=r.map g:=Am fun x hx=>h1 x (by rintro rfl;exact hn.1 hx);rw[this,h2];omega
  ·have aA:k∈r:=by
    rcases Ar.1 hk with rfl|h
    ·exact absurd rfl e
    ·exact h
   rw[h1 a e,zfI r f g k d hn.2 aA h1 h2];omega
def ziE {n:List (List Int)} {seen:List Bool} (hs:seen.length=n.length) {k:Nat} (hk:k<n.length) (h:seen.getD k false=false):gj n seen=gj n (seen.set k true)+(n.getD k []).length:=by
 unfold gj;refine zfI _ _ _ k _ Dc (AR.2 hk) (fun j hj => ?_) ?_
 ·have h1:(seen.set k true).getD j false=seen.getD j false:=(by simp only[An,B2];rw[if_neg (fun e:k=j=>hj e.symm)]);show (if seen.getD j false=true then _ else _)=if (seen.set k true).getD j false=true then _ else _
  rw[h1]
 ·have h1:(seen.set k true).getD k false=true:=(by simp only[An,B2];simp[hs,hk]);show (if seen.getD k false=true then 0 else _)=(if (seen.set k true).getD k false=true then 0 else _)+_
  rw[h,h1];simp
def n9 {n:List (List Int)} (hr:Rng n) (i:Nat):∀(f:Nat) (seen:List Bool) (row:List Int),seen.length=n.length->(∀k∈row,0<=k∧k<n.length)->gj n seen+row.length<f->∃b,zmP n i f seen row=some b
 | 0,_,_,_,_,h=>by omega
 | f+1,seen,[],_,_,_=>⟨false,rfl⟩
 | f+1,seen,k::row,hs,hk,h=>by
  have bX:=hk k (by simp);simp only[Ax] at h;simp only[zmP];split
  ·exact⟨true,rfl⟩
  split
  ·exact n9 hr i f seen row hs (fun x hx=>hk x (Ad _ hx)) (by omega)
  ·rename_i h1;have h2:=ziE (n:=n) hs (k:=k.toNat) (by omega) (DL.2 h1);refine n9 hr i f _ _ (by simpa using hs) (fun x hx => ?_) (by rw[AB];omega);rcases Aj.1 hx with hx|hx
   ·exact hk x (Ad _ hx)
   ·exact hr _ x hx
inductive Reach (n:List (List Int)):Nat->Nat->Prop
 | one {a b:Nat}:b∈nd n a->Reach n a b
 | more {a b c:Nat}:b∈nd n a->Reach n b c->Reach n a c
def Reach.snoc {n:List (List Int)} {a b c:Nat} (h:Reach n a b) (hc:c∈nd n b):Reach n a c:=by
 induction h with
 | one h=>exact .more h (.one hc)
 | more h _ ih=>exact .more h (ih hc)
def oa {n:List (List Int)} (hr:Rng n) (a i:Nat):∀(f:Nat) (seen:List Bool) (row:List Int),(∀k∈row,0<=k∧Reach n a k.toNat)->zmP n i f seen row=some true->Reach n a i
 | 0,_,_,_,h=>by cases h
 | f+1,seen,[],_,h=>by cases h
 | f+1,seen,k::row,hk,h=>by
  have bX:=hk k (by simp);simp only[zmP] at h;split at h
  ·rename_i e;have:k.toNat=i:=by omega
   rw[←this];exact bX.2
  split at h
  ·exact oa hr a i f seen row (fun x hx=>hk x (Ad _ hx)) h
  ·refine oa hr a i f _ _ (fun x hx => ?_) h;rcases Aj.1 hx with hx|hx
   ·exact hk x (Ad _ hx)
   ·exact⟨(hr _ x hx).1,bX.2.snoc (Al.2 ⟨x,hx,rfl⟩)⟩
def zcP {n:List (List Int)} (hr:Rng n) (i:Nat):∀(f:Nat) (seen:List Bool) (row:List Int),seen.length=n.length->(∀k∈row,0<=k∧k<n.length) ->
  (∀j,seen.getD j false=true->j≠i∧∀k∈nd n j,seen.getD k false=true∨(k:Int)∈row)->zmP n i f seen row=some false ->
  ∃S:Nat->Prop,(∀j,seen.getD j false=true->S j)∧(∀k∈row,S k.toNat)∧(∀j,S j->∀k∈nd n j,S k)∧¬S i
 | 0,_,_,_,_,_,h=>by cases h
 | f+1,seen,[],hs,_,hc,_=>⟨fun j=>seen.getD j false=true,fun j hj=>hj,fun k hk=>(by cases hk),fun j hj k hk=>((hc j hj).2 k hk).elim id (fun e=>by cases e),fun hi=>(hc i hi).1 rfl⟩
 | f+1,seen,k::row,hs,hk,hc,h=>by
  have bX:=hk k (by simp);simp only[zmP] at h;split at h
  ·cases h
  rename_i e;split at h
  ·rename_i e2;obtain⟨S,s1,s2,s3,s4⟩:=zcP hr i f seen row hs (fun x hx=>hk x (Ad _ hx)) (fun j hj=>⟨(hc j hj).1,fun x hx=>by
    rcases (hc j hj).2 x hx with h1|h1
    ·exact .inl h1
    ·rcases Ar.1 h1 with h1|h1
     ·left;rw[←e2,←h1];simp
     ·exact .inr h1⟩) h
   refine⟨S,s1,fun x hx => ?_,s3,s4⟩;rcases Ar.1 hx with rfl|hx
   ·exact s1 _ e2
   ·exact s2 x hx
  ·rename_i e2;have hg:∀j,(seen.set k.toNat true).getD j false=true↔j=k.toNat∨seen.getD j false=true:=by
    intro j;simp only[An,B2];by_cases hj:k.toNat=j
    ·subst hj;simp[show k.toNat<seen.length by omega]
    ·rw[if_neg hj];constructor
     ·exact .inr
     ·rintro (h1|h1)
      ·exact absurd h1.symm hj
      ·exact h1
   obtain⟨S,s1,s2,s3,s4⟩:=zcP hr i f (seen.set k.toNat true) (row++n.getD k.toNat []) (by simpa using hs) (fun x hx=>by
     rcases Aj.1 hx with hx|hx
     ·exact hk x (Ad _ hx)
     ·exact hr _ x hx) (fun j hj=>by
     rcases (hg j).1 hj with rfl|hj
     ·refine⟨by omega,fun x hx=>.inr ?_⟩;simp only[nd,Al] at hx;obtain⟨y,hy,rfl⟩:=hx;have:=(hr _ y hy).1;rw[show ((y.toNat:Nat):Int)=y by omega];exact List.mem_append_right _ hy
     ·refine⟨(hc j hj).1,fun x hx => ?_⟩;rcases (hc j hj).2 x hx with h1|h1
      ·exact .inl ((hg x).2 (.inr h1))
      ·rcases Ar.1 h1 with h1|h1
       ·left;exact (hg x).2 (.inl (by omega))
       ·exact .inr (List.mem_append_left _ h1)) h
   refine⟨S,fun j hj=>s1 j ((hg j).2 (.inr hj)),fun x hx => ?_,s3,s4⟩;rcases Ar.1 hx with rfl|hx
   ·exact s1 _ ((hg _).2 (.inl rfl))
   ·exact s2 x (List.mem_append_left _ hx)
def zgB (n:List (List Int)) (i:Nat):Option Bool:=zmP n i (gj n (List.replicate n.length false)+(n.getD i []).length+1) (List.replicate n.length false) (n.getD i [])
def rep_false (m j:Nat):(List.replicate m false).getD j false=false:=by
 simp only[An,B3]
 split<;>rfl
def zcn {n:List (List Int)} (hr:Rng n) (i:Nat):∃b,zgB n i=some b:=n9 hr i _ _ _ (by simp) (fun k hk=>hr i k hk) (by omega)
def zl8 {n:List (List Int)} (hr:Rng n) {i:Nat} (h:zgB n i=some true):Reach n i i :=
 oa hr i i _ _ _ (fun k hk=>⟨(hr i k hk).1,.one (Al.2 ⟨k,hk,rfl⟩)⟩) h
def zec {n:List (List Int)} (hr:Rng n) {i:Nat} (h:zgB n i=some false):∃S:Nat->Prop,(∀k∈nd n i,S k)∧(∀j,S j->∀k∈nd n j,S k)∧¬S i:=by obtain⟨S,_,s2,s3,s4⟩:=zcP hr i _ _ _ (by simp) (fun k hk=>hr i k hk) (fun j hj=>by rw[rep_false] at hj;cases hj) h;refine⟨S,fun k hk => ?_,s3,s4⟩;simp only[nd,Al] at hk;obtain⟨x,hx,rfl⟩:=hk;exact s2 x hx
def zih {n:List (List Int)} {S:Nat->Prop} (hS:∀j,S j->∀k∈nd n j,S k) {a b:Nat} (h:Reach n a b):(∀k∈nd n a,S k)->S b:=by
 induction h with
 | one h=>exact fun h1=>h1 _ h
 | more h _ ih=>exact fun h1=>ih fun k hk=>hS _ (h1 _ h) k hk
def selfN_iff {n:List (List Int)} (hr:Rng n) (i:Nat):zgB n i=some true↔Reach n i i:=by
 constructor
 ·exact zl8 hr
 ·intro h;obtain⟨b,hb⟩:=zcn hr i;cases b with
  | true=>exact hb
  | false =>obtain⟨S,s1,s2,s3⟩:=zec hr hb;exact absurd (zih s2 h s1) s3
end
end Ab
